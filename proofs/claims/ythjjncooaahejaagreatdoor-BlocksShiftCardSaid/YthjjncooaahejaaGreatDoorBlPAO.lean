/- What the theorem leans on, part 15. -/
import Derived.Test.YthjjncooaahejaaGreatDoorBlPAA
import Derived.Test.YthjjncooaahejaaGreatDoorBlPAB
import Derived.Test.YthjjncooaahejaaGreatDoorBlPAC
import Derived.Test.YthjjncooaahejaaGreatDoorBlPAD
import Derived.Test.YthjjncooaahejaaGreatDoorBlPAE
import Derived.Test.YthjjncooaahejaaGreatDoorBlPAF
import Derived.Test.YthjjncooaahejaaGreatDoorBlPAG
import Derived.Test.YthjjncooaahejaaGreatDoorBlPAH
import Derived.Test.YthjjncooaahejaaGreatDoorBlPAI
import Derived.Test.YthjjncooaahejaaGreatDoorBlPAJ
import Derived.Test.YthjjncooaahejaaGreatDoorBlPAN
namespace Go.Proofs.YthjjncooaahejaaGreatDoor
open Go
theorem st_blocks : isStT Tryz.prog 22 = false := by kernel_rfl
theorem st_changes : isStT Tryz.prog 35 = false := by kernel_rfl
theorem ofC_blocks {x : D} (hx : OfC (.sl 4 true [.int .i64, .int .i64, .int .i64, .bool]) x) : ∃ l : List Bk, l.length ≤ maxLen ∧ x = .sd 4 false (l.map bkD) := by
  obtain ⟨es, rfl, hle, hes⟩ := ofC_sl hx
  obtain ⟨l, rfl⟩ : ∃ l : List Bk, es = l.map bkD := list_of bkD fun y hy => by
    obtain ⟨ds, rfl, hd⟩ := hes y hy
    obtain ⟨p1, q1, rfl, u1, v1⟩ := ofCs_cons hd
    obtain ⟨p2, q2, rfl, u2, v2⟩ := ofCs_cons v1
    obtain ⟨p3, p4, rfl, u3, u4⟩ := ofCs2 v2
    obtain ⟨m1, rfl⟩ := ofC_int u1
    obtain ⟨m2, rfl⟩ := ofC_int u2
    obtain ⟨m3, rfl⟩ := ofC_int u3
    simp only [OfC] at u4
    obtain ⟨b, rfl⟩ := u4
    exact ⟨(m1, m2, m3, b), rfl⟩
  exact ⟨l, by simpa using hle, rfl⟩
theorem ofC_changes {x : D} (hx : OfC (.sl 4 true [.int .i64, .int .i64, .int .i64, .int .i64]) x) : ∃ l : List Ch, l.length ≤ maxLen ∧ x = .sd 4 false (l.map chD) := by
  obtain ⟨es, rfl, hle, hes⟩ := ofC_sl hx
  obtain ⟨l, rfl⟩ : ∃ l : List Ch, es = l.map chD := list_of chD fun y hy => by
    obtain ⟨ds, rfl, hd⟩ := hes y hy
    obtain ⟨p1, q1, rfl, u1, v1⟩ := ofCs_cons hd
    obtain ⟨p2, q2, rfl, u2, v2⟩ := ofCs_cons v1
    obtain ⟨p3, p4, rfl, u3, u4⟩ := ofCs2 v2
    obtain ⟨m1, rfl⟩ := ofC_int u1
    obtain ⟨m2, rfl⟩ := ofC_int u2
    obtain ⟨m3, rfl⟩ := ofC_int u3
    obtain ⟨m4, rfl⟩ := ofC_int u4
    exact ⟨(m1, m2, m3, m4), rfl⟩
  exact ⟨l, by simpa using hle, rfl⟩
end Go.Proofs.YthjjncooaahejaaGreatDoor
