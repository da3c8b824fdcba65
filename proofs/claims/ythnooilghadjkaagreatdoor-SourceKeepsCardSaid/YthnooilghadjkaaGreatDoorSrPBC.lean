/- What the theorem leans on, part 29. -/
import Derived.Test.YthnooilghadjkaaGreatDoorSrPAA
import Derived.Test.YthnooilghadjkaaGreatDoorSrPAB
import Derived.Test.YthnooilghadjkaaGreatDoorSrPAC
import Derived.Test.YthnooilghadjkaaGreatDoorSrPAD
import Derived.Test.YthnooilghadjkaaGreatDoorSrPAE
import Derived.Test.YthnooilghadjkaaGreatDoorSrPAF
import Derived.Test.YthnooilghadjkaaGreatDoorSrPAG
import Derived.Test.YthnooilghadjkaaGreatDoorSrPAH
import Derived.Test.YthnooilghadjkaaGreatDoorSrPAI
import Derived.Test.YthnooilghadjkaaGreatDoorSrPAJ
import Derived.Test.YthnooilghadjkaaGreatDoorSrPAK
import Derived.Test.YthnooilghadjkaaGreatDoorSrPAL
import Derived.Test.YthnooilghadjkaaGreatDoorSrPAM
import Derived.Test.YthnooilghadjkaaGreatDoorSrPAN
import Derived.Test.YthnooilghadjkaaGreatDoorSrPAO
import Derived.Test.YthnooilghadjkaaGreatDoorSrPAP
import Derived.Test.YthnooilghadjkaaGreatDoorSrPAQ
import Derived.Test.YthnooilghadjkaaGreatDoorSrPAR
import Derived.Test.YthnooilghadjkaaGreatDoorSrPAS
import Derived.Test.YthnooilghadjkaaGreatDoorSrPAT
import Derived.Test.YthnooilghadjkaaGreatDoorSrPAU
import Derived.Test.YthnooilghadjkaaGreatDoorSrPAV
import Derived.Test.YthnooilghadjkaaGreatDoorSrPAW
import Derived.Test.YthnooilghadjkaaGreatDoorSrPBB
namespace Go.Proofs.YthnooilghadjkaaGreatDoor
open Go
theorem st_text : isStT Tryz.prog 45 = true := by kernel_rfl
theorem ofC_int64 {d : D} (h : OfC (.int .i64) d) : ∃ n, d = .lit (.int .i64 n) ∧ n ≤ 9223372036854775807 := by
  simp only [OfC] at h
  obtain ⟨n, rfl, hw⟩ := h
  refine ⟨n, rfl, ?_⟩
  simp only [Lit.wf, Bool.and_eq_true, decide_eq_true_eq] at hw
  have h2 := hw.2
  have e : IntKind.i64.max = 9223372036854775807 := by decide
  omega
theorem ofC_inlays {x : D} (hx : OfC (.sl 5 true [.int .i64, .int .i64, .int .i64, .int .i64, .str]) x) : ∃ l : List Iy, x = .sd 5 false (l.map iyD) := by
  obtain ⟨e6, rfl, l6, g6⟩ := ofC_sl hx
  obtain ⟨is, rfl⟩ : ∃ l : List Iy, e6 = l.map iyD := list_of iyD fun y hy => by
    obtain ⟨ds, rfl, hd⟩ := g6 y hy
    obtain ⟨p1, q1, rfl, u1, v1⟩ := ofCs_cons hd
    obtain ⟨p2, q2, rfl, u2, v2⟩ := ofCs_cons v1
    obtain ⟨p3, q3, rfl, u3, v3⟩ := ofCs_cons v2
    obtain ⟨p4, p5, rfl, u4, u5⟩ := ofCs2 v3
    obtain ⟨m1, rfl⟩ := ofC_int u1
    obtain ⟨m2, rfl⟩ := ofC_int u2
    obtain ⟨m3, rfl⟩ := ofC_int u3
    obtain ⟨m4, rfl⟩ := ofC_int u4
    obtain ⟨s, rfl, _⟩ := ofC_str u5
    exact ⟨(m1, m2, m3, m4, s), rfl⟩
  exact ⟨is, rfl⟩
theorem ofText {ds : List D} (h : OfCs [.str, .sl 5 true [.int .i64, .int .i64, .int .i64, .int .i64, .str], .sl 2 true [.int .i64, .int .i64], .int .i64] ds) : ∃ (s : ByteArray) (L : List Iy) (H : List Sn) (N : Int), ds = [.lit (.string s), .sd 5 false (L.map iyD), .sd 2 false (H.map snD), iD N] := by
  obtain ⟨x1, r1, rfl, h1, k1⟩ := ofCs_cons h
  obtain ⟨x2, r2, rfl, h2, k2⟩ := ofCs_cons k1
  obtain ⟨x3, x4, rfl, h3, h4⟩ := ofCs2 k2
  obtain ⟨s, rfl, _⟩ := ofC_str h1
  obtain ⟨L, rfl⟩ := ofC_inlays h2
  obtain ⟨H, rfl⟩ := ofC_spans h3
  obtain ⟨N, rfl⟩ := ofC_int h4
  exact ⟨s, L, H, N, rfl⟩
theorem text_cases {s : ByteArray} {L : List Iy} {H : List Sn} {N : Int} {Q : Prop}
    (hz : OFn Tryz.prog G0 15 [txV s L H N] [] 0 (.tup [.d zeroT, .d zeroW, bv false]) [] → OFn Tryz.prog G0 16 [txV s L H N] [] 0 (bv true) [] → Q)
    (he : ∀ (l : List Int) (t : Option T) (e : Int), OFn Tryz.prog G0 15 [txV s L H N] [] 0 (.tup [.d (.agg [ropeD t, nilD, .sd 2 false (H.map snD)]), .d (.agg [.sd 1 false (l.map ruD), iD 0, nilSD, iD e, .sd 2 false (H.map snD)]), bv false]) [] → OFn Tryz.prog G0 16 [txV s L H N] [] 0 (bv true) [] → Q)
    (hm : ∀ (l : List Int) (ps : List (List Int)) (t : Option T) (n : Int) (M : List Iy), Rp l ps t → GdI M → H.length ≤ 100 → OFn Tryz.prog G0 15 [txV s L H N] [] 0 (.tup [txD t n (inlL M) H, dtV l n M H, bv true]) [] → Q) : Q := by
  by_cases hb : 400 < s.size ∨ 60 < L.length ∨ 100 < H.length ∨ N < -400 ∨ 400 < N
  · exact hz (made21_big s L H N hb) (none21_big s L H N hb)
  have hk : OkM s L H N := ⟨by omega, by omega, by omega, by omega, by omega⟩
  by_cases hl : ∃ x ∈ L, 200 < x.2.2.2.2.size
  · obtain ⟨x, hx, h2⟩ := hl
    exact hz (made21_long s L H N hk x hx h2) (none21_long s L H N hk x hx h2)
  have hx : ∀ x ∈ L, x.2.2.2.2.size ≤ 200 := fun x hx => Nat.le_of_not_lt fun h2 => hl ⟨x, hx, h2⟩
  by_cases her : errN ((runesAt s 0).length + N) L = 0
  · obtain ⟨ps, t, R, h1⟩ := made21_fn s L H N hk hx her
    exact hm _ ps t _ _ R (gdI hk.l hx (errN_ok her).2) hk.h h1
  · obtain ⟨t, h1⟩ := made21_err s L H N hk hx her
    exact he _ t _ h1 (none21_err s L H N hk hx her)
end Go.Proofs.YthnooilghadjkaaGreatDoor
