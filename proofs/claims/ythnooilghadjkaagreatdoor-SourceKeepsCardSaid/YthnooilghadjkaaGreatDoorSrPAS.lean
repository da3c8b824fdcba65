/- What the theorem leans on, part 19. -/
import Derived.Test.YthnooilghadjkaaGreatDoorSrPAA
import Derived.Test.YthnooilghadjkaaGreatDoorSrPAB
import Derived.Test.YthnooilghadjkaaGreatDoorSrPAC
import Derived.Test.YthnooilghadjkaaGreatDoorSrPAD
import Derived.Test.YthnooilghadjkaaGreatDoorSrPAE
import Derived.Test.YthnooilghadjkaaGreatDoorSrPAF
import Derived.Test.YthnooilghadjkaaGreatDoorSrPAG
import Derived.Test.YthnooilghadjkaaGreatDoorSrPAH
import Derived.Test.YthnooilghadjkaaGreatDoorSrPAI
import Derived.Test.YthnooilghadjkaaGreatDoorSrPAJ
import Derived.Test.YthnooilghadjkaaGreatDoorSrPAK
import Derived.Test.YthnooilghadjkaaGreatDoorSrPAL
import Derived.Test.YthnooilghadjkaaGreatDoorSrPAM
import Derived.Test.YthnooilghadjkaaGreatDoorSrPAN
import Derived.Test.YthnooilghadjkaaGreatDoorSrPAO
import Derived.Test.YthnooilghadjkaaGreatDoorSrPAP
import Derived.Test.YthnooilghadjkaaGreatDoorSrPAQ
import Derived.Test.YthnooilghadjkaaGreatDoorSrPAR
set_option linter.unusedSimpArgs false
set_option linter.unusedVariables false
set_option maxRecDepth 8000
namespace Go.Proofs.YthnooilghadjkaaGreatDoor
section
variable (s : ByteArray) (L : List Iy) (H : List Sn) (N : Int)
set_option maxHeartbeats 6400000 in
theorem made21_big (h : 400 < s.size ∨ 60 < L.length ∨ 100 < H.length ∨ N < -400 ∨ 400 < N) : OFn Tryz.prog G0 15 [txV s L H N] [] 0 (.tup [.d zeroT, .d zeroW, bv false]) [] := by
  refine vF mixed [0, 1, 2, 3, 4, 6, 7, 8, 9, 10, 11, 12, 38, 42, 43, 44, 45, 51] Tryz.func15 rfl Tryz.results15 Tryz.ntmps15 ?_
  (refine' zoS)
theorem tk_next {p : Iy → Prop} {i : Nat} (h : ∀ (k : Nat) y, k < i → L[k]? = some y → p y) {y : Iy} (hy : L[i]? = some y) (hp : p y) : ∀ (k : Nat) z, k < i + 1 → L[k]? = some z → p z := by
  intro k z hk hz
  by_cases hki : k = i
  · subst hki; rw [hy] at hz; injection hz with hz; subst hz; exact hp
  · exact h k z (by omega) hz
set_option maxHeartbeats 6400000 in
theorem made21_long (hk : OkM s L H N) (x : Iy) (hx : x ∈ L) (h2 : 200 < x.2.2.2.2.size) : OFn Tryz.prog G0 15 [txV s L H N] [] 0 (.tup [.d zeroT, .d zeroW, bv false]) [] := by
  obtain ⟨k1, k2, k3, k4, k5⟩ := hk
  refine vF mixed [0, 1, 2, 3, 4, 6, 7, 8, 9, 10, 11, 12, 38, 42, 43, 44, 45, 51] Tryz.func15 rfl Tryz.results15 Tryz.ntmps15 ?_
  (refine' zgS)
  refine vL (lv := [0, 1, 2, 3, 4, 6, 7, 8, 9, 10, 11, 12, 38, 42, 43, 44, 45, 51]) mixed (mdS s L H N) (fun i => i ≤ L.length ∧ ∀ (k : Nat) y, k < i → L[k]? = some y → y.2.2.2.2.size ≤ 200) (fun i => L.length - i) (0) ((GhW.go [1, 2, 3, 42, 43, 44] (by exact vT) rfl)) ?_ ?_
  · exact ⟨Nat.zero_le _, fun k y h => by omega⟩
  rintro i ⟨g1, g2⟩
  rcases Nat.lt_or_ge i L.length with hi | hi
  · obtain ⟨y, hy⟩ : ∃ y, L[i]? = some y := ⟨_, List.getElem?_eq_getElem hi⟩
    (refine' zoE hy)
    refine AgW.go (i + 1) [1, 2, 3, 42, 43, 44] (by exact vT) ?_ ?_
    · show L.length - (i + 1) < L.length - i
      omega
    · exact ⟨hi, tk_next L g2 hy (by omega)⟩
  · exfalso
    obtain ⟨k, hk⟩ := List.getElem?_of_mem hx
    have := g2 k x (by have := (List.getElem?_eq_some_iff.1 hk).1; omega) hk
    omega
end
end Go.Proofs.YthnooilghadjkaaGreatDoor
