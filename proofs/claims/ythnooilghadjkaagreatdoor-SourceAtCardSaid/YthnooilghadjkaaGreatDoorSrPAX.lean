/- What the theorem leans on, part 24. -/
import Derived.Test.YthnooilghadjkaaGreatDoorSrPAA
import Derived.Test.YthnooilghadjkaaGreatDoorSrPAB
import Derived.Test.YthnooilghadjkaaGreatDoorSrPAC
import Derived.Test.YthnooilghadjkaaGreatDoorSrPAD
import Derived.Test.YthnooilghadjkaaGreatDoorSrPAE
import Derived.Test.YthnooilghadjkaaGreatDoorSrPAF
import Derived.Test.YthnooilghadjkaaGreatDoorSrPAG
import Derived.Test.YthnooilghadjkaaGreatDoorSrPAH
import Derived.Test.YthnooilghadjkaaGreatDoorSrPAI
import Derived.Test.YthnooilghadjkaaGreatDoorSrPAJ
import Derived.Test.YthnooilghadjkaaGreatDoorSrPAK
import Derived.Test.YthnooilghadjkaaGreatDoorSrPAL
import Derived.Test.YthnooilghadjkaaGreatDoorSrPAM
import Derived.Test.YthnooilghadjkaaGreatDoorSrPAN
import Derived.Test.YthnooilghadjkaaGreatDoorSrPAO
import Derived.Test.YthnooilghadjkaaGreatDoorSrPAP
import Derived.Test.YthnooilghadjkaaGreatDoorSrPAQ
import Derived.Test.YthnooilghadjkaaGreatDoorSrPAR
import Derived.Test.YthnooilghadjkaaGreatDoorSrPAW
set_option linter.unusedSimpArgs false
set_option linter.unusedVariables false
set_option maxRecDepth 8000
namespace Go.Proofs.YthnooilghadjkaaGreatDoor
section
variable {s : ByteArray} {L : List Iy} {H : List Sn} {N : Int}
theorem lawSourceAt_z (a : Int) (hm : OFn Tryz.prog G0 15 [txV s L H N] [] 0 (.tup [.d zeroT, .d zeroW, bv false]) []) (hn : OFn Tryz.prog G0 16 [txV s L H N] [] 0 (bv true) []) : OFn Tryz.prog G0 7 [txV s L H N, iv a] [] 0 (bv true) [] := by
  refine vF mixed [0, 1, 2, 4, 5, 6, 7, 8, 9, 17, 28, 43] Tryz.func7 rfl Tryz.results7 Tryz.ntmps7 ?_
  (refine' zo2 hm hn)
theorem lawSourceAt_e (a : Int) {l : List Int} {t : Option T} {e : Int} (hm : OFn Tryz.prog G0 15 [txV s L H N] [] 0 (.tup [.d (.agg [ropeD t, nilD, .sd 2 false (H.map snD)]), .d (.agg [.sd 1 false (l.map ruD), iD 0, nilSD, iD e, .sd 2 false (H.map snD)]), bv false]) []) (hn : OFn Tryz.prog G0 16 [txV s L H N] [] 0 (bv true) []) : OFn Tryz.prog G0 7 [txV s L H N, iv a] [] 0 (bv true) [] := by
  refine vF mixed [0, 1, 2, 4, 5, 6, 7, 8, 9, 17, 28, 43] Tryz.func7 rfl Tryz.results7 Tryz.ntmps7 ?_
  (refine' zo2 hm hn)
set_option maxHeartbeats 6400000 in
theorem lawSourceAt_m {l : List Int} {ps : List (List Int)} {t : Option T} (R : Rp l ps t) (n : Int) {M : List Iy} (g : GdI M) (hH : H.length ≤ 100) (a : Int) (ha64 : a ≤ 9223372036854775807)
    (hm : OFn Tryz.prog G0 15 [txV s L H N] [] 0 (.tup [txD t n (inlL M) H, dtV l n M H, bv true]) []) : OFn Tryz.prog G0 7 [txV s L H N, iv a] [] 0 (bv true) [] := by
  have hlen := R.len
  have r2 := dRight_fn l n M H (by omega) (by omega)
  have key : ∀ (m : Nat), m ≤ l.length → (m = 0 ∨ shB l H (m - 1) = true) → okT' l.length n H = true → OFn Tryz.prog G0 42 [txD t n (inlL M) H, iv m] [] 0 (bv true) [] → OFn Tryz.prog G0 26 [dtV l n M H, iv m] [] 0 (bv true) [] → OFn Tryz.prog G0 7 [txV s L H N, iv m] [] 0 (bv true) [] := by
    intro m hml hbm hok hb r5
    have hr := (okT_rgt hok).1
    rw [hok] at r2
    have g3 := (runP_all g.so (by omega) (by have := g.len; omega) hr g.sz g.nb hml hbm)
    have r3 := sAt_fn R n M (by have := g.len; omega) (fun y hy => ⟨g.at' y hy, g.sz y hy⟩) H (by omega) hok m hml hb
    have r6 := dAt_is l n M H (by omega) (by omega) (by have := g.len; omega) g.sz g.so hr m hml hbm
    rw [lnD] at r3 r6
    simp only at r3 r6
    generalize runP l M (endP l H m) m H = rp at *
    generalize endP l H m = e at *
    have r7 := ref21_fn rp m e (by omega)
    have r8 := Same_fn rp m e (by omega) (fun k a rs h => by have := (g3.1 _ h).1.2.2; omega)
    refine vF mixed [0, 1, 2, 4, 5, 6, 7, 8, 9, 17, 28, 43] Tryz.func7 rfl Tryz.results7 Tryz.ntmps7 ?_
    (refine' zo8 hm r3 r2 r5 r6 r7 r8 joined_run)
  cases hok : okT' l.length n H with
  | false =>
    have r3 := sAt_form R n (inlL M) H (by omega) hok a
    rw [hok] at r2
    refine vF mixed [0, 1, 2, 4, 5, 6, 7, 8, 9, 17, 28, 43] Tryz.func7 rfl Tryz.results7 Tryz.ntmps7 ?_
    (refine' zo4 hm r3 r2 joined_run)
  | true =>
    have no : OFn Tryz.prog G0 42 [txD t n (inlL M) H, iv a] [] 0 (bv false) [] → OFn Tryz.prog G0 26 [dtV l n M H, iv a] [] 0 (bv false) [] → OFn Tryz.prog G0 7 [txV s L H N, iv a] [] 0 (bv true) [] := by
      intro hb r5
      have r3 := sAt_none R n (inlL M) H (by omega) hok a hb
      rw [hok] at r2
      refine vF mixed [0, 1, 2, 4, 5, 6, 7, 8, 9, 17, 28, 43] Tryz.func7 rfl Tryz.results7 Tryz.ntmps7 ?_
      (refine' zo5 hm r3 r2 r5 joined_run)
    by_cases hneg : a < 0
    · have h1 := begins_out R n (inlL M) H a (.inl (by omega))
      rw [show (a == 0) = false by simp; omega] at h1
      exact no h1 (dBegins_neg l n M H a hneg)
    · obtain ⟨m, rfl⟩ : ∃ m : Nat, a = m := ⟨a.toNat, by omega⟩
      by_cases h0 : m = 0
      · subst h0
        exact key 0 (Nat.zero_le _) (.inl rfl) hok (begins_out R n (inlL M) H 0 (.inl (Int.le_refl 0))) (dBegins_0 l n M H)
      · have r5 := dBegins_pos l n M H (by omega) (by omega) m (by omega) ha64
        by_cases hle : m ≤ l.length
        · have h1 := begins_in R n (inlL M) H (by omega) m (by omega) hle
          cases hs : shB l H (m - 1) with
          | true => rw [hs] at h1 r5; exact key m hle (.inr hs) hok h1 r5
          | false => rw [hs] at h1 r5; exact no h1 r5
        · have h1 := begins_out R n (inlL M) H m (.inr (by omega))
          rw [show ((m : Int) == 0) = false by simp; omega] at h1
          rw [shB_no (by rw [List.getElem?_eq_none (by omega)]; simp)] at r5
          exact no h1 r5
end
end Go.Proofs.YthnooilghadjkaaGreatDoor
