/- What the theorem leans on, part 16. -/
import Derived.Test.YtkhonlnajdfhfaaDoorStTPAO
set_option linter.unusedSimpArgs false
set_option linter.unusedVariables false
set_option maxRecDepth 8000
namespace Go.Proofs.YtkhonlnajdfhfaaDoor
theorem iV (n:Int) (l:List Se) (hl:l.length≤1000000) (h:aM n l=0):aG Tryd.prog G0 8 [iv n,eU l] [] 0 (.tup [jD n (aK l),iv 0]) []:=by
 have:=pS n l hl;rwa [sF h] at this
theorem td (n k:Int) (l:List Se) (hl:l.length≤1000000) (h:aM n l=k) (hk:k≠0):aG Tryd.prog G0 8 [iv n,eU l] [] 0 (.tup [sN,iv k]) []:=by
 have:=pS n l hl;rwa [iu h hk] at this
theorem kL (n:Int) (l:List Se) (hl:l.length≤1000000) (h:aM n l=0):aG Tryd.prog G0 6 [iv n,eU l] [] 0 (BD n (aK l)) []:=by
 have:=rV n l hl;rwa [pP h] at this
theorem qn (n k:Int) (l:List Se) (hl:l.length≤1000000) (h:aM n l=k) (hk:k≠0):aG Tryd.prog G0 6 [iv n,eU l] [] 0 (C3 k) []:=by
 have:=rV n l hl;rwa [ew h hk] at this
theorem lp:aG Tryd.prog G0 4 [] [] 0 (bv true) []:=by
 have hN:=iV 9 [(1,3),(5,2)] (by decide) (by decide);rw [show aK [(1,3),(5,2)]=[(1,5)] by decide] at hN;refine vF ab [0,1,2,3] Tryd.func4 rfl Tryd.results4 Tryd.ntmps4 ?_;(refine' zg)
 refine ap.frz 12 rfl ?_;refine ap.d hN (by kernel_rfl) rfl rfl ?_;(repeat' (first|(with_reducible first|exact True.intro|refine vD ?_|refine vG ?_|refine vE ?_)|(with_reducible refine ap.d (ez _ _ (by decide) (by decide)) (by kernel_rfl) rfl rfl ?_)|refine vR ?_|refine v6 ?_|with_reducible refine vN ?_|((with_reducible first|refine vB (fun h =>?_) (fun h =>?_)|refine vM (fun h =>?_) (fun h =>?_))<;>(first|(exfalso;omega)|skip))))
 skip;(repeat' (first|(with_reducible first|exact True.intro|refine vD ?_|refine vG ?_|refine vE ?_)|(with_reducible refine ap.d (kJ _ _) (by kernel_rfl) rfl rfl ?_)|(with_reducible refine aU.d (kJ _ _) (by kernel_rfl) rfl rfl ?_)|with_reducible refine ah.out ?_|refine vR ?_|refine v6 ?_|with_reducible refine vN ?_|((with_reducible first|refine vB (fun h =>?_) (fun h =>?_)|refine vM (fun h =>?_) (fun h =>?_))<;>(first|(exfalso;omega)|skip))))
 skip
theorem wE (k:Int) (hk:k≠0):aG Tryd.prog G0 9 [sN,iv k,C3 k] [] 0 (bv true) []:=by
 refine vF ab [0,1,2,5,6,7,8,9,21,23,27,28,29,30,47] Tryd.func9 rfl Tryd.results9 Tryd.ntmps9 ?_;(refine' zo)
 all_goals (simp [hk] at h)
def ED (n:Int) (L:List Se) (i:Nat):St:=⟨[(0,jD n L),(5,.po 0 0),(7,eU L),(27,eU L),(28,iv L.length),(29,iv i)],[(0,.cell [iv n,eU L,iv 0])],1⟩
attribute [push_cast] ED.eq_def
set_option maxHeartbeats 4000000 in
theorem o9 (n:Int) (L:List Se) (h0:0<L.length) (hl:L.length≤100000):aG Tryd.prog G0 9 [jD n L,iv 0,BD n L] [] 0 (bv true) []:=by
 refine vF ab [0,1,2,5,6,7,8,9,21,23,27,28,29,30,47] Tryd.func9 rfl Tryd.results9 Tryd.ntmps9 ?_;(repeat' (first|(with_reducible first|exact True.intro|refine vD ?_|refine vG ?_|refine vE ?_)|with_reducible refine ah.out ?_|(with_reducible refine ap.d (ez _ _ (by omega) (by omega)) (by kernel_rfl) rfl rfl ?_)|(with_reducible refine ap.d (n7 _ (by omega)) (by kernel_rfl) rfl rfl ?_)|refine vR ?_|refine v6 ?_|with_reducible refine vN ?_|((with_reducible first|refine vB (fun h =>?_) (fun h =>?_)|refine vM (fun h =>?_) (fun h =>?_))<;>(first|(exfalso;omega)|skip))))
 refine vL (lv:=[0,1,2,5,6,7,8,9,21,23,27,28,29,30,47]) ab (ED n L) (fun i=>i≤L.length) (fun i=>L.length - i) (0) ((a7.go [0,5,7,27,28,29] (by exact vS) rfl)) ?_ ?_
 ·exact Nat.zero_le _
 intro i hi;(repeat' (first|(with_reducible first|exact True.intro|refine vD ?_|refine vG ?_|refine vE ?_)|(with_reducible refine aU.d (kJ _ _) (by kernel_rfl) rfl rfl ?_)|with_reducible refine ah.out ?_|refine vR ?_|refine v6 ?_|with_reducible refine vN ?_|((with_reducible first|refine vB (fun h =>?_) (fun h =>?_)|refine vM (fun h =>?_) (fun h =>?_))<;>(first|(exfalso;omega)|skip))))
 ·obtain ⟨x,hx⟩ : ∃x,L[i]? = some x:=⟨_,List.getElem?_eq_getElem (by omega)⟩
  refine cj.is i x (by omega) hx ?_;(refine' zg)
  refine cj.is i x (by omega) hx ?_;(refine' zg)
  refine bA.go (i+1) [0,5,7,27,28,29] (by exact vS) ?_ ?_
  ·show L.length - (i+1)<L.length - i;omega
  ·show i+1≤L.length;omega
theorem jQ {l:List Se} (h:0<l.length):0<(aK l).length:=by
 have e:aK l=dj l l.length:=by
  unfold dj aK;rw [List.take_of_length_le (by rw [ax];exact Nat.le_refl _)]
 rw [e];exact pz h (Nat.le_refl _)
theorem jP (l:List Se):(aK l).length≤l.length:=by
 have e:aK l=dj l l.length:=by
  unfold dj aK;rw [List.take_of_length_le (by rw [ax];exact Nat.le_refl _)]
 rw [e];exact lL l _
theorem rg {n:Int} {l:List Se} (h:aM n l=0):0<l.length∧l.length≤64:=by
 unfold aM at h;split at h
 ·cases h
 split at h
 ·cases h
 split at h
 ·cases h
 omega
end Go.Proofs.YtkhonlnajdfhfaaDoor
