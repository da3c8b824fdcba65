/- What the theorem leans on, part 24. -/
import Derived.Test.YtkhonlnajdfhfaaGreatDoorLtYPAU
import Derived.Test.YtkhonlnajdfhfaaGreatDoorLtYPAW
set_option linter.unusedSimpArgs false
set_option linter.unusedVariables false
set_option maxRecDepth 8000
namespace Go.Proofs.YtkhonlnajdfhfaaGreatDoor
theorem OFn.nilArg2 {P:Program} {G:Gl} {f:Nat} {x:V} {σ:Sig} {m:Nat} {r:V} {σ':Sig} {k:Nat} {b:Bool} (h:OFn P G f [x,.d (.sd k b [])] σ m r σ'):OFn P G f [x,.d nilSD] σ m r σ':=by
 intro w I β vals hm hG hd
 refine h w I β vals hm hG ⟨hd.1,fun i c y hc hy =>?_⟩
 match i,hc with
 | 0,hc=>exact hd.2 0 c y hc hy
 | 1,hc=>
  simp only [List.getElem?_cons_succ,List.getElem?_cons_zero,Option.some.injEq] at hc
  subst hc
  have h1:DenD w I nilSD y:=hd.2 1 (.d nilSD) y rfl hy
  cases h1 with
  | lit v=>exact DenD.sd0 k b none
 | i+2,hc=>simp at hc
theorem OFn.nilAgg {P:Program} {G:Gl} {f:Nat} {args:List V} {σ:Sig} {m:Nat} {a c:D} {σ':Sig} (k:Nat) (b:Bool) (h:OFn P G f args σ m (.d (.agg [a,nilSD,c])) σ'):OFn P G f args σ m (.d (.agg [a,.sd k b [],c])) σ':=by
 intro w I β vals hm hG hd
 refine (h w I β vals hm hG hd).mono ?_
 rintro e w' ⟨u,I',β',h1,h2,h3⟩
 refine ⟨u,I',β',h1,?_,h3⟩
 have h2':DenD w' I' (.agg [a,nilSD,c]) u:=h2
 cases h2' with
 | agg cs vs hl ho h=>
  refine DenD.agg _ vs hl ho fun i c' v hc hv =>?_
  match i,hc with
  | 0,hc=>exact h 0 c' v hc hv
  | 1,hc=>
   simp only [List.getElem?_cons_succ,List.getElem?_cons_zero,Option.some.injEq] at hc
   subst hc
   have h5:=h 1 nilSD v rfl hv
   cases h5 with
   | lit v=>exact DenD.sd0 k b none
  | 2,hc=>exact h 2 c' v hc hv
  | i+3,hc=>simp at hc
theorem sortI_nil:OFn Tryz.prog G0 40 [.d nilSD,.d (.fn 41 [])] [] 0 (.tup []) []:=getsG G0 M0 300 (by kernel_rfl)
def in0S (n:Int):St:=⟨[(0,iv n),(6,.po 0 0),(7,.mo 1),(28,.d (.sd 5 false [])),(29,iv 0),(30,iv 0)],[(0,.cell [iv n,.d nilSD]),(1,.map [])],2⟩
attribute [push_cast] in0S.eq_def
theorem iNew_0 (n:Int) (hn:0≤n∧n≤1099511627776):OFn Tryz.prog G0 16 [iv n,.d (.sd 5 false [])] [] 0 (.tup [.d (inlD n nilSD),iv 0]) []:=by
 refine vF mixed [0,1,4,5,6,7,9,10,12,13,20,28,29,30,31,38,47] Tryz.func16 rfl Tryz.results16 Tryz.ntmps16 ?_
 (refine' zg)
 refine vL (lv:=[0,1,4,5,6,7,9,10,12,13,20,28,29,30,31,38,47]) mixed (fun _:Unit=>in0S n) (fun _=>True) (fun _=>0) (()) ((GhW.go [0,6,7,28,29,30] (by exact vT) rfl)) ?_ ?_
 ·trivial
 rintro ⟨⟩ -
 (repeat' (first|(with_reducible first|exact True.intro|refine vD ?_|refine vG ?_|refine vE ?_)|with_reducible refine vC (sortI_nil) ?_|refine vR ?_|refine v6 ?_|with_reducible refine vN ?_|((with_reducible first|refine vB (fun h =>?_) (fun h =>?_)|refine vM (fun h =>?_) (fun h =>?_))<;>(first|(exfalso;omega)|skip))))
 refine DoneW.frz 0 (DoneW.out ?_)
 (refine' zg)
 rfl
end Go.Proofs.YtkhonlnajdfhfaaGreatDoor
