/- What the theorem leans on, part 24. -/
import Derived.Test.YtkkanlcjjpoklaaGreatDoorSpTPAU
import Derived.Test.YtkkanlcjjpoklaaGreatDoorSpTPAW
set_option linter.unusedSimpArgs false
set_option linter.unusedVariables false
set_option maxRecDepth 8000
namespace Go.Proofs.YtkkanlcjjpoklaaGreatDoor
theorem aq.nilArg2 {P:Program} {G:Gl} {f:Nat} {x:V} {σ:ae} {m:Nat} {r:V} {σ':ae} {k:Nat} {b:Bool} (h:aq P G f [x,.d (.sd k b [])] σ m r σ'):aq P G f [x,.d ap] σ m r σ':=by
 intro w I β vals hm hG hd;refine h w I β vals hm hG ⟨hd.1,fun i c y hc hy =>?_⟩;match i,hc with
 | 0,hc=>exact hd.2 0 c y hc hy
 | 1,hc=>
  simp only [List.getElem?_cons_succ,List.getElem?_cons_zero,Option.some.injEq] at hc;subst hc;have h1:ai w I ap y:=hd.2 1 (.d ap) y rfl hy;cases h1 with
  | lit v=>exact ai.sd0 k b none
 | i+2,hc=>simp at hc
theorem aq.nilAgg {P:Program} {G:Gl} {f:Nat} {args:List V} {σ:ae} {m:Nat} {a c:D} {σ':ae} (k:Nat) (b:Bool) (h:aq P G f args σ m (.d (.agg [a,ap,c])) σ'):aq P G f args σ m (.d (.agg [a,.sd k b [],c])) σ':=by
 intro w I β vals hm hG hd;refine (h w I β vals hm hG hd).mono ?_;rintro e w' ⟨u,I',β',h1,h2,h3⟩;refine ⟨u,I',β',h1,?_,h3⟩;have h2':ai w' I' (.agg [a,ap,c]) u:=h2;cases h2' with
 | agg cs vs hl ho h=>
  refine ai.agg _ vs hl ho fun i c' v hc hv =>?_
  match i,hc with
  | 0,hc=>exact h 0 c' v hc hv
  | 1,hc=>
   simp only [List.getElem?_cons_succ,List.getElem?_cons_zero,Option.some.injEq] at hc;subst hc;have h5:=h 1 ap v rfl hv;cases h5 with
   | lit v=>exact ai.sd0 k b none
  | 2,hc=>exact h 2 c' v hc hv
  | i+3,hc=>simp at hc
theorem BZ:aq Tryz.prog G0 62 [.d ap,.d (.fn 63 [])] [] 0 (.tup []) []:=Dq G0 M0 300 (by kernel_rfl)
def KZ (n:Int):St:=⟨[(0,iv n),(6,.po 0 0),(7,.mo 1),(28,.d (.sd 5 false [])),(29,iv 0),(30,iv 0)],[(0,.cell [iv n,.d ap]),(1,.map [])],2⟩
attribute [push_cast] KZ.eq_def
theorem xS (n:Int) (hn:0≤n∧n≤1099511627776):aq Tryz.prog G0 23 [iv n,.d (.sd 5 false [])] [] 0 (.tup [.d (bY n ap),iv 0]) []:=by
 refine vF ab [0,1,4,5,6,7,9,10,12,13,20,28,29,30,31,38,47] Tryz.func23 rfl Tryz.results23 Tryz.ntmps23 ?_;(refine' zg)
 refine vL (lv:=[0,1,4,5,6,7,9,10,12,13,20,28,29,30,31,38,47]) ab (fun _:Unit=>KZ n) (fun _=>True) (fun _=>0) (()) ((aN.go [0,6,7,28,29,30] (by exact vT) rfl)) ?_ ?_
 ·trivial
 rintro ⟨⟩ -
 (repeat' (first|(with_reducible first|exact True.intro|refine vD ?_|refine vG ?_|refine vE ?_)|with_reducible refine vC (BZ) ?_|refine vR ?_|refine v6 ?_|with_reducible refine vN ?_|((with_reducible first|refine vB (fun h =>?_) (fun h =>?_)|refine vM (fun h =>?_) (fun h =>?_))<;>(first|(exfalso;omega)|skip))))
 refine ah.frz 0 (ah.out ?_);(refine' zg)
 rfl
end Go.Proofs.YtkkanlcjjpoklaaGreatDoor
