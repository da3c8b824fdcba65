/- What the theorem leans on, part 22. -/
import Derived.Test.YtkkanlcjjpoklaaGreatDoorStUPAI
import Derived.Test.YtkkanlcjjpoklaaGreatDoorStUPAT
import Derived.Test.YtkkanlcjjpoklaaGreatDoorStUPAU
set_option linter.unusedSimpArgs false
set_option linter.unusedVariables false
set_option maxRecDepth 8000
namespace Go.Proofs.YtkkanlcjjpoklaaGreatDoor
def fa (x:Iy):Iy:=(x.1,x.2.1,x.2.2.1,x.2.2.2.1,cL (aa x.2.2.2.2 0))
def bW (n:Int):List Int→List Iy→Int
 | _,[]=>0
 | seen,x::r=>if b6 n x≠0 then b6 n x else if x.1∈seen then 8 else bW n (seen++[x.1]) r
abbrev xt (l:List Iy):List (Value × D):=l.map fun x=>(.int .i64 x.1,.agg [])
theorem zi (a:Int) : ∀l:List Iy,eN .i64 a (xt l)=some (if a∈l.map (·.1) then some (.agg []) else none)
 | []=>rfl
 | x::r=>by
  have ih:=zi a r;simp only [xt,List.map_cons,eN,List.mem_cons,if_true] at ih ⊢;by_cases h:a=x.1
  ·rw [if_pos h,if_pos (.inl h)]
  ·rw [if_neg h,ih];by_cases h2:a∈List.map (·.1) r
   ·rw [if_pos h2,if_pos (.inr h2)]
   ·rw [if_neg h2,if_neg (fun e=>e.elim h h2)]
theorem JE:Gt Tryz.prog 149=some (151,.i64):=by kernel_rfl
attribute [push_cast] JE
def Po (n:Int) (l:List Iy) (k:Nat):St:=
 ⟨[(0,iv n),(6,.po 0 0),(7,.mo 1),(28,.d (.sd 5 false (l.map cS))),(29,iv l.length),(30,iv k)],[(0,.cell [iv n,.so 2 5 0 k]),(1,.map (xt (l.take k))),(2,Cw ((l.take k).map fa))],3⟩
attribute [push_cast] Po.eq_def
theorem xe {α:Type} {l:List α} {k:Nat} {x:α} (h:l[k]? = some x):l.drop k=x::l.drop (k+1):=by
 obtain ⟨h1,rfl⟩:=List.getElem?_eq_some_iff.1 h;exact List.drop_eq_getElem_cons h1
def Ad (n:Int) (l ys:List Iy):V:=if bW n [] l=0 then .tup [.d (cg n (.sd 5 false (ys.map cS))),iv 0] else .tup [.d (.lit (.pointer none)),iv (bW n [] l)]
set_option maxHeartbeats 6400000 in
theorem Ml (n:Int) (l:List Iy) (hn:0≤n∧n≤1099511627776) (hl2:l.length≤60) (hs : ∀x∈l,x.2.2.2.2.size≤1000000000) :
 ∃ys:List Iy,(ys.Perm (l.map fa)∧cI SrtIy.ltB 0 l.length ys)∧an Tryz.prog G0 23 [iv n,.d (.sd 5 false (l.map cS))] [] 0 (Ad n l ys) []:=by
 obtain ⟨ys,⟨hp,hsr⟩,hf⟩:=SrtIy.sort_ex (l.map fa) l.length (by simp) (by omega);refine ⟨ys,⟨hp,hsr⟩,?_⟩;have hyl:ys.length=l.length:=by rw [hp.length_eq,List.length_map]
 refine vF ab [0,1,4,5,6,7,9,10,12,13,20,28,29,30,31,38,47] Tryz.func23 rfl Tryz.results23 Tryz.ntmps23 ?_;(refine' zg)
 refine vL (lv:=[0,1,4,5,6,7,9,10,12,13,20,28,29,30,31,38,47]) ab (Po n l) (fun k=>k≤l.length∧bW n ((l.take k).map (·.1)) (l.drop k)=bW n [] l) (fun k=>l.length - k) (0) (aC.nilC 60 1 5<|(aC.go [0,6,7,28,29,30] (by exact vT) rfl)) ?_ ?_
 ·exact ⟨Nat.zero_le _,rfl⟩
 rintro k ⟨h1,h2⟩;rcases Nat.lt_or_ge k l.length with hk|hk
 ·obtain ⟨x,hx⟩ : ∃x,l[k]? = some x:=⟨_,List.getElem?_eq_getElem hk⟩
  have hsx:=hs x (List.mem_of_getElem? hx);have r1:=F6 n x hsx;have r2:=HM x.2.2.2.2 hsx;rw [xe hx,bW] at h2;have hfe:=zi x.1 (l.take k);by_cases hw:b6 n x=0
  ·rw [if_neg (by omega)] at h2;rw [hw] at r1;by_cases hm:x.1∈(l.take k).map (·.1)
   ·rw [if_pos hm] at h2 hfe;obtain ⟨a,b,c,d,s⟩:=x;(refine' zg)
    refine aI.is k _ (by omega) hx ?_;(refine' fj r1)
    have hfe':eN .i64 a (xt (l.take k))=some (some (.agg [])):=hfe;rw [hfe'];(refine' zg)
    rw [Ad,←h2,if_neg (by decide)];refine ae.now [] (by decide) ?_;(refine' zg);first|exact aj _|exact ap.cons rfl ap.nil|exact ap.cons rfl (ap.cons rfl ap.nil)|exact ap.nil
   ·rw [if_neg hm] at h2 hfe;obtain ⟨a,b,c,d,s⟩:=x;simp only at r2;(refine' zg)
    refine aI.is k _ (by omega) hx ?_;(refine' fj r1)
    have hfe':eN .i64 a (xt (l.take k))=some none:=hfe;rw [hfe'];(refine' zg)
    rw [hfe'];(refine' fj r2)
    have e1:List.map (cS ∘ fa) (List.take k l)++[D.agg [iD a,iD b,iD c,iD d,D.lit (Value.string (cL (aa s 0)))]]=((l.take (k+1)).map fa).map cS:=by
     rw [ax hx,List.map_append,List.map_append,List.map_map];rfl
    have e2:xt (l.take k)++[(Value.int IntKind.i64 a,D.agg [])]=xt (l.take (k+1)):=by
     rw [ax hx,xt,xt,List.map_append];rfl
    have e3:(((l.take (k+1)).map fa).map cS).length=k+1:=by
     rw [List.length_map,List.length_map,List.length_take];omega
    rw [e1,e2,e3];refine aG.go (k+1) [0,6,7,28,29,30] (by (refine vR ?_);rw [←List.map_map]) ?_ ?_
    ·show l.length - (k+1)<l.length - k;omega
    ·refine ⟨hk,?_⟩;rw [ax hx,List.map_append];exact h2
  ·rw [if_pos hw] at h2;obtain ⟨a,b,c,d,s⟩:=x;(refine' zg)
   refine aI.is k _ (by omega) hx ?_;(refine' fj r1)
   rw [Ad,←h2,if_neg hw];refine ae.now [] (by decide) ?_;(refine' zg);first|exact aj _|exact ap.cons rfl ap.nil|exact ap.cons rfl (ap.cons rfl ap.nil)|exact ap.nil
 ·obtain rfl:k=l.length:=by omega
  rw [List.drop_length,bW] at h2;rw [Po,List.take_length];(refine' zg)
  refine au.put 2 hf (by kernel_rfl) rfl rfl rfl ?_;(refine' zg)
  rw [Ad,←h2,if_pos rfl,←hyl];refine ae.frz 2 (ae.frz 0 (ae.out ?_));(refine' zg)
  exact rfl
theorem an.nilArg2 {P:Program} {G:Gl} {f:Nat} {x:V} {σ:ak} {m:Nat} {r:V} {σ':ak} {k:Nat} {b:Bool} (h:an P G f [x,.d (.sd k b [])] σ m r σ'):an P G f [x,.d aB] σ m r σ':=by
 intro w I β vals hm hG hd;refine h w I β vals hm hG ⟨hd.1,fun i c y hc hy =>?_⟩;match i,hc with
 | 0,hc=>exact hd.2 0 c y hc hy
 | 1,hc=>
  simp only [List.getElem?_cons_succ,List.getElem?_cons_zero,Option.some.injEq] at hc;subst hc;have h1:aq w I aB y:=hd.2 1 (.d aB) y rfl hy;cases h1 with
  | lit v=>exact aq.sd0 k b none
 | i+2,hc=>simp at hc
theorem an.nilAgg {P:Program} {G:Gl} {f:Nat} {args:List V} {σ:ak} {m:Nat} {a c:D} {σ':ak} (k:Nat) (b:Bool) (h:an P G f args σ m (.d (.agg [a,aB,c])) σ'):an P G f args σ m (.d (.agg [a,.sd k b [],c])) σ':=by
 intro w I β vals hm hG hd;refine (h w I β vals hm hG hd).mono ?_;rintro e w' ⟨u,I',β',h1,h2,h3⟩;refine ⟨u,I',β',h1,?_,h3⟩;have h2':aq w' I' (.agg [a,aB,c]) u:=h2;cases h2' with
 | agg cs vs hl ho h=>
  refine aq.agg _ vs hl ho fun i c' v hc hv =>?_
  match i,hc with
  | 0,hc=>exact h 0 c' v hc hv
  | 1,hc=>
   simp only [List.getElem?_cons_succ,List.getElem?_cons_zero,Option.some.injEq] at hc;subst hc;have h5:=h 1 aB v rfl hv;cases h5 with
   | lit v=>exact aq.sd0 k b none
  | 2,hc=>exact h 2 c' v hc hv
  | i+3,hc=>simp at hc
theorem He:an Tryz.prog G0 62 [.d aB,.d (.fn 63 [])] [] 0 (.tup []) []:=vj G0 M0 300 (by kernel_rfl)
def RC (n:Int):St:=⟨[(0,iv n),(6,.po 0 0),(7,.mo 1),(28,.d (.sd 5 false [])),(29,iv 0),(30,iv 0)],[(0,.cell [iv n,.d aB]),(1,.map [])],2⟩
attribute [push_cast] RC.eq_def
theorem Pi (n:Int) (hn:0≤n∧n≤1099511627776):an Tryz.prog G0 23 [iv n,.d (.sd 5 false [])] [] 0 (.tup [.d (cg n aB),iv 0]) []:=by
 refine vF ab [0,1,4,5,6,7,9,10,12,13,20,28,29,30,31,38,47] Tryz.func23 rfl Tryz.results23 Tryz.ntmps23 ?_;(refine' zg)
 refine vL (lv:=[0,1,4,5,6,7,9,10,12,13,20,28,29,30,31,38,47]) ab (fun _:Unit=>RC n) (fun _=>True) (fun _=>0) (()) ((aC.go [0,6,7,28,29,30] (by exact vT) rfl)) ?_ ?_
 ·trivial
 rintro ⟨⟩ -
 (repeat' (first|with_reducible refine vC (He) ?_|(refine' zq)|fail))
 refine ae.frz 0 (ae.out ?_);(refine' zg)
 rfl
end Go.Proofs.YtkkanlcjjpoklaaGreatDoor
