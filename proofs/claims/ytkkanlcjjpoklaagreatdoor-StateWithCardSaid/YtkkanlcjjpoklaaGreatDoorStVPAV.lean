/- What the theorem leans on, part 22. -/
import Derived.Test.YtkkanlcjjpoklaaGreatDoorStVPAI
import Derived.Test.YtkkanlcjjpoklaaGreatDoorStVPAT
import Derived.Test.YtkkanlcjjpoklaaGreatDoorStVPAU
set_option linter.unusedSimpArgs false
set_option linter.unusedVariables false
set_option maxRecDepth 8000
namespace Go.Proofs.YtkkanlcjjpoklaaGreatDoor
def fK (x:Iy):Iy:=(x.1,x.2.1,x.2.2.1,x.2.2.2.1,c9 (aa x.2.2.2.2 0))
def cb (n:Int):List Int→List Iy→Int
 | _,[]=>0
 | seen,x::r=>if cm n x≠0 then cm n x else if x.1∈seen then 8 else cb n (seen++[x.1]) r
abbrev yU (l:List Iy):List (Value × D):=l.map fun x=>(.int .i64 x.1,.agg [])
theorem Be (a:Int) : ∀l:List Iy,fu .i64 a (yU l)=some (if a∈l.map (·.1) then some (.agg []) else none)
 | []=>rfl
 | x::r=>by
  have ih:=Be a r;simp only [yU,abh,fu,abi,ab0] at ih ⊢;by_cases h:a=x.1
  ·rw [aa3 h,aa3 (.inl h)]
  ·rw [aaY h,ih];by_cases h2:a∈List.map (·.1) r
   ·rw [aa3 h2,aa3 (.inr h2)]
   ·rw [aaY h2,aaY (fun e=>e.elim h h2)]
theorem LB:Ip Tryz.prog 149=some (151,.i64):=by kernel_rfl
attribute [push_cast] LB
def RX (n:Int) (l:List Iy) (k:Nat):St:=
 ⟨[(0,iv n),(6,.po 0 0),(7,.mo 1),(28,.d (.sd 5 false (l.map cT))),(29,iv l.length),(30,iv k)],[(0,.cell [iv n,.so 2 5 0 k]),(1,.map (yU (l.take k))),(2,El ((l.take k).map fK))],3⟩
attribute [push_cast] RX.eq_def
theorem yD {α:Type} {l:List α} {k:Nat} {x:α} (h:l[k]? = some x):l.drop k=x::l.drop (k+1):=by
 obtain ⟨h1,rfl⟩:=aaX.1 h;exact abI h1
def BY (n:Int) (l ys:List Iy):V:=if cb n [] l=0 then .tup [.d (cW n (.sd 5 false (ys.map cT))),iv 0] else .tup [.d (.lit (.pointer none)),iv (cb n [] l)]
set_option maxHeartbeats 6400000 in
theorem OI (n:Int) (l:List Iy) (hn:0≤n∧n≤1099511627776) (hl2:l.length≤60) (hs : ∀x∈l,x.2.2.2.2.size≤1000000000) :
 ∃ys:List Iy,(ys.Perm (l.map fK)∧cV SrtIy.ltB 0 l.length ys)∧ap Tryz.prog G0 23 [iv n,.d (.sd 5 false (l.map cT))] [] 0 (BY n l ys) []:=by
 obtain ⟨ys,⟨hp,hsr⟩,hf⟩:=SrtIy.sort_ex (l.map fK) l.length (by simp) (by omega);refine ⟨ys,⟨hp,hsr⟩,?_⟩;have hyl:ys.length=l.length:=by rw [hp.length_eq,aa4]
 refine vF ab [0,1,4,5,6,7,9,10,12,13,20,28,29,30,31,38,47] Tryz.func23 rfl Tryz.results23 Tryz.ntmps23 ?_;(refine' zg)
 refine vL (lv:=[0,1,4,5,6,7,9,10,12,13,20,28,29,30,31,38,47]) ab (RX n l) (fun k=>k≤l.length∧cb n ((l.take k).map (·.1)) (l.drop k)=cb n [] l) (fun k=>l.length - k) (0) (aC.nilC 60 1 5<|(aC.go [0,6,7,28,29,30] (by exact vT) rfl)) ?_ ?_
 ·exact ⟨aa1 _,rfl⟩
 rintro k ⟨h1,h2⟩;rcases aa2 k l.length with hk|hk
 ·obtain ⟨x,hx⟩ : ∃x,l[k]? = some x:=⟨_,IO hk⟩
  have hsx:=hs x (aa0 hx);have r1:=H5 n x hsx;have r2:=JO x.2.2.2.2 hsx;rw [yD hx,cb] at h2;have hfe:=Be x.1 (l.take k);by_cases hw:cm n x=0
  ·rw [aaY (by omega)] at h2;rw [hw] at r1;by_cases hm:x.1∈(l.take k).map (·.1)
   ·rw [aa3 hm] at h2 hfe;obtain ⟨a,b,c,d,s⟩:=x;(refine' zg)
    refine aF.is k _ (by omega) hx ?_;(refine' fq r1)
    have hfe':fu .i64 a (yU (l.take k))=some (some (.agg [])):=hfe;rw [hfe'];(refine' zg)
    rw [BY,←h2,aaY (by decide)];refine ae.now [] (by decide) ?_;(refine' zg);first|exact aj _|exact ar.cons rfl ar.nil|exact ar.cons rfl (ar.cons rfl ar.nil)|exact ar.nil
   ·rw [aaY hm] at h2 hfe;obtain ⟨a,b,c,d,s⟩:=x;simp only at r2;(refine' zg)
    refine aF.is k _ (by omega) hx ?_;(refine' fq r1)
    have hfe':fu .i64 a (yU (l.take k))=some none:=hfe;rw [hfe'];(refine' zg)
    rw [hfe'];(refine' fq r2)
    have e1:List.map (cT ∘ fK) (List.take k l)++[D.agg [iD a,iD b,iD c,iD d,D.lit (Value.string (c9 (aa s 0)))]]=((l.take (k+1)).map fK).map cT:=by
     rw [ao hx,abc,abc,aci];rfl
    have e2:yU (l.take k)++[(Value.int IntKind.i64 a,D.agg [])]=yU (l.take (k+1)):=by
     rw [ao hx,yU,yU,abc];rfl
    have e3:(((l.take (k+1)).map fK).map cT).length=k+1:=by
     rw [aa4,aa4,aa7];omega
    rw [e1,e2,e3];refine aG.go (k+1) [0,6,7,28,29,30] (by (refine vR ?_);rw [←aci]) ?_ ?_
    ·show l.length - (k+1)<l.length - k;omega
    ·refine ⟨hk,?_⟩;rw [ao hx,abc];exact h2
  ·rw [aa3 hw] at h2;obtain ⟨a,b,c,d,s⟩:=x;(refine' zg)
   refine aF.is k _ (by omega) hx ?_;(refine' fq r1)
   rw [BY,←h2,aaY hw];refine ae.now [] (by decide) ?_;(refine' zg);first|exact aj _|exact ar.cons rfl ar.nil|exact ar.cons rfl (ar.cons rfl ar.nil)|exact ar.nil
 ·obtain rfl:k=l.length:=by omega
  rw [acY,cb] at h2;rw [RX,abC];(refine' zg)
  refine au.put 2 hf (by kernel_rfl) rfl rfl rfl ?_;(refine' zg)
  rw [BY,←h2,aa3 rfl,←hyl];refine ae.frz 2 (ae.frz 0 (ae.out ?_));(refine' zg)
  exact rfl
theorem ap.nilArg2 {P:Program} {G:Gl} {f:Nat} {x:V} {σ:ak} {m:Nat} {r:V} {σ':ak} {k:Nat} {b:Bool} (h:ap P G f [x,.d (.sd k b [])] σ m r σ'):ap P G f [x,.d aB] σ m r σ':=by
 intro w I β vals hm hG hd;refine h w I β vals hm hG ⟨hd.1,fun i c y hc hy =>?_⟩;match i,hc with
 | 0,hc=>exact hd.2 0 c y hc hy
 | 1,hc=>
  simp only [abB,abq,aa5] at hc;subst hc;have h1:ax w I aB y:=hd.2 1 (.d aB) y rfl hy;cases h1 with
  | lit v=>exact ax.sd0 k b none
 | i+2,hc=>simp at hc
theorem ap.nilAgg {P:Program} {G:Gl} {f:Nat} {args:List V} {σ:ak} {m:Nat} {a c:D} {σ':ak} (k:Nat) (b:Bool) (h:ap P G f args σ m (.d (.agg [a,aB,c])) σ'):ap P G f args σ m (.d (.agg [a,.sd k b [],c])) σ':=by
 intro w I β vals hm hG hd;refine (h w I β vals hm hG hd).mono ?_;rintro e w' ⟨u,I',β',h1,h2,h3⟩;refine ⟨u,I',β',h1,?_,h3⟩;have h2':ax w' I' (.agg [a,aB,c]) u:=h2;cases h2' with
 | agg cs vs hl ho h=>
  refine ax.agg _ vs hl ho fun i c' v hc hv =>?_
  match i,hc with
  | 0,hc=>exact h 0 c' v hc hv
  | 1,hc=>
   simp only [abB,abq,aa5] at hc;subst hc;have h5:=h 1 aB v rfl hv;cases h5 with
   | lit v=>exact ax.sd0 k b none
  | 2,hc=>exact h 2 c' v hc hv
  | i+3,hc=>simp at hc
theorem Jh:ap Tryz.prog G0 62 [.d aB,.d (.fn 63 [])] [] 0 (.tup []) []:=wY G0 M0 300 (by kernel_rfl)
def T9 (n:Int):St:=⟨[(0,iv n),(6,.po 0 0),(7,.mo 1),(28,.d (.sd 5 false [])),(29,iv 0),(30,iv 0)],[(0,.cell [iv n,.d aB]),(1,.map [])],2⟩
attribute [push_cast] T9.eq_def
theorem RS (n:Int) (hn:0≤n∧n≤1099511627776):ap Tryz.prog G0 23 [iv n,.d (.sd 5 false [])] [] 0 (.tup [.d (cW n aB),iv 0]) []:=by
 refine vF ab [0,1,4,5,6,7,9,10,12,13,20,28,29,30,31,38,47] Tryz.func23 rfl Tryz.results23 Tryz.ntmps23 ?_;(refine' zg)
 refine vL (lv:=[0,1,4,5,6,7,9,10,12,13,20,28,29,30,31,38,47]) ab (fun _:Unit=>T9 n) (fun _=>True) (fun _=>0) (()) ((aC.go [0,6,7,28,29,30] (by exact vT) rfl)) ?_ ?_
 ·trivial
 rintro ⟨⟩ -
 (repeat' (first|with_reducible refine vC (Jh) ?_|(refine' zq)|fail))
 refine ae.frz 0 (ae.out ?_);(refine' zg)
 rfl
end Go.Proofs.YtkkanlcjjpoklaaGreatDoor
