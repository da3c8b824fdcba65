/- What the theorem leans on, part 42. -/
import Derived.Test.YtkkanlcjjpoklaaGreatDoorSpTPBM
set_option linter.unusedSimpArgs false
set_option linter.unusedVariables false
set_option maxRecDepth 8000
namespace Go.Proofs.YtkkanlcjjpoklaaGreatDoor
theorem aq.nilArg3 {P:Program} {G:Gl} {f:Nat} {x z:V} {σ:ae} {m:Nat} {r:V} {σ':ae} {k:Nat} {b:Bool} (h:aq P G f [x,z,.d (.sd k b [])] σ m r σ'):aq P G f [x,z,.d ap] σ m r σ':=by
 intro w I β vals hm hG hd;refine h w I β vals hm hG ⟨hd.1,fun i c y hc hy =>?_⟩;match i,hc with
 | 0,hc=>exact hd.2 0 c y hc hy
 | 1,hc=>exact hd.2 1 c y hc hy
 | 2,hc=>
  simp only [List.getElem?_cons_succ,List.getElem?_cons_zero,Option.some.injEq] at hc;subst hc;have h1:ai w I ap y:=hd.2 2 (.d ap) y rfl hy;cases h1 with
  | lit v=>exact ai.sd0 k b none
 | i+3,hc=>simp at hc
abbrev K2 (l:List It):bu:= .row 7 (l.map gK)
abbrev MK (l:List It):V:= .d (.sd 7 false (l.map gK))
theorem dJ (es:List It) (i:It):es.map gK++[gK i]=(es++[i]).map gK:=by rw [List.map_append];rfl
theorem o3 (n:Int):aq Tryz.prog G0 194 [iv n] [] 0 (.d (gK (mB n))) []:=by
 refine vF ab [0,2] Tryz.func194 rfl Tryz.results194 Tryz.ntmps194 ?_;(refine' zo)
 all_goals rfl
theorem Ce (x:Iy) (hs:x.2.2.2.2.size≤1000000000):aq Tryz.prog G0 195 [.d (ki x)] [] 0 (.d (gK (jl x))) []:=by
 have r1:=jO x.2.2.2.2 hs;obtain ⟨a,b,c,d,e⟩:=x;simp only [jl] at r1 ⊢;refine vF ab [0,1,2] Tryz.func195 rfl Tryz.results195 Tryz.ntmps195 ?_;(refine' qe r1)
def Mw (to:Int) (L:List Iy) (x:Nat × Int × List It):St:=⟨[(0,iv x.2.1),(1,iv to),(7,.so 0 7 0 x.2.2.length),(10,.d (.sd 5 false (L.map ki))),(11,iv L.length),(12,iv x.1)],[(0,K2 x.2.2)],1⟩
attribute [push_cast] Mw.eq_def
theorem HE (f to:Int) (L:List Iy) (hl:L.length≤1000) (hf:0≤f∧f≤to∧to≤1000000000) (hL : ∀x∈L,x.2.1≤to∧x.2.2.2.2.size≤1000000000) :
 aq Tryz.prog G0 125 [iv f,iv to,.d (.sd 5 false (L.map ki))] [] 0 (MK (fe to f L)) []:=by
 have hlen:=i6 to L f;generalize hW:fe to f L=W at *
 refine vF ab [0,1,2,6,7,9,10,11,12,13,19,38] Tryz.func125 rfl Tryz.results125 Tryz.ntmps125 ?_;(refine' zg)
 refine vL (lv:=[0,1,2,6,7,9,10,11,12,13,19,38]) ab (Mw to L) (fun x=>x.1≤L.length∧x.2.2++fe to x.2.1 (L.drop x.1)=W∧0≤x.2.1∧x.2.1≤to) (fun x=>L.length - x.1) ((0,f,[])) (aN.nil 7 7<|(aN.go [0,1,7,10,11,12] (by exact vT) rfl)) ?_ ?_
 ·exact ⟨Nat.zero_le _,hW,hf.1,hf.2.1⟩
 rintro ⟨i,g,out⟩ ⟨hi,he,hg0,hg⟩;simp only at hi he hg0 hg;have hol:out.length≤W.length:=by rw [←he,List.length_append];omega
 rcases Nat.lt_or_ge i L.length with hlt|hge
 ·obtain ⟨x,hx⟩ : ∃x,L[i]? = some x:=⟨_,List.getElem?_eq_getElem hlt⟩
  obtain ⟨h1,h2⟩:=hL x (List.mem_of_getElem? hx);rw [cm hx,fe] at he;have r2:=Ce x h2;by_cases hgx:g<x.2.1
  ·rw [if_pos hgx] at he;have r1:=o3 (x.2.1 - g);(refine' J9 r1 r2 hx)
   rw [dJ,dJ];refine bH.go ((i+1,x.2.1,out++[mB (x.2.1 - g)]++[jl x])) [0,1,7,10,11,12] (by exact vT) ?_ ?_
   ·show L.length - (i+1)<L.length - i;omega
   ·exact ⟨hlt,by rw [←he];simp,by simp only;omega,h1⟩
  ·rw [if_neg hgx] at he;(refine' E7 r2 hx)
   rw [dJ];refine bH.go ((i+1,g,out++[jl x])) [0,1,7,10,11,12] (by exact vT) ?_ ?_
   ·show L.length - (i+1)<L.length - i;omega
   ·exact ⟨hlt,by rw [←he];simp,hg0,hg⟩
 ·rw [List.drop_of_length_le hge,fe] at he;by_cases hgt:g<to
  ·rw [if_pos hgt] at he;subst he;have r1:=o3 (to - g);(refine' l9 r1)
   rw [dJ];refine ah.frz 41 (ah.out ?_);(refine' zg)
  ·rw [if_neg hgt,List.append_nil] at he;subst he;(refine' zg)
   refine ah.frz 0 (ah.out ?_);(refine' zg)
def l5 (t:Option T):D:= .pd 1 [.agg [aU t]] 0 0
abbrev xk (n:Int) (L:List Iy):Option T:=c9 (fe n 0 L) (fe n 0 L).length
theorem HC (n:Int) (L:List Iy) (hl:L.length≤1000) (hn:0≤n∧n≤1000000000) (hL : ∀x∈L,x.2.1≤n∧x.2.2.2.2.size≤1000000000) (hr : ∀x∈L,(aa x.2.2.2.2 0).length≤1000000000) :
 aq Tryz.prog G0 68 [.d (bY n (ca L))] [] 0 (.d (l5 (xk n L))) []:=by
 have r1:=s5 n (ca L);have r2:=HE 0 n L hl ⟨Int.le_refl _,hn.1,hn.2⟩ hL;have hlen:=i6 n L 0;have r3:=sm (fe n 0 L) (by omega) (t7 hn.2 L 0 (Int.le_refl _) fun x hx=>⟨by have:=(hL x hx).1;omega,hr x hx⟩);rcases Nat.eq_zero_or_pos L.length with h0|h0
 ·obtain rfl:=List.eq_nil_of_length_eq_zero h0;have r4:aq Tryz.prog G0 126 [.d (bY n (ca []))] [] 0 (.d ap) []:=uT n;have r2':=aq.nilArg3 r2;simp only [l5,aU,xk] at r3 ⊢;generalize bZ _=X at *
  generalize bY n _=il at *
  refine vF ab [0,2,3] Tryz.func68 rfl Tryz.results68 Tryz.ntmps68 ?_;(refine' Q7 r1 r4 r2' r3)
  refine ah.frz 56 (ah.out ?_);(refine' zg)
 ·have eL:ca L = .sd 5 false (L.map ki):=by
   cases L with
   | nil=>simp at h0
   | cons y L=>rfl
  have r4:=zy n L h0 (by omega) (G:=G0);rw [←eL] at r4;simp only [l5,aU,xk] at r3 ⊢;generalize bZ _=X at *
  generalize bY n _=il at *
  refine vF ab [0,2,3] Tryz.func68 rfl Tryz.results68 Tryz.ntmps68 ?_;(repeat' (first|(with_reducible first|exact True.intro|refine vD ?_|refine vG ?_|refine vE ?_)|with_reducible refine vC (r1) ?_|with_reducible refine vK (r4) ?_|with_reducible refine vQ (r1) ?_|refine vR ?_|refine v6 ?_|with_reducible refine vN ?_|((with_reducible first|refine vB (fun h =>?_) (fun h =>?_)|refine vM (fun h =>?_) (fun h =>?_))<;>(first|(exfalso;omega)|skip))))
  refine aB.frz 16 rfl ?_;(refine' Fo r2 r3)
  refine ah.frz 56 (ah.out ?_);(refine' zg)
theorem oO (l:List It):yU (c9 l l.length)∧ak (c9 l l.length)=l:=by
 obtain ⟨h1,h2⟩:=nn l l.length (Nat.le_refl _);exact ⟨h1,by rw [h2,List.take_of_length_le (by omega)]⟩
theorem GJ {l:List It} (hl:l.length≤30000) (hi : ∀i∈l,bx i):Tk (c9 l l.length):=by
 obtain ⟨h1,h2⟩:=oO l;have h3:=ow l l.length (Nat.le_refl _);exact ⟨h1,by omega,by rw [h2];exact hl,by rw [h2];exact hi⟩
theorem w9 (t:Option T):aq Tryz.prog G0 82 [.d (l5 t)] [] 0 (.d (aU t)) []:=by
 unfold l5;refine vF ab [0,2,4] Tryz.func82 rfl Tryz.results82 Tryz.ntmps82 ?_;(refine' zo)
theorem se (t:Option T):aq Tryz.prog G0 78 [.d (l5 t)] [] 0 (.tup [iv (ao (ak t)).d0,iv (ao (ak t)).d1]) []:=by
 have r1:=w9 t;have r2:=jp t;generalize l5 t=TT at *
 refine vF ab [0,2,3,4] Tryz.func78 rfl Tryz.results78 Tryz.ntmps78 ?_;(refine' Ag r1 r2)
structure su (n:Int) (L:List Iy):Prop where
 len:L.length≤1000
 n0:0≤n
 n1:n≤1000000000
 so:L.Pairwise fun x y=>x.2.1≤y.2.1
 at' : ∀x∈L,0≤x.2.1∧x.2.1≤n
 sz : ∀x∈L,x.2.2.2.2.size≤1000000000∧(aa x.2.2.2.2 0).length≤1000000
theorem su.it {n:Int} {L:List Iy} (h:su n L) : ∀i∈fe n 0 L,bx i:=
 t7 h.n1 L 0 (Int.le_refl _) fun x hx=>⟨by have:=(h.at' x hx).2;have:=h.n1;omega,by have:=(h.sz x hx).2;omega⟩
theorem su.tk {n:Int} {L:List Iy} (h:su n L):Tk (xk n L):=GJ (by have:=i6 n L 0;have:=h.len;omega) h.it
theorem HD {n:Int} {L:List Iy} (h:su n L) (a b:Int) (ha:0≤a∧a≤n) (hb:b=0∨b=1):aq Tryz.prog G0 39 [.d (l5 (xk n L)),iv a,iv b] [] 0 (.tup [iv (gr L a b),iv 0]) []:=by
 have e:=(oO (fe n 0 L)).2;have hs:=nA L 0 h.n0 fun x hx=>(h.at' x hx).2
 obtain ⟨j,vis,sp,-,r1⟩:=rg (xk n L) h.tk 0 (by omega) a b ha.1 (by rw [e];show a≤(ao (fe n 0 L)).d0;omega) hb;rw [e] at sp r1;have ho:=oW L 0 a b j h.so h.at' h.n0 ha.1 (by omega) hb (Iv.of sp);rw [Int.zero_add] at ho;have hok:=i4 ((fe n 0 L).take j) (fun i hi=>h.it i (List.mem_of_mem_take hi)) (by have:=i6 n L 0;have:=h.len;rw [List.length_take];omega);have r2:=w9 (xk n L);have e2:gr L a b=(ao ((fe n 0 L).take j)).d1+a - (ao ((fe n 0 L).take j)).d0:=by unfold gr;omega
 rw [e2];generalize l5 (xk n L)=TT at *
 have hn1:=h.n1;unfold eQ at hok;simp only [lJ] at r1;generalize ao ((fe n 0 L).take j)=S at *
 refine vF ab [0,1,2,6,7,8,9,19] Tryz.func39 rfl Tryz.results39 Tryz.ntmps39 ?_;(refine' Ag r2 r1)
def zQ (L:List Iy) (x:Sn):Sn:=(gr L x.1 1,gr L x.2 0)
theorem o4 (n:Int):aq Tryz.prog G0 197 [iv n] [] 0 (.d (gK (mB n))) []:=by
 refine vF ab [0,2] Tryz.func197 rfl Tryz.results197 Tryz.ntmps197 ?_;(refine' zo)
 all_goals rfl
theorem A9 (n:Int):aq Tryz.prog G0 198 [iv n] [] 0 (.d (gK (HZ n))) []:=by
 refine vF ab [0,2] Tryz.func198 rfl Tryz.results198 Tryz.ntmps198 ?_;(refine' zo)
 all_goals rfl
def Px (to:Int) (H:List Sn) (x:Nat × Int × List It):St:=⟨[(0,iv x.2.1),(1,iv to),(7,.so 0 7 0 x.2.2.length),(10,.d (.sd 2 false (H.map dk))),(11,iv H.length),(12,iv x.1)],[(0,K2 x.2.2)],1⟩
def IQ (t:Option T) (L:List Iy) (H:List Sn) (i:Nat):St:=⟨[(0,.d (l5 t)),(5,.so 0 2 0 i),(12,.d (.sd 2 false (H.map dk))),(13,iv H.length),(14,iv i)],[(0,.row 2 ((H.take i).map (dk ∘ zQ L)))],1⟩
def Py (n:Int) (H:List Sn) (x:Nat × Int):St:=⟨[(5,iv n),(7,iv x.2),(15,.d (.sd 2 false (H.map dk))),(16,iv H.length),(17,iv x.1)],[],0⟩
attribute [push_cast] Px.eq_def IQ.eq_def Py.eq_def
theorem AF (t:Option T) (H:List Sn) (hl:H.length≤100000) (h:iZ (ao (ak t)).d0 0 H=true) (hn:(ao (ak t)).d0≤1000000000):aq Tryz.prog G0 127 [.d (l5 t),.d (.sd 2 false (H.map dk))] [] 0 (bv true) []:=by
 have r1:=se t;generalize l5 t=TT at *
 generalize (ao (ak t)).d0=n at *
 generalize (ao (ak t)).d1=q at *
 refine vF ab [0,1,4,5,7,9,15,16,17,18,37] Tryz.func127 rfl Tryz.results127 Tryz.ntmps127 ?_;(refine' l9 r1)
 refine vL (lv:=[0,1,4,5,7,9,15,16,17,18,37]) ab (Py n H) (fun x=>x.1≤H.length∧iZ n x.2 (H.drop x.1)=true) (fun x=>H.length - x.1) ((0,0)) ((aN.go [5,7,15,16,17] (by exact vT) rfl)) ?_ ?_
 ·exact ⟨Nat.zero_le _,h⟩
 rintro ⟨i,la⟩ ⟨hi,he⟩;simp only at hi he;rcases Nat.lt_or_ge i H.length with hlt|hge
 ·obtain ⟨x,hx⟩ : ∃x,H[i]? = some x:=⟨_,List.getElem?_eq_getElem hlt⟩
  rw [cm hx,dg] at he;obtain ⟨⟨h1,h2,h3⟩,h4⟩:=he;(refine' Pr hx)
  refine bH.go ((i+1,x.2)) [5,7,15,16,17] (by exact vT) ?_ ?_
  ·show H.length - (i+1)<H.length - i;omega
  ·exact ⟨hlt,h4⟩
 ·(refine' zo)
theorem BK {n:Int} {L:List Iy} (hw:su n L) (H:List Sn) (hl:H.length≤100000) (h : ∀x∈H,0≤x.1∧x.1≤n∧0≤x.2∧x.2≤n) :
 aq Tryz.prog G0 129 [.d (l5 (xk n L)),.d (.sd 2 false (H.map dk))] [] 0 (.d (.sd 2 false ((H.map (zQ L)).map dk))) []:=by
 have r1:=fun a b ha hb=>HD hw a b ha hb
 generalize xk n L=t at *
 refine vF ab [0,1,4,5,7,8,10,12,13,14,15] Tryz.func129 rfl Tryz.results129 Tryz.ntmps129 ?_;(refine' zg)
 refine vL (lv:=[0,1,4,5,7,8,10,12,13,14,15]) ab (IQ t L H) (fun i=>i≤H.length) (fun i=>H.length - i) (0) (aN.nil 5 2<|(aN.go [0,5,12,13,14] (by exact vT) rfl)) ?_ ?_
 ·exact Nat.zero_le _
 intro i hi;rcases Nat.lt_or_ge i H.length with hlt|hge
 ·obtain ⟨x,hx⟩ : ∃x,H[i]? = some x:=⟨_,List.getElem?_eq_getElem hlt⟩
  obtain ⟨h1,h2,h3,h4⟩:=h x (List.mem_of_getElem? hx);have r2:=r1 x.1 1 ⟨h1,h2⟩ (.inr rfl);have r3:=r1 x.2 0 ⟨h3,h4⟩ (.inl rfl);have e:(H.take (i+1)).map (dk ∘ zQ L)=(H.take i).map (dk ∘ zQ L)++[D.agg [D.lit (.int .i64 (gr L x.1 1)),D.lit (.int .i64 (gr L x.2 0))]]:=by rw [aJ hx,List.map_append];rfl
  generalize gr L x.1 1=u at *
  generalize gr L x.2 0=v at *
  (refine' J9 r2 r3 hx)
  rw [←e,show ((H.take (i+1)).map (dk ∘ zQ L)).length=i+1 by simp;omega];refine bH.go (i+1) [0,5,12,13,14] (by exact vT) ?_ ?_
  ·show H.length - (i+1)<H.length - i;omega
  ·show i+1≤H.length;omega
 ·obtain rfl:i=H.length:=by omega
  rw [IQ,List.take_length];(refine' zg)
  refine ah.frz 0 (ah.out ?_);(refine' zg)
  all_goals (try rw [List.take_of_length_le (by simp)])
theorem FJ (f to:Int) (H:List Sn) (hl:H.length≤1000) (hf:0≤f∧f≤1000000000∧0≤to∧to≤1000000000) (hH : ∀x∈H,0≤x.1∧x.1≤1000000000∧0≤x.2∧x.2≤1000000000) :
 aq Tryz.prog G0 128 [iv f,iv to,.d (.sd 2 false (H.map dk))] [] 0 (MK (t9 to f H)) []:=by
 have hlen:=sG to H f;generalize hW:t9 to f H=W at *
 refine vF ab [0,1,2,6,7,9,10,11,12,13,19,42] Tryz.func128 rfl Tryz.results128 Tryz.ntmps128 ?_;(refine' zg)
 refine vL (lv:=[0,1,2,6,7,9,10,11,12,13,19,42]) ab (Px to H) (fun x=>x.1≤H.length∧x.2.2++t9 to x.2.1 (H.drop x.1)=W∧0≤x.2.1∧x.2.1≤1000000000) (fun x=>H.length - x.1) ((0,f,[])) (aN.nil 7 7<|(aN.go [0,1,7,10,11,12] (by exact vT) rfl)) ?_ ?_
 ·exact ⟨Nat.zero_le _,hW,hf.1,hf.2.1⟩
 rintro ⟨i,g,out⟩ ⟨hi,he,hg0,hg⟩;simp only at hi he hg0 hg;have hol:out.length≤W.length:=by rw [←he,List.length_append];omega
 rcases Nat.lt_or_ge i H.length with hlt|hge
 ·obtain ⟨x,hx⟩ : ∃x,H[i]? = some x:=⟨_,List.getElem?_eq_getElem hlt⟩
  obtain ⟨h1,h2,h3,h4⟩:=hH x (List.mem_of_getElem? hx);rw [cm hx,t9] at he;have r2:=A9 (x.2 - x.1);by_cases hgx:g<x.1
  ·rw [if_pos hgx] at he;have r1:=o4 (x.1 - g);(refine' J9 r1 r2 hx)
   rw [dJ,dJ];refine bH.go ((i+1,x.2,out++[mB (x.1 - g)]++[HZ (x.2 - x.1)])) [0,1,7,10,11,12] (by exact vT) ?_ ?_
   ·show H.length - (i+1)<H.length - i;omega
   ·exact ⟨hlt,by rw [←he];simp,h3,h4⟩
  ·rw [if_neg hgx] at he;(refine' E7 r2 hx)
   rw [dJ];refine bH.go ((i+1,x.2,out++[HZ (x.2 - x.1)])) [0,1,7,10,11,12] (by exact vT) ?_ ?_
   ·show H.length - (i+1)<H.length - i;omega
   ·exact ⟨hlt,by rw [←he];simp,h3,h4⟩
 ·rw [List.drop_of_length_le hge,t9] at he;by_cases hgt:g<to
  ·rw [if_pos hgt] at he;subst he;have r1:=o4 (to - g);(refine' l9 r1)
   rw [dJ];refine ah.frz 41 (ah.out ?_);(refine' zg)
  ·rw [if_neg hgt,List.append_nil] at he;subst he;(refine' zg)
   refine ah.frz 0 (ah.out ?_);(refine' zg)
end Go.Proofs.YtkkanlcjjpoklaaGreatDoor
