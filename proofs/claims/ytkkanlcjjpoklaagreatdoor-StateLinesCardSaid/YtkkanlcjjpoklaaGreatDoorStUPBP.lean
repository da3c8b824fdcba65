/- What the theorem leans on, part 42. -/
import Derived.Test.YtkkanlcjjpoklaaGreatDoorStUPBN
set_option linter.unusedSimpArgs false
set_option linter.unusedVariables false
set_option maxRecDepth 8000
namespace Go.Proofs.YtkkanlcjjpoklaaGreatDoor
theorem an.nilArg3 {P:Program} {G:Gl} {f:Nat} {x z:V} {σ:ak} {m:Nat} {r:V} {σ':ak} {k:Nat} {b:Bool} (h:an P G f [x,z,.d (.sd k b [])] σ m r σ'):an P G f [x,z,.d aB] σ m r σ':=by
 intro w I β vals hm hG hd;refine h w I β vals hm hG ⟨hd.1,fun i c y hc hy =>?_⟩;match i,hc with
 | 0,hc=>exact hd.2 0 c y hc hy
 | 1,hc=>exact hd.2 1 c y hc hy
 | 2,hc=>
  simp only [List.getElem?_cons_succ,List.getElem?_cons_zero,Option.some.injEq] at hc;subst hc;have h1:aq w I aB y:=hd.2 2 (.d aB) y rfl hy;cases h1 with
  | lit v=>exact aq.sd0 k b none
 | i+3,hc=>simp at hc
abbrev RF (l:List It):bF:= .row 7 (l.map jl)
abbrev Ub (l:List It):V:= .d (.sd 7 false (l.map jl))
theorem eW (es:List It) (i:It):es.map jl++[jl i]=(es++[i]).map jl:=by rw [List.map_append];rfl
theorem sc (n:Int):an Tryz.prog G0 194 [iv n] [] 0 (.d (jl (o5 n))) []:=by
 refine vF ab [0,2] Tryz.func194 rfl Tryz.results194 Tryz.ntmps194 ?_;(refine' zo)
 all_goals rfl
theorem Hw (x:Iy) (hs:x.2.2.2.2.size≤1000000000):an Tryz.prog G0 195 [.d (cS x)] [] 0 (.d (jl (kU x))) []:=by
 have r1:=qp x.2.2.2.2 hs;obtain ⟨a,b,c,d,e⟩:=x;simp only [kU] at r1 ⊢;refine vF ab [0,1,2] Tryz.func195 rfl Tryz.results195 Tryz.ntmps195 ?_;(refine' kW r1)
def TY (to:Int) (L:List Iy) (x:Nat × Int × List It):St:=⟨[(0,iv x.2.1),(1,iv to),(7,.so 0 7 0 x.2.2.length),(10,.d (.sd 5 false (L.map cS))),(11,iv L.length),(12,iv x.1)],[(0,RF x.2.2)],1⟩
attribute [push_cast] TY.eq_def
theorem NC (f to:Int) (L:List Iy) (hl:L.length≤1000) (hf:0≤f∧f≤to∧to≤1000000000) (hL : ∀x∈L,x.2.1≤to∧x.2.2.2.2.size≤1000000000) :
 an Tryz.prog G0 125 [iv f,iv to,.d (.sd 5 false (L.map cS))] [] 0 (Ub (gC to f L)) []:=by
 have hlen:=kF to L f;generalize hW:gC to f L=W at *
 refine vF ab [0,1,2,6,7,9,10,11,12,13,19,38] Tryz.func125 rfl Tryz.results125 Tryz.ntmps125 ?_;(refine' zg)
 refine vL (lv:=[0,1,2,6,7,9,10,11,12,13,19,38]) ab (TY to L) (fun x=>x.1≤L.length∧x.2.2++gC to x.2.1 (L.drop x.1)=W∧0≤x.2.1∧x.2.1≤to) (fun x=>L.length - x.1) ((0,f,[])) (aC.nil 7 7<|(aC.go [0,1,7,10,11,12] (by exact vT) rfl)) ?_ ?_
 ·exact ⟨Nat.zero_le _,hW,hf.1,hf.2.1⟩
 rintro ⟨i,g,out⟩ ⟨hi,he,hg0,hg⟩;simp only at hi he hg0 hg;have hol:out.length≤W.length:=by rw [←he,List.length_append];omega
 rcases Nat.lt_or_ge i L.length with hlt|hge
 ·obtain ⟨x,hx⟩ : ∃x,L[i]? = some x:=⟨_,List.getElem?_eq_getElem hlt⟩
  obtain ⟨h1,h2⟩:=hL x (List.mem_of_getElem? hx);rw [cV hx,gC] at he;have r2:=Hw x h2;by_cases hgx:g<x.2.1
  ·rw [if_pos hgx] at he;have r1:=sc (x.2.1 - g);(refine' NH r1 r2 hx)
   rw [eW,eW];refine aG.go ((i+1,x.2.1,out++[o5 (x.2.1 - g)]++[kU x])) [0,1,7,10,11,12] (by exact vT) ?_ ?_
   ·show L.length - (i+1)<L.length - i;omega
   ·exact ⟨hlt,by rw [←he];simp,by simp only;omega,h1⟩
  ·rw [if_neg hgx] at he;(refine' lS r2 hx)
   rw [eW];refine aG.go ((i+1,g,out++[kU x])) [0,1,7,10,11,12] (by exact vT) ?_ ?_
   ·show L.length - (i+1)<L.length - i;omega
   ·exact ⟨hlt,by rw [←he];simp,hg0,hg⟩
 ·rw [List.drop_of_length_le hge,gC] at he;by_cases hgt:g<to
  ·rw [if_pos hgt] at he;subst he;have r1:=sc (to - g);(refine' fj r1)
   rw [eW];refine ae.frz 41 (ae.out ?_);(refine' zg)
  ·rw [if_neg hgt,List.append_nil] at he;subst he;(refine' zg)
   refine ae.frz 0 (ae.out ?_);(refine' zg)
def iq (t:Option T):D:= .pd 1 [.agg [aX t]] 0 0
abbrev tN (n:Int) (L:List Iy):Option T:=d5 (gC n 0 L) (gC n 0 L).length
theorem Nz (n:Int) (L:List Iy) (hl:L.length≤1000) (hn:0≤n∧n≤1000000000) (hL : ∀x∈L,x.2.1≤n∧x.2.2.2.2.size≤1000000000) (hr : ∀x∈L,(aa x.2.2.2.2 0).length≤1000000000) :
 an Tryz.prog G0 68 [.d (cg n (bO L))] [] 0 (.d (iq (tN n L))) []:=by
 have r1:=xr n (bO L);have r2:=NC 0 n L hl ⟨Int.le_refl _,hn.1,hn.2⟩ hL;have hlen:=kF n L 0;have r3:=wL (gC n 0 L) (by omega) (yB hn.2 L 0 (Int.le_refl _) fun x hx=>⟨by have:=(hL x hx).1;omega,hr x hx⟩);rcases Nat.eq_zero_or_pos L.length with h0|h0
 ·obtain rfl:=List.eq_nil_of_length_eq_zero h0;have r4:an Tryz.prog G0 126 [.d (cg n (bO []))] [] 0 (.d aB) []:=zB n;have r2':=an.nilArg3 r2;simp only [iq,aX,tN] at r3 ⊢;generalize cN _=X at *
  generalize cg n _=il at *
  refine vF ab [0,2,3] Tryz.func68 rfl Tryz.results68 Tryz.ntmps68 ?_;(refine' zg4 r1 r4 r2' r3)
  refine ae.frz 56 (ae.out ?_);(refine' zg)
 ·have eL:bO L = .sd 5 false (L.map cS):=by
   cases L with
   | nil=>simp at h0
   | cons y L=>rfl
  have r4:=Ec n L h0 (by omega) (G:=G0);rw [←eL] at r4;simp only [iq,aX,tN] at r3 ⊢;generalize cN _=X at *
  generalize cg n _=il at *
  refine vF ab [0,2,3] Tryz.func68 rfl Tryz.results68 Tryz.ntmps68 ?_;(repeat' (first|with_reducible refine vC (r1) ?_|with_reducible refine vK (r4) ?_|with_reducible refine vQ (r1) ?_|(refine' zq)|fail))
  refine au.frz 16 rfl ?_;(refine' BC r2 r3)
  refine ae.frz 56 (ae.out ?_);(refine' zg)
theorem mI (l:List It):DA (d5 l l.length)∧ao (d5 l l.length)=l:=by
 obtain ⟨h1,h2⟩:=qe l l.length (Nat.le_refl _);exact ⟨h1,by rw [h2,List.take_of_length_le (by omega)]⟩
theorem Ep {l:List It} (hl:l.length≤30000) (hi : ∀i∈l,bZ i):Tk (d5 l l.length):=by
 obtain ⟨h1,h2⟩:=mI l;have h3:=ru l l.length (Nat.le_refl _);exact ⟨h1,by omega,by rw [h2];exact hl,by rw [h2];exact hi⟩
theorem BA (t:Option T):an Tryz.prog G0 82 [.d (iq t)] [] 0 (.d (aX t)) []:=by
 unfold iq;refine vF ab [0,2,4] Tryz.func82 rfl Tryz.results82 Tryz.ntmps82 ?_;(refine' zo)
theorem wH (t:Option T):an Tryz.prog G0 78 [.d (iq t)] [] 0 (.tup [iv (ay (ao t)).d0,iv (ay (ao t)).d1]) []:=by
 have r1:=BA t;have r2:=ju t;generalize iq t=TT at *
 refine vF ab [0,2,3,4] Tryz.func78 rfl Tryz.results78 Tryz.ntmps78 ?_;(refine' tJ r1 r2)
structure wP (n:Int) (L:List Iy):Prop where
 len:L.length≤1000
 n0:0≤n
 n1:n≤1000000000
 so:L.Pairwise fun x y=>x.2.1≤y.2.1
 at' : ∀x∈L,0≤x.2.1∧x.2.1≤n
 sz : ∀x∈L,x.2.2.2.2.size≤1000000000∧(aa x.2.2.2.2 0).length≤1000000
theorem wP.it {n:Int} {L:List Iy} (h:wP n L) : ∀i∈gC n 0 L,bZ i:=
 yB h.n1 L 0 (Int.le_refl _) fun x hx=>⟨by have:=(h.at' x hx).2;have:=h.n1;omega,by have:=(h.sz x hx).2;omega⟩
theorem wP.tk {n:Int} {L:List Iy} (h:wP n L):Tk (tN n L):=Ep (by have:=kF n L 0;have:=h.len;omega) h.it
theorem NB {n:Int} {L:List Iy} (h:wP n L) (a b:Int) (ha:0≤a∧a≤n) (hb:b=0∨b=1):an Tryz.prog G0 39 [.d (iq (tN n L)),iv a,iv b] [] 0 (.tup [iv (iX L a b),iv 0]) []:=by
 have e:=(mI (gC n 0 L)).2;have hs:=ql L 0 h.n0 fun x hx=>(h.at' x hx).2
 obtain ⟨j,vis,sp,-,r1⟩:=nF (tN n L) h.tk 0 (by omega) a b ha.1 (by rw [e];show a≤(ay (gC n 0 L)).d0;omega) hb;rw [e] at sp r1;have ho:=rV L 0 a b j h.so h.at' h.n0 ha.1 (by omega) hb (OD.of sp);rw [Int.zero_add] at ho;have hok:=gA ((gC n 0 L).take j) (fun i hi=>h.it i (List.mem_of_mem_take hi)) (by have:=kF n L 0;have:=h.len;rw [List.length_take];omega);have r2:=BA (tN n L);have e2:iX L a b=(ay ((gC n 0 L).take j)).d1+a - (ay ((gC n 0 L).take j)).d0:=by unfold iX;omega
 rw [e2];generalize iq (tN n L)=TT at *
 have hn1:=h.n1;unfold fc at hok;simp only [gK] at r1;generalize ay ((gC n 0 L).take j)=S at *
 refine vF ab [0,1,2,6,7,8,9,19] Tryz.func39 rfl Tryz.results39 Tryz.ntmps39 ?_;(refine' tJ r2 r1)
def EA (L:List Iy) (x:Sn):Sn:=(iX L x.1 1,iX L x.2 0)
theorem se (n:Int):an Tryz.prog G0 197 [iv n] [] 0 (.d (jl (o5 n))) []:=by
 refine vF ab [0,2] Tryz.func197 rfl Tryz.results197 Tryz.ntmps197 ?_;(refine' zo)
 all_goals rfl
theorem FW (n:Int):an Tryz.prog G0 198 [iv n] [] 0 (.d (jl (N3 n))) []:=by
 refine vF ab [0,2] Tryz.func198 rfl Tryz.results198 Tryz.ntmps198 ?_;(refine' zo)
 all_goals rfl
def XF (to:Int) (H:List Sn) (x:Nat × Int × List It):St:=⟨[(0,iv x.2.1),(1,iv to),(7,.so 0 7 0 x.2.2.length),(10,.d (.sd 2 false (H.map bA))),(11,iv H.length),(12,iv x.1)],[(0,RF x.2.2)],1⟩
def OX (t:Option T) (L:List Iy) (H:List Sn) (i:Nat):St:=⟨[(0,.d (iq t)),(5,.so 0 2 0 i),(12,.d (.sd 2 false (H.map bA))),(13,iv H.length),(14,iv i)],[(0,.row 2 ((H.take i).map (bA ∘ EA L)))],1⟩
def XG (n:Int) (H:List Sn) (x:Nat × Int):St:=⟨[(5,iv n),(7,iv x.2),(15,.d (.sd 2 false (H.map bA))),(16,iv H.length),(17,iv x.1)],[],0⟩
attribute [push_cast] XF.eq_def OX.eq_def XG.eq_def
theorem Fq (t:Option T) (H:List Sn) (hl:H.length≤100000) (h:jp (ay (ao t)).d0 0 H=true) (hn:(ay (ao t)).d0≤1000000000):an Tryz.prog G0 127 [.d (iq t),.d (.sd 2 false (H.map bA))] [] 0 (bv true) []:=by
 have r1:=wH t;generalize iq t=TT at *
 generalize (ay (ao t)).d0=n at *
 generalize (ay (ao t)).d1=q at *
 refine vF ab [0,1,4,5,7,9,15,16,17,18,37] Tryz.func127 rfl Tryz.results127 Tryz.ntmps127 ?_;(refine' fj r1)
 refine vL (lv:=[0,1,4,5,7,9,15,16,17,18,37]) ab (XG n H) (fun x=>x.1≤H.length∧jp n x.2 (H.drop x.1)=true) (fun x=>H.length - x.1) ((0,0)) ((aC.go [5,7,15,16,17] (by exact vT) rfl)) ?_ ?_
 ·exact ⟨Nat.zero_le _,h⟩
 rintro ⟨i,la⟩ ⟨hi,he⟩;simp only at hi he;rcases Nat.lt_or_ge i H.length with hlt|hge
 ·obtain ⟨x,hx⟩ : ∃x,H[i]? = some x:=⟨_,List.getElem?_eq_getElem hlt⟩
  rw [cV hx,eh] at he;obtain ⟨⟨h1,h2,h3⟩,h4⟩:=he;(refine' pR hx)
  refine aG.go ((i+1,x.2)) [5,7,15,16,17] (by exact vT) ?_ ?_
  ·show H.length - (i+1)<H.length - i;omega
  ·exact ⟨hlt,h4⟩
 ·(refine' zo)
theorem GO {n:Int} {L:List Iy} (hw:wP n L) (H:List Sn) (hl:H.length≤100000) (h : ∀x∈H,0≤x.1∧x.1≤n∧0≤x.2∧x.2≤n) :
 an Tryz.prog G0 129 [.d (iq (tN n L)),.d (.sd 2 false (H.map bA))] [] 0 (.d (.sd 2 false ((H.map (EA L)).map bA))) []:=by
 have r1:=fun a b ha hb=>NB hw a b ha hb
 generalize tN n L=t at *
 refine vF ab [0,1,4,5,7,8,10,12,13,14,15] Tryz.func129 rfl Tryz.results129 Tryz.ntmps129 ?_;(refine' zg)
 refine vL (lv:=[0,1,4,5,7,8,10,12,13,14,15]) ab (OX t L H) (fun i=>i≤H.length) (fun i=>H.length - i) (0) (aC.nil 5 2<|(aC.go [0,5,12,13,14] (by exact vT) rfl)) ?_ ?_
 ·exact Nat.zero_le _
 intro i hi;rcases Nat.lt_or_ge i H.length with hlt|hge
 ·obtain ⟨x,hx⟩ : ∃x,H[i]? = some x:=⟨_,List.getElem?_eq_getElem hlt⟩
  obtain ⟨h1,h2,h3,h4⟩:=h x (List.mem_of_getElem? hx);have r2:=r1 x.1 1 ⟨h1,h2⟩ (.inr rfl);have r3:=r1 x.2 0 ⟨h3,h4⟩ (.inl rfl);have e:(H.take (i+1)).map (bA ∘ EA L)=(H.take i).map (bA ∘ EA L)++[D.agg [D.lit (.int .i64 (iX L x.1 1)),D.lit (.int .i64 (iX L x.2 0))]]:=by rw [ax hx,List.map_append];rfl
  generalize iX L x.1 1=u at *
  generalize iX L x.2 0=v at *
  (refine' NH r2 r3 hx)
  rw [←e,show ((H.take (i+1)).map (bA ∘ EA L)).length=i+1 by simp;omega];refine aG.go (i+1) [0,5,12,13,14] (by exact vT) ?_ ?_
  ·show H.length - (i+1)<H.length - i;omega
  ·show i+1≤H.length;omega
 ·obtain rfl:i=H.length:=by omega
  rw [OX,List.take_length];(refine' zg)
  refine ae.frz 0 (ae.out ?_);(refine' zg)
  all_goals (try rw [List.take_of_length_le (by simp)])
theorem LE (f to:Int) (H:List Sn) (hl:H.length≤1000) (hf:0≤f∧f≤1000000000∧0≤to∧to≤1000000000) (hH : ∀x∈H,0≤x.1∧x.1≤1000000000∧0≤x.2∧x.2≤1000000000) :
 an Tryz.prog G0 128 [iv f,iv to,.d (.sd 2 false (H.map bA))] [] 0 (Ub (yD to f H)) []:=by
 have hlen:=wZ to H f;generalize hW:yD to f H=W at *
 refine vF ab [0,1,2,6,7,9,10,11,12,13,19,42] Tryz.func128 rfl Tryz.results128 Tryz.ntmps128 ?_;(refine' zg)
 refine vL (lv:=[0,1,2,6,7,9,10,11,12,13,19,42]) ab (XF to H) (fun x=>x.1≤H.length∧x.2.2++yD to x.2.1 (H.drop x.1)=W∧0≤x.2.1∧x.2.1≤1000000000) (fun x=>H.length - x.1) ((0,f,[])) (aC.nil 7 7<|(aC.go [0,1,7,10,11,12] (by exact vT) rfl)) ?_ ?_
 ·exact ⟨Nat.zero_le _,hW,hf.1,hf.2.1⟩
 rintro ⟨i,g,out⟩ ⟨hi,he,hg0,hg⟩;simp only at hi he hg0 hg;have hol:out.length≤W.length:=by rw [←he,List.length_append];omega
 rcases Nat.lt_or_ge i H.length with hlt|hge
 ·obtain ⟨x,hx⟩ : ∃x,H[i]? = some x:=⟨_,List.getElem?_eq_getElem hlt⟩
  obtain ⟨h1,h2,h3,h4⟩:=hH x (List.mem_of_getElem? hx);rw [cV hx,yD] at he;have r2:=FW (x.2 - x.1);by_cases hgx:g<x.1
  ·rw [if_pos hgx] at he;have r1:=se (x.1 - g);(refine' NH r1 r2 hx)
   rw [eW,eW];refine aG.go ((i+1,x.2,out++[o5 (x.1 - g)]++[N3 (x.2 - x.1)])) [0,1,7,10,11,12] (by exact vT) ?_ ?_
   ·show H.length - (i+1)<H.length - i;omega
   ·exact ⟨hlt,by rw [←he];simp,h3,h4⟩
  ·rw [if_neg hgx] at he;(refine' lS r2 hx)
   rw [eW];refine aG.go ((i+1,x.2,out++[N3 (x.2 - x.1)])) [0,1,7,10,11,12] (by exact vT) ?_ ?_
   ·show H.length - (i+1)<H.length - i;omega
   ·exact ⟨hlt,by rw [←he];simp,h3,h4⟩
 ·rw [List.drop_of_length_le hge,yD] at he;by_cases hgt:g<to
  ·rw [if_pos hgt] at he;subst he;have r1:=se (to - g);(refine' fj r1)
   rw [eW];refine ae.frz 41 (ae.out ?_);(refine' zg)
  ·rw [if_neg hgt,List.append_nil] at he;subst he;(refine' zg)
   refine ae.frz 0 (ae.out ?_);(refine' zg)
end Go.Proofs.YtkkanlcjjpoklaaGreatDoor
