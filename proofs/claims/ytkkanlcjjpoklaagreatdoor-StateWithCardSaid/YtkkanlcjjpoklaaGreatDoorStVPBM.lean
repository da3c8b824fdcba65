/- What the theorem leans on, part 39. -/
import Derived.Test.YtkkanlcjjpoklaaGreatDoorStVPBH
import Derived.Test.YtkkanlcjjpoklaaGreatDoorStVPBL
set_option linter.unusedSimpArgs false
set_option linter.unusedVariables false
set_option maxRecDepth 8000
namespace Go.Proofs.YtkkanlcjjpoklaaGreatDoor
theorem ap.nilArg3 {P:Program} {G:Gl} {f:Nat} {x z:V} {σ:ak} {m:Nat} {r:V} {σ':ak} {k:Nat} {b:Bool} (h:ap P G f [x,z,.d (.sd k b [])] σ m r σ'):ap P G f [x,z,.d aB] σ m r σ':=by
 intro w I β vals hm hG hd;refine h w I β vals hm hG ⟨hd.1,fun i c y hc hy =>?_⟩;match i,hc with
 | 0,hc=>exact hd.2 0 c y hc hy
 | 1,hc=>exact hd.2 1 c y hc hy
 | 2,hc=>
  simp only [abB,abq,aa5] at hc;subst hc;have h1:ax w I aB y:=hd.2 2 (.d aB) y rfl hy;cases h1 with
  | lit v=>exact ax.sd0 k b none
 | i+3,hc=>simp at hc
abbrev Ud (l:List It):bN:= .row 7 (l.map fQ)
abbrev W5 (l:List It):V:= .d (.sd 7 false (l.map fQ))
theorem fC (es:List It) (i:It):es.map fQ++[fQ i]=(es++[i]).map fQ:=by rw [abc];rfl
theorem tf (n:Int):ap Tryz.prog G0 194 [iv n] [] 0 (.d (fQ (gc n))) []:=by
 refine vF ab [0,2] Tryz.func194 rfl Tryz.results194 Tryz.ntmps194 ?_;(refine' zo)
 all_goals rfl
theorem Jw (x:Iy) (hs:x.2.2.2.2.size≤1000000000):ap Tryz.prog G0 195 [.d (cT x)] [] 0 (.d (fQ (kQ x))) []:=by
 have r1:=re x.2.2.2.2 hs;obtain ⟨a,b,c,d,e⟩:=x;simp only [kQ] at r1 ⊢;refine vF ab [0,1,2] Tryz.func195 rfl Tryz.results195 Tryz.ntmps195 ?_;(refine' lK r1)
def WP (to:Int) (L:List Iy) (x:Nat × Int × List It):St:=⟨[(0,iv x.2.1),(1,iv to),(7,.so 0 7 0 x.2.2.length),(10,.d (.sd 5 false (L.map cT))),(11,iv L.length),(12,iv x.1)],[(0,Ud x.2.2)],1⟩
attribute [push_cast] WP.eq_def
theorem P3 (f to:Int) (L:List Iy) (hl:L.length≤1000) (hf:0≤f∧f≤to∧to≤1000000000) (hL : ∀x∈L,x.2.1≤to∧x.2.2.2.2.size≤1000000000) :
 ap Tryz.prog G0 125 [iv f,iv to,.d (.sd 5 false (L.map cT))] [] 0 (W5 (ev to f L)) []:=by
 have hlen:=jL to L f;generalize hW:ev to f L=W at *
 refine vF ab [0,1,2,6,7,9,10,11,12,13,19,38] Tryz.func125 rfl Tryz.results125 Tryz.ntmps125 ?_;(refine' zg)
 refine vL (lv:=[0,1,2,6,7,9,10,11,12,13,19,38]) ab (WP to L) (fun x=>x.1≤L.length∧x.2.2++ev to x.2.1 (L.drop x.1)=W∧0≤x.2.1∧x.2.1≤to) (fun x=>L.length - x.1) ((0,f,[])) (aC.nil 7 7<|(aC.go [0,1,7,10,11,12] (by exact vT) rfl)) ?_ ?_
 ·exact ⟨aa1 _,hW,hf.1,hf.2.1⟩
 rintro ⟨i,g,out⟩ ⟨hi,he,hg0,hg⟩;simp only at hi he hg0 hg;have hol:out.length≤W.length:=by rw [←he,Or];omega
 rcases aa2 i L.length with hlt|hge
 ·obtain ⟨x,hx⟩ : ∃x,L[i]? = some x:=⟨_,IO hlt⟩
  obtain ⟨h1,h2⟩:=hL x (aa0 hx);rw [dj hx,ev] at he;have r2:=Jw x h2;by_cases hgx:g<x.2.1
  ·rw [aa3 hgx] at he;have r1:=tf (x.2.1 - g);(refine' Qa r1 r2 hx)
   rw [fC,fC];refine aG.go ((i+1,x.2.1,out++[gc (x.2.1 - g)]++[kQ x])) [0,1,7,10,11,12] (by exact vT) ?_ ?_
   ·show L.length - (i+1)<L.length - i;omega
   ·exact ⟨hlt,by rw [←he];simp,by simp only;omega,h1⟩
  ·rw [aaY hgx] at he;(refine' pD r2 hx)
   rw [fC];refine aG.go ((i+1,g,out++[kQ x])) [0,1,7,10,11,12] (by exact vT) ?_ ?_
   ·show L.length - (i+1)<L.length - i;omega
   ·exact ⟨hlt,by rw [←he];simp,hg0,hg⟩
 ·rw [abo hge,ev] at he;by_cases hgt:g<to
  ·rw [aa3 hgt] at he;subst he;have r1:=tf (to - g);(refine' fq r1)
   rw [fC];refine ae.frz 41 (ae.out ?_);(refine' zg)
  ·rw [aaY hgt,abb] at he;subst he;(refine' zg)
   refine ae.frz 0 (ae.out ?_);(refine' zg)
def bI (t:Option T):D:= .pd 1 [.agg [aU t]] 0 0
abbrev Aw (n:Int) (L:List Iy):Option T:=eA (ev n 0 L) (ev n 0 L).length
theorem P1 (n:Int) (L:List Iy) (hl:L.length≤1000) (hn:0≤n∧n≤1000000000) (hL : ∀x∈L,x.2.1≤n∧x.2.2.2.2.size≤1000000000) (hr : ∀x∈L,(aa x.2.2.2.2 0).length≤1000000000) :
 ap Tryz.prog G0 68 [.d (cW n (ct L))] [] 0 (.d (bI (Aw n L))) []:=by
 have r1:=yT n (ct L);have r2:=P3 0 n L hl ⟨abN _,hn.1,hn.2⟩ hL;have hlen:=jL n L 0;have r3:=xY (ev n 0 L) (by omega) (Av hn.2 L 0 (abN _) fun x hx=>⟨by have:=(hL x hx).1;omega,hr x hx⟩);rcases abH L.length with h0|h0
 ·obtain rfl:=abu h0;have r4:ap Tryz.prog G0 126 [.d (cW n (ct []))] [] 0 (.d aB) []:=Bu n;have r2':=ap.nilArg3 r2;simp only [bI,aU,Aw] at r3 ⊢;generalize cM _=X at *
  generalize cW n _=il at *
  refine vF ab [0,2,3] Tryz.func68 rfl Tryz.results68 Tryz.ntmps68 ?_;(refine' zg4 r1 r4 r2' r3)
  refine ae.frz 56 (ae.out ?_);(refine' zg)
 ·have eL:ct L = .sd 5 false (L.map cT):=by
   cases L with
   | nil=>simp at h0
   | cons y L=>rfl
  have r4:=Gb n L h0 (by omega) (G:=G0);rw [←eL] at r4;simp only [bI,aU,Aw] at r3 ⊢;generalize cM _=X at *
  generalize cW n _=il at *
  refine vF ab [0,2,3] Tryz.func68 rfl Tryz.results68 Tryz.ntmps68 ?_;(repeat' (first|with_reducible refine vC (r1) ?_|with_reducible refine vK (r4) ?_|with_reducible refine vQ (r1) ?_|(refine' zq)|fail))
  refine au.frz 16 rfl ?_;(refine' Ax r2 r3)
  refine ae.frz 56 (ae.out ?_);(refine' zg)
theorem eI (l:List It):Dy (eA l l.length)∧an (eA l l.length)=l:=by
 obtain ⟨h1,h2⟩:=qQ l l.length (aaV _);exact ⟨h1,by rw [h2,aaW (by omega)]⟩
theorem zb {l:List It} (hl:l.length≤30000) (hi : ∀i∈l,cd i):Tk (eA l l.length):=by
 obtain ⟨h1,h2⟩:=eI l;have h3:=sC l l.length (aaV _);exact ⟨h1,by omega,by rw [h2];exact hl,by rw [h2];exact hi⟩
theorem uM (t:Option T):ap Tryz.prog G0 82 [.d (bI t)] [] 0 (.d (aU t)) []:=by
 unfold bI;refine vF ab [0,2,4] Tryz.func82 rfl Tryz.results82 Tryz.ntmps82 ?_;(refine' zo)
theorem pB (t:Option T):ap Tryz.prog G0 78 [.d (bI t)] [] 0 (.tup [iv (aq (an t)).d0,iv (aq (an t)).d1]) []:=by
 have r1:=uM t;have r2:=ik t;generalize bI t=TT at *
 refine vF ab [0,2,3,4] Tryz.func78 rfl Tryz.results78 Tryz.ntmps78 ?_;(refine' uR r1 r2)
structure yc (n:Int) (L:List Iy):Prop where
 len:L.length≤1000
 n0:0≤n
 n1:n≤1000000000
 so:L.Pairwise fun x y=>x.2.1≤y.2.1
 at' : ∀x∈L,0≤x.2.1∧x.2.1≤n
 sz : ∀x∈L,x.2.2.2.2.size≤1000000000∧(aa x.2.2.2.2 0).length≤1000000
theorem yc.it {n:Int} {L:List Iy} (h:yc n L) : ∀i∈ev n 0 L,cd i:=
 Av h.n1 L 0 (abN _) fun x hx=>⟨by have:=(h.at' x hx).2;have:=h.n1;omega,by have:=(h.sz x hx).2;omega⟩
theorem yc.tk {n:Int} {L:List Iy} (h:yc n L):Tk (Aw n L):=zb (by have:=jL n L 0;have:=h.len;omega) h.it
theorem GL {n:Int} {L:List Iy} (h:yc n L) (a b:Int) (ha:0≤a∧a≤n) (hb:b=0∨b=1):ap Tryz.prog G0 39 [.d (bI (Aw n L)),iv a,iv b] [] 0 (.tup [iv (a8 L a b),iv 0]) []:=by
 have e:=(eI (ev n 0 L)).2;have hs:=lD L 0 h.n0 fun x hx=>(h.at' x hx).2
 obtain ⟨j,vis,sp,-,r1⟩:=iT (Aw n L) h.tk 0 (by omega) a b ha.1 (by rw [e];show a≤(aq (ev n 0 L)).d0;omega) hb;rw [e] at sp r1;have ho:=s7 L 0 a b j h.so h.at' h.n0 ha.1 (by omega) hb (NC.of sp);rw [Int.zero_add] at ho;have hok:=gg ((ev n 0 L).take j) (fun i hi=>h.it i (abm hi)) (by have:=jL n L 0;have:=h.len;rw [aa7];omega);have r2:=uM (Aw n L);have e2:a8 L a b=(aq ((ev n 0 L).take j)).d1+a - (aq ((ev n 0 L).take j)).d0:=by unfold a8;omega
 rw [e2];generalize bI (Aw n L)=TT at *
 have hn1:=h.n1;unfold eU at hok;simp only [fk] at r1;generalize aq ((ev n 0 L).take j)=S at *
 refine vF ab [0,1,2,6,7,8,9,19] Tryz.func39 rfl Tryz.results39 Tryz.ntmps39 ?_;(refine' uR r2 r1)
def lp (L:List Iy) (x:Sn):Sn:=(a8 L x.1 1,a8 L x.2 0)
theorem tg (n:Int):ap Tryz.prog G0 197 [iv n] [] 0 (.d (fQ (gc n))) []:=by
 refine vF ab [0,2] Tryz.func197 rfl Tryz.results197 Tryz.ntmps197 ?_;(refine' zo)
 all_goals rfl
theorem HX (n:Int):ap Tryz.prog G0 198 [iv n] [] 0 (.d (fQ (md n))) []:=by
 refine vF ab [0,2] Tryz.func198 rfl Tryz.results198 Tryz.ntmps198 ?_;(refine' zo)
 all_goals rfl
def crS (to:Int) (H:List Sn) (x:Nat × Int × List It):St:=⟨[(0,iv x.2.1),(1,iv to),(7,.so 0 7 0 x.2.2.length),(10,.d (.sd 2 false (H.map bA))),(11,iv H.length),(12,iv x.1)],[(0,Ud x.2.2)],1⟩
def Rs (t:Option T) (L:List Iy) (H:List Sn) (i:Nat):St:=⟨[(0,.d (bI t)),(5,.so 0 2 0 i),(12,.d (.sd 2 false (H.map bA))),(13,iv H.length),(14,iv i)],[(0,.row 2 ((H.take i).map (bA ∘ lp L)))],1⟩
def crT (n:Int) (H:List Sn) (x:Nat × Int):St:=⟨[(5,iv n),(7,iv x.2),(15,.d (.sd 2 false (H.map bA))),(16,iv H.length),(17,iv x.1)],[],0⟩
attribute [push_cast] crS.eq_def Rs.eq_def crT.eq_def
theorem Hm (t:Option T) (H:List Sn) (hl:H.length≤100000) (h:fS (aq (an t)).d0 0 H=true) (hn:(aq (an t)).d0≤1000000000):ap Tryz.prog G0 127 [.d (bI t),.d (.sd 2 false (H.map bA))] [] 0 (bv true) []:=by
 have r1:=pB t;generalize bI t=TT at *
 generalize (aq (an t)).d0=n at *
 generalize (aq (an t)).d1=q at *
 refine vF ab [0,1,4,5,7,9,15,16,17,18,37] Tryz.func127 rfl Tryz.results127 Tryz.ntmps127 ?_;(refine' fq r1)
 refine vL (lv:=[0,1,4,5,7,9,15,16,17,18,37]) ab (crT n H) (fun x=>x.1≤H.length∧fS n x.2 (H.drop x.1)=true) (fun x=>H.length - x.1) ((0,0)) ((aC.go [5,7,15,16,17] (by exact vT) rfl)) ?_ ?_
 ·exact ⟨aa1 _,h⟩
 rintro ⟨i,la⟩ ⟨hi,he⟩;simp only at hi he;rcases aa2 i H.length with hlt|hge
 ·obtain ⟨x,hx⟩ : ∃x,H[i]? = some x:=⟨_,IO hlt⟩
  rw [dj hx,bZ] at he;obtain ⟨⟨h1,h2,h3⟩,h4⟩:=he;(refine' uN hx)
  refine aG.go ((i+1,x.2)) [5,7,15,16,17] (by exact vT) ?_ ?_
  ·show H.length - (i+1)<H.length - i;omega
  ·exact ⟨hlt,h4⟩
 ·(refine' zo)
theorem IM {n:Int} {L:List Iy} (hw:yc n L) (H:List Sn) (hl:H.length≤100000) (h : ∀x∈H,0≤x.1∧x.1≤n∧0≤x.2∧x.2≤n) :
 ap Tryz.prog G0 129 [.d (bI (Aw n L)),.d (.sd 2 false (H.map bA))] [] 0 (.d (.sd 2 false ((H.map (lp L)).map bA))) []:=by
 have r1:=fun a b ha hb=>GL hw a b ha hb
 generalize Aw n L=t at *
 refine vF ab [0,1,4,5,7,8,10,12,13,14,15] Tryz.func129 rfl Tryz.results129 Tryz.ntmps129 ?_;(refine' zg)
 refine vL (lv:=[0,1,4,5,7,8,10,12,13,14,15]) ab (Rs t L H) (fun i=>i≤H.length) (fun i=>H.length - i) (0) (aC.nil 5 2<|(aC.go [0,5,12,13,14] (by exact vT) rfl)) ?_ ?_
 ·exact aa1 _
 intro i hi;rcases aa2 i H.length with hlt|hge
 ·obtain ⟨x,hx⟩ : ∃x,H[i]? = some x:=⟨_,IO hlt⟩
  obtain ⟨h1,h2,h3,h4⟩:=h x (aa0 hx);have r2:=r1 x.1 1 ⟨h1,h2⟩ (.inr rfl);have r3:=r1 x.2 0 ⟨h3,h4⟩ (.inl rfl);have e:(H.take (i+1)).map (bA ∘ lp L)=(H.take i).map (bA ∘ lp L)++[D.agg [D.lit (.int .i64 (a8 L x.1 1)),D.lit (.int .i64 (a8 L x.2 0))]]:=by rw [ao hx,abc];rfl
  generalize a8 L x.1 1=u at *
  generalize a8 L x.2 0=v at *
  (refine' Qa r2 r3 hx)
  rw [←e,show ((H.take (i+1)).map (bA ∘ lp L)).length=i+1 by simp;omega];refine aG.go (i+1) [0,5,12,13,14] (by exact vT) ?_ ?_
  ·show H.length - (i+1)<H.length - i;omega
  ·show i+1≤H.length;omega
 ·obtain rfl:i=H.length:=by omega
  rw [Rs,abC];(refine' zg)
  refine ae.frz 0 (ae.out ?_);(refine' zg)
  all_goals (try rw [aaW (by simp)])
theorem NU (f to:Int) (H:List Sn) (hl:H.length≤1000) (hf:0≤f∧f≤1000000000∧0≤to∧to≤1000000000) (hH : ∀x∈H,0≤x.1∧x.1≤1000000000∧0≤x.2∧x.2≤1000000000) :
 ap Tryz.prog G0 128 [iv f,iv to,.d (.sd 2 false (H.map bA))] [] 0 (W5 (gv to f H)) []:=by
 have hlen:=m0 to H f;generalize hW:gv to f H=W at *
 refine vF ab [0,1,2,6,7,9,10,11,12,13,19,42] Tryz.func128 rfl Tryz.results128 Tryz.ntmps128 ?_;(refine' zg)
 refine vL (lv:=[0,1,2,6,7,9,10,11,12,13,19,42]) ab (crS to H) (fun x=>x.1≤H.length∧x.2.2++gv to x.2.1 (H.drop x.1)=W∧0≤x.2.1∧x.2.1≤1000000000) (fun x=>H.length - x.1) ((0,f,[])) (aC.nil 7 7<|(aC.go [0,1,7,10,11,12] (by exact vT) rfl)) ?_ ?_
 ·exact ⟨aa1 _,hW,hf.1,hf.2.1⟩
 rintro ⟨i,g,out⟩ ⟨hi,he,hg0,hg⟩;simp only at hi he hg0 hg;have hol:out.length≤W.length:=by rw [←he,Or];omega
 rcases aa2 i H.length with hlt|hge
 ·obtain ⟨x,hx⟩ : ∃x,H[i]? = some x:=⟨_,IO hlt⟩
  obtain ⟨h1,h2,h3,h4⟩:=hH x (aa0 hx);rw [dj hx,gv] at he;have r2:=HX (x.2 - x.1);by_cases hgx:g<x.1
  ·rw [aa3 hgx] at he;have r1:=tg (x.1 - g);(refine' Qa r1 r2 hx)
   rw [fC,fC];refine aG.go ((i+1,x.2,out++[gc (x.1 - g)]++[md (x.2 - x.1)])) [0,1,7,10,11,12] (by exact vT) ?_ ?_
   ·show H.length - (i+1)<H.length - i;omega
   ·exact ⟨hlt,by rw [←he];simp,h3,h4⟩
  ·rw [aaY hgx] at he;(refine' pD r2 hx)
   rw [fC];refine aG.go ((i+1,x.2,out++[md (x.2 - x.1)])) [0,1,7,10,11,12] (by exact vT) ?_ ?_
   ·show H.length - (i+1)<H.length - i;omega
   ·exact ⟨hlt,by rw [←he];simp,h3,h4⟩
 ·rw [abo hge,gv] at he;by_cases hgt:g<to
  ·rw [aa3 hgt] at he;subst he;have r1:=tg (to - g);(refine' fq r1)
   rw [fC];refine ae.frz 41 (ae.out ?_);(refine' zg)
  ·rw [aaY hgt,abb] at he;subst he;(refine' zg)
   refine ae.frz 0 (ae.out ?_);(refine' zg)
def QE (z w:List (Int × Int)) (tab:Nat) (wd:Int) (l:List Int) (L:List Iy) (H:List Sn) (x:Nat × Nat):Fl:=
 (gq (ci l L x.2 x.1 H)+(if x.2<l.length then 1 else 0),(x.2:Int) - x.1+(if x.2<l.length then 1 else 0),(cf (b7 z w tab 0 (aI (ci l L x.2 x.1 H))) wd).length,km (cf (b7 z w tab 0 (aI (ci l L x.2 x.1 H))) wd))
def eZ (x:Fl):D:= .agg [iD x.1,iD x.2.1,iD x.2.2.1,iD x.2.2.2]
theorem I9 (C:List Cl) (wd:Int):0<(cf C wd).length:=by
 have h:0<(bz C wd).length:=by unfold bz;split<;>simp [qm]
 have h2:=rQ (bz C wd) C;rw [cf];rcases hpq:dB C (bz C wd) with _|⟨p,q⟩
 ·rw [hpq] at h2;simp only [abt] at h2;omega
 ·simp
def XI (rs:List (List Cl)) (i:Nat):St:=⟨[(7,tF rs),(8,iv 0),(9,iv (km (rs.take i))),(18,tF rs),(19,iv rs.length),(20,iv i)],[],0⟩
attribute [push_cast] XI.eq_def
theorem Fq (C:List Cl) (h:ey C) (wd:Int) (hw:0≤wd∧wd≤200) (hq:(cf C wd).length≤100000000) (hr : ∀r∈cf C wd,r.length≤100000000 ∧ ∀c∈r,cw c≤2) :
 ap Tryz.prog G0 199 [dM C,iv wd] [] 0 (.tup [iv (cf C wd).length,iv (km (cf C wd)),iv 0]) []:=by
 have r1:=M6 C h wd hw;generalize cf C wd=rs at *
 refine vF ab [0,1,4,5,6,7,8,9,11,18,19,20,21] Tryz.func199 rfl Tryz.results199 Tryz.ntmps199 ?_;(refine' fq r1)
 refine vL (lv:=[0,1,4,5,6,7,8,9,11,18,19,20,21]) ab (XI rs) (fun i=>i≤rs.length) (fun i=>rs.length - i) (0) ((aC.go [7,8,9,18,19,20] (by exact vT) rfl)) ?_ ?_
 ·exact aa1 _
 intro i hi;have hb:=qP (B:=200000000) (rs.take i).reverse (rs.take i) (by simp) fun r hr'=>by
  obtain ⟨q1,q2⟩:=hr r (abm hr');have:=iB q2;omega
 rcases aa2 i rs.length with hlt|hge
 ·obtain ⟨r,hx⟩ : ∃r,rs[i]? = some r:=⟨_,IO hlt⟩
  obtain ⟨q1,q2⟩:=hr r (aa0 hx);have hwl:=iB q2;have r2:=Ho r q1 q2;have e:km (rs.take (i+1))=max (km (rs.take i)) (dH r):=by rw [ao hx,oQ]
  (refine' pD r2 hx)
  all_goals
   refine aG.go (i+1) [7,8,9,18,19,20] (by rw [XI,e];exact vT) ?_ ?_
   ·show rs.length - (i+1)<rs.length - i;omega
   ·show i+1≤rs.length;omega
 ·obtain rfl:i=rs.length:=by omega
  rw [XI,abC];(refine' zo)
section
variable {l:List Int} {ps:List (List Int)} {t:Option T}
theorem OW (R:Rp l ps t) (hl:l.length≤300) (X:D) (n:Int) {L:List Iy} {H:List Sn} {z w:List (Int × Int)} (hz:lF z) (hw:lF w) {tab:Nat} (ht:1≤tab∧tab≤16) {wd:Int} (hwd:0≤wd∧wd≤200) {x:Nat × Nat} (g:XL z w tab wd l L H x)
 (hx:x.1≤x.2∧x.2≤l.length) (hq : ∀y∈ci l L x.2 x.1 H,Qz y) (hc:(ci l L x.2 x.1 H).length≤1000000) :
 ap Tryz.prog G0 130 [.d (vwD (bF t) (cW n X) (.sd 2 false (H.map bA)) z w tab wd),.d (va l L H x)] [] 0 (.d (eZ (QE z w tab wd l L H x))) []:=by
 have r1:=Rh z w hz hw tab ht _ g.pz g.fl;have r2:=Fq _ g.ok wd hwd g.q fun r hr=>(g.s r hr).2.2
 have r3:=NB (ci l L x.2 x.1 H) x.1 x.2 (by omega) hq;have r4:=dO R;have hsz:=pw (B:=1000000) (ci l L x.2 x.1 H) (ur fun z hz=>(hq z hz).1);have hsz2:gq (ci l L x.2 x.1 H)≤1000000*1000000:=ab5 hsz (abX _ hc);unfold QE;simp only [va,Tl] at r3 ⊢;generalize gq (ci l L x.2 x.1 H)=q at *
 generalize bF t=rp at *
 generalize cW n X=il at *
 generalize cf _ wd=rs at *
 generalize b7 z w tab 0 _=C at *
 generalize (ci l L x.2 x.1 H).map iA=Q at *
 obtain ⟨a,b⟩:=x;simp only at *
 by_cases hb:b<l.length
 ·rw [aa3 hb];simp only [eZ];refine vF ab [0,1,2,3,4,5,7,8,10,45] Tryz.func130 rfl Tryz.results130 Tryz.ntmps130 ?_;(refine' Tw r1 r2 r3 r4)
 ·rw [aaY hb];simp only [eZ,Int.add_zero];refine vF ab [0,1,2,3,4,5,7,8,10,45] Tryz.func130 rfl Tryz.results130 Tryz.ntmps130 ?_;(refine' Tw r1 r2 r3 r4)
end
theorem KS (x:Fl):ap Tryz.prog G0 201 [.d (eZ x)] [] 0 (.d (fQ (fY x))) []:=by
 obtain ⟨a,b,c,d⟩:=x;simp only [eZ,fY];refine vF ab [0,1,2] Tryz.func201 rfl Tryz.results201 Tryz.ntmps201 ?_;(refine' zo)
def RK (fs:List Fl) (i:Nat):St:=⟨[(4,.so 0 7 0 i),(5,bv true),(8,.d (.sd 4 false (fs.map eZ))),(9,iv fs.length),(10,iv i)],[(0,.row 7 ((fs.take i).map (fQ ∘ fY)))],1⟩
attribute [push_cast] RK.eq_def eZ.eq_def
theorem HS (fs:List Fl) (hl:fs.length≤100000) (h : ∀x∈fs,D4 x):ap Tryz.prog G0 132 [.d (.sd 4 false (fs.map eZ))] [] 0 (.tup [W5 (fs.map fY),bv true]) []:=by
 refine vF ab [0,2,3,4,5,7,8,9,10,11] Tryz.func132 rfl Tryz.results132 Tryz.ntmps132 ?_;(refine' zg)
 refine vL (lv:=[0,2,3,4,5,7,8,9,10,11]) ab (RK fs) (fun i=>i≤fs.length) (fun i=>fs.length - i) (0) (aC.nil 4 7<|(aC.go [4,5,8,9,10] (by exact vT) rfl)) ?_ ?_
 ·exact aa1 _
 intro i hi;rcases aa2 i fs.length with hlt|hge
 ·obtain ⟨x,hx⟩ : ∃x,fs[i]? = some x:=⟨_,IO hlt⟩
  have hk:=h x (aa0 hx);unfold D4 at hk;have r1:=KS x;have e:(fs.take (i+1)).map (fQ ∘ fY)=(fs.take i).map (fQ ∘ fY)++[fQ (fY x)]:=by rw [ao hx,abc];rfl
  obtain ⟨a,b,c,d⟩:=x;simp only [eZ] at r1 hk;(refine' pD r1 hx)
  rw [←e,show ((fs.take (i+1)).map (fQ ∘ fY)).length=i+1 by simp;omega];rw [show decide (0<c)=true from abw hk.2.2.1.1];refine aG.go (i+1) [4,5,8,9,10] (by exact vT) ?_ ?_
  ·show fs.length - (i+1)<fs.length - i;omega
  ·show i+1≤fs.length;omega
 ·obtain rfl:i=fs.length:=by omega
  rw [RK,abC];(refine' zg)
  refine ae.frz 0 (ae.out ?_);(refine' zg)
  all_goals (try rw [aaW (by simp)])
  all_goals (try rw [W5,aci])
theorem Bb (t:Option T):ap Tryz.prog G0 133 [.d (aU t),iv 0,bv true] [] 0 (.tup [.d (bI t),iv 0]) []:=by
 simp only [bI,aU];generalize cM t=TT at *
 refine vF ab [0,1,2,6,7,8,12] Tryz.func133 rfl Tryz.results133 Tryz.ntmps133 ?_;(refine' zg)
 refine ae.frz 40 (ae.out ?_);(refine' zg)
abbrev lR (fs:List Fl):Option T:=eA (fs.map fY) (fs.map fY).length
theorem Om (fs:List Fl) (hl:fs.length≤20000) (h : ∀x∈fs,D4 x):ap Tryz.prog G0 73 [.d (.sd 4 false (fs.map eZ))] [] 0 (.tup [.d (bI (lR fs)),iv 0]) []:=by
 have r1:=HS fs (by omega) h;have r2:=xY (fs.map fY) (by rw [aa4];omega) fun i hi=>by
  obtain ⟨x,hx,rfl⟩:=abY.1 hi;exact KY (h x hx)
 have r3:=Bb (lR fs);simp only [lR] at *
 generalize bI _=TT at *
 generalize aU _=E at *
 refine vF ab [0,2,3,4,5,6,7] Tryz.func73 rfl Tryz.results73 Tryz.ntmps73 ?_;(refine' Td r1 r2 r3)
abbrev DR (n:Int) (L:List Iy) (H:List Sn):Option T:=eA (gv (n+aY L) 0 (H.map (lp L))) (gv (n+aY L) 0 (H.map (lp L))).length
def lsF (rp il hd:D) (z w:List (Int × Int)) (tab:Nat) (wd to:Int) (x:Nat × List Fl):St:=
 ⟨[(1,iv x.1),(2,iv to),(3,.po 0 0),(8,.so 1 4 0 x.2.length)],[(0,.cell [.d rp,.d il,.d hd,.d (wo z w),iv tab,iv wd]),(1,.row 4 (x.2.map eZ))],2⟩
attribute [push_cast] lsF.eq_def
theorem zH (es:List Fl) (x:Fl):es.map eZ++[D.agg [iD x.1,iD x.2.1,iD x.2.2.1,iD x.2.2.2]]=(es++[x]).map eZ:=by rw [abc];rfl
section
variable {s:ByteArray} {L:List Iy} {F:List Sn} {tab:Nat} {wd:Int} {ps:List (List Int)} {t:Option T}
abbrev bW (s:ByteArray) (L:List Iy) (F:List Sn) (tab:Nat) (wd:Int) (a:Nat):List Fl:=(aQ (aa s 0) (aH F) a).map (QE zT wT tab wd (aa s 0) (aD L) (aH F))
def D5 (l:List Int) (H:List Sn) (M:Nat × Nat→Fl) (to:Int) (a:Nat):Option (List Fl):=
 if to<aE l H a then none
 else if (aE l H a:Int)=to then some [M (a,aE l H a)]
 else if hlt:aE l H a<l.length∧a≤aE l H a then (D5 l H M to (aE l H a+1)).map (M (a,aE l H a) :: ·) else none
termination_by l.length - a
decreasing_by omega
theorem Bn (l:List Int) (H:List Sn) (M:Nat × Nat→Fl) : ∀(d a:Nat),l.length - a≤d→a≤l.length→D5 l H M l.length a=some ((aQ l H a).map M)
 | d,a,hd,ha=>by
  have he:=bM l H ha;rw [D5,aQ,aaY (by omega)];by_cases hlt:aE l H a<l.length
  ·rw [aaY (by omega),acB ⟨hlt,he.1⟩,acB ⟨hlt,he.1⟩,Bn l H M (d - 1) (aE l H a+1) (by omega) (by omega)];rfl
  ·rw [aa3 (by omega),acX (by omega)];rfl
 termination_by d=>d
 decreasing_by omega
def X6:Option (List Fl)→V
 | some fs=> .tup [.d (.sd 4 false (fs.map eZ)),bv true]
 | none=> .tup [.d aB,bv false]
theorem Pr (h:dz s L F tab wd) (R:Rp (aa s 0) ps t) (a:Nat) (ha:a≤(aa s 0).length) (hb:a=0∨gf (aa s 0) (aH F) (a - 1)=true):ap Tryz.prog G0 52 [GK t (aa s 0).length (ct (aD L)) (aH F),iv a] [] 0 (.tup [.d (va (aa s 0) (aD L) (aH F) (a,aE (aa s 0) (aH F) a)),iv 0]) []:=by
 have hg:=h.gd;have hf:=h.hl;refine SV R (aa s 0).length (aD L) (by have:=hg.len;omega) (fun y hy=>⟨hg.at' y hy,hg.sz y hy⟩) (aH F) (by omega) h.okT a ha ?_;rcases abH a with h0|h0
 ·subst h0;exact rz R _ _ _ 0 (.inl (abN _))
 ·have:=G9 R (aa s 0).length (ct (aD L)) (aH F) (by omega) a h0 ha;rcases hb with hb|hb
  ·omega
  ·rwa [hb] at this
theorem LE (h:dz s L F tab wd) (R:Rp (aa s 0) ps t) (a:Nat) (ha:a≤(aa s 0).length) (hb:a=0∨gf (aa s 0) (aH F) (a - 1)=true):ap Tryz.prog G0 130 [WL s L F tab wd t,.d (va (aa s 0) (aD L) (aH F) (a,aE (aa s 0) (aH F) a))] [] 0 (.d (eZ (QE zT wT tab wd (aa s 0) (aD L) (aH F) (a,aE (aa s 0) (aH F) a)))) []:=by
 have ht:1≤tab∧tab≤16:=by have:=h.tab0;omega
 have hrs:=h.rs;have hg:=h.gd;have hr:=(hZ h.okT).1;obtain ⟨c1,c2⟩:=nL hg (by omega) hr ha hb;have he:=bM (aa s 0) (aH F) ha;have hc2:((aD L).length+1)*((aa s 0).length+1)≤61*301:=adt (by have:=hg.len;omega) (by omega);exact OW R hrs _ _ WQ WM ht h.wd0 (Lx hg hrs hr zT wT ht wd ha rfl hb) he c1 (by show (ci _ _ (aE _ _ a) a _).length≤1000000;omega)
set_option maxHeartbeats 3200000 in
theorem E7 (h:dz s L F tab wd) (R:Rp (aa s 0) ps t) (to:Int) (a0:Nat) (ha0:a0≤(aa s 0).length) (hb0:a0=0∨gf (aa s 0) (aH F) (a0 - 1)=true) :
 ap Tryz.prog G0 71 [WL s L F tab wd t,iv a0,iv to] [] 0 (X6 (D5 (aa s 0) (aH F) (QE zT wT tab wd (aa s 0) (aD L) (aH F)) to a0)) []:=by
 have hf:=h.hl;have hrs:=h.rs;have hbg:=fun a ha hb=>Pr h R a ha hb
 have hms:=fun a ha hb=>LE h R a ha hb
 have hno:=Ml R (aa s 0).length (ct (aD L)) (aH F) (by omega) h.okT ((aa s 0).length+1) (by have:=rz R (aa s 0).length (ct (aD L)) (aH F) ((aa s 0).length+1) (.inr (by omega));rwa [show (((aa s 0).length:Int)+1==0)=false by simp;omega] at this);simp only [WL,GK,va] at hbg hms hno ⊢;generalize bF t=rp at *
 generalize cW _ _=il at *
 generalize (aH F).map bA=hd at *
 have htb:=h.tab0;have hfd : ∀x:Fl,eZ x = .agg [iD x.1,iD x.2.1,iD x.2.2.1,iD x.2.2.2]:=fun _=>rfl
 generalize hM:QE zT wT tab wd (aa s 0) (aD L) (aH F)=M at *
 generalize hO:D5 (aa s 0) (aH F) M to a0=O at *
 refine vF ab [0,1,2,3,6,7,8,9,10,25,35] Tryz.func71 rfl Tryz.results71 Tryz.ntmps71 ?_;(refine' zg)
 refine vL (lv:=[0,1,2,3,6,7,8,9,10,25,35]) ab (lsF rp il (.sd 2 false hd) zT wT tab wd to) (fun x=>x.2.length≤x.1∧(x.1≤(aa s 0).length∧(x.1=0∨gf (aa s 0) (aH F) (x.1 - 1)=true)∧(D5 (aa s 0) (aH F) M to x.1).map (x.2 ++ ·)=O∨x.1=(aa s 0).length+1∧O=none)) (fun x=>(aa s 0).length+1 - x.1) ((a0,[])) (aC.nil 8 4<|(aC.go [1,2,3,8] (by exact vT) rfl)) ?_ ?_
 ·exact ⟨aa1 _,.inl ⟨ha0,hb0,by rw [hO];cases O<;>rfl⟩⟩
 rintro ⟨a,out⟩ ⟨hol,⟨ha,hb,he⟩|⟨ha,he⟩⟩
 ·simp only at ha hb he hol;have r1:=hbg a ha hb;have r2:=hms a ha hb;rw [hfd] at r2;have hen:=bM (aa s 0) (aH F) ha;rw [D5] at he;have hsh:=fun hlt=>eC (aa s 0) (aH F) ha hlt
  generalize aE (aa s 0) (aH F) a=b at *
  by_cases h1:to<b
  ·rw [aa3 h1] at he;subst he;(refine' xW r1 r2)
   all_goals rfl
  rw [aaY h1] at he;by_cases h2:(b:Int)=to
  ·rw [aa3 h2] at he;subst he;(refine' Tc r1 r2)
   rw [zH];refine ae.frz 94 (ae.out ?_);(refine' zg)
   all_goals (try rw [aaW (by simp)])
   all_goals rfl
  ·rw [aaY h2] at he;(refine' Tc r1 r2)
   rw [zH];refine aG.go ((b+1,out++[M (a,b)])) [1,2,3,8] (by exact vT) ?_ ?_
   ·show (aa s 0).length+1 - (b+1)<(aa s 0).length+1 - a;omega
   ·refine ⟨by simp only [Or,aa6,abt];omega,?_⟩;by_cases hlt:b<(aa s 0).length
    ·rw [acB ⟨hlt,hen.1⟩] at he;exact .inl ⟨hlt,.inr (hsh hlt),by rw [←he,Option.map_map];congr 1;funext q;simp⟩
    ·rw [acX (by omega)] at he;exact .inr ⟨by simp only;omega,he.symm⟩
 ·simp only at ha he hol;subst he ha;(refine' Nh hno)
  all_goals rfl
theorem Je (h:dz s L F tab wd) (R:Rp (aa s 0) ps t):ap Tryz.prog G0 71 [WL s L F tab wd t,iv 0,iv (aa s 0).length] [] 0 (.tup [.d (.sd 4 false ((bW s L F tab wd 0).map eZ)),bv true]) []:=by
 have:=E7 h R (aa s 0).length 0 (aa1 _) (.inl rfl);rwa [Bn _ _ _ _ 0 (aaV _) (aa1 _)] at this
end
theorem NS {n:Int} {L:List Iy} (hw:yc n L) (hS:n+aY L≤1000000000) (H:List Sn) (hl:H.length≤1000) (h:fS n 0 H=true) :
 ap Tryz.prog G0 69 [.d (bI (Aw n L)),.d (.sd 2 false (H.map bA))] [] 0 (.tup [.d (bI (DR n L H)),iv 0]) []:=by
 have hm:=bE h;have e:=(eI (ev n 0 L)).2;have hs:=lD L 0 hw.n0 fun x hx=>(hw.at' x hx).2
 have hn1:=hw.n1;have hin:=hP L;have r1:=Hm (Aw n L) H (by omega) (by rw [e];rw [show (aq (ev n 0 L)).d0=n by omega];exact h) (by rw [e];omega);have r2:=pB (Aw n L);rw [e,show (aq (ev n 0 L)).d0=n by omega,show (aq (ev n 0 L)).d1=n+aY L by omega] at r2;have r3:=IM hw H (by omega) fun x hx=>by have:=hm x hx;omega
 have hp : ∀x∈H.map (lp L),0≤x.1∧x.1≤x.2∧x.2≤1000000000:=fun y hy=>by
  obtain ⟨x,hx,rfl⟩:=abY.1 hy;have:=hm x hx;have a1:=nE L (n:=n) (a:=x.1) (b:=1) (by omega);have a2:=nE L (n:=n) (a:=x.2) (b:=0) (by omega);have a3:=zi L (a:=x.1) (c:=x.2) (by omega);show 0≤a8 L x.1 1∧a8 L x.1 1≤a8 L x.2 0∧a8 L x.2 0≤1000000000;omega
 have r4:=NU 0 (n+aY L) (H.map (lp L)) (by rw [aa4];omega) (by have:=hw.n0;omega) fun x hx=>by have:=hp x hx;omega
 have hcl:=m0 (n+aY L) (H.map (lp L)) 0;rw [aa4] at hcl;have r5:=xY (gv (n+aY L) 0 (H.map (lp L))) (by omega) (yn hS _ 0 (abN _) hp);have hw0:=hw.n0;simp only [DR,bI,aU,Aw] at *
 generalize hX:cM (eA (gv (n+aY L) 0 (H.map (lp L))) (gv (n+aY L) 0 (H.map (lp L))).length)=X at *
 generalize hW:cM (eA (ev n 0 L) (ev n 0 L).length)=W at *
 generalize n+aY L=q at *
 generalize (H.map (lp L)).map bA=P at *
 generalize List.map bA H=Q at *
 refine vF ab [0,1,4,5,7,8,9,13,29] Tryz.func69 rfl Tryz.results69 Tryz.ntmps69 ?_;(refine' zg5 r1 r2 r3 r4 r5)
 refine ae.frz 112 (ae.out ?_);(refine' zg)
abbrev Ay (rp il fd:D) (tab wd:Int):D:= .agg [rp,il,fd,iD tab,iD wd]
abbrev RN (n:Int) (x:D) (H:List Sn):D:= .pd 3 [.agg [iD n,x,.sd 2 false (H.map bA)]] 0 0
theorem Ol (n:Int) (x:D) (H:List Sn):ap Tryz.prog G0 75 [.d (RN n x H)] [] 0 (iv n) []:=by
 simp only [RN];generalize List.map bA H=Q;refine vF ab [0,2,4] Tryz.func75 rfl Tryz.results75 Tryz.ntmps75 ?_;(refine' zo)
def IJ (n a b tab wd:Int):Int:=if a≠n∨b≠n then 4 else if tab<1∨16<tab∨wd<0∨200<wd then 1 else 0
section
variable {l:List Int} {ps:List (List Int)} {t:Option T}
theorem tI (R:Rp l ps t) (a b:Int) (X x:D) (H:List Sn) (tab wd:Int):ap Tryz.prog G0 27 [.d (Ay (bF t) (cW a X) (RN b x H) tab wd)] [] 0 (iv (IJ l.length a b tab wd)) []:=by
 have r1:=dO R;have r2:=yT a X;have r3:=Ol b x H;have hlen:=R.len;generalize bF t=rp at *
 generalize cW a X=il at *
 generalize RN b x H=fd at *
 refine vF ab [0,1,2,3,7,20] Tryz.func27 rfl Tryz.results27 Tryz.ntmps27 ?_;(refine' Ni r1 r2 r3)
 all_goals (unfold IJ;first|rw [aa3 (by omega)]|rw [aaY (by omega),aa3 (by omega)]|rw [aaY (by omega),aaY (by omega)])
theorem Jl (t:Option T) (m:Int) (X:D) (n:Int) (x:D) (H:List Sn) (hl:H.length≤100000) (tab wd:Int):ap Tryz.prog G0 72 [.d (Ay (bF t) (cW m X) (RN n x H) tab wd)] [] 0 (.d (.agg [bF t,cW m X,.sd 2 false (H.map bA),wo zT wT,iD tab,iD wd])) []:=by
 have r1:=F2 n x H hl;have r2:=Jx;simp only [RN,Ay,bF,cW] at *
 generalize aU t=A at *
 generalize List.map bA H=Q at *
 simp only [wo] at *
 refine vF ab [0,1,2,3] Tryz.func72 rfl Tryz.results72 Tryz.ntmps72 ?_;(refine' xW r1 r2)
end
section
variable {s:ByteArray} {L:List Iy} {F:List Sn} {tab:Nat} {wd:Int} {ps:List (List Int)} {t:Option T}
theorem QF (h:dz s L F tab wd) : ∀x∈bW s L F tab wd 0,D4 x:=by
 have hrs:=h.rs;have hg:=h.gd;have hr:=(hZ h.okT).1;have hLs:=gm (aa s 0) (aH F) _ 0 (aaV _) (aa1 _) (.inl rfl);intro y hy;obtain ⟨x,hx,rfl⟩:=abY.1 hy;obtain ⟨ha,e,hb⟩:=hLs x hx;obtain ⟨c1,c2⟩:=nL hg (by omega) hr ha hb;have he:=bM (aa s 0) (aH F) ha;have hc2:((aD L).length+1)*((aa s 0).length+1)≤61*301:=adt (by have:=hg.len;omega) (by omega);have ht:1≤tab∧tab≤16:=by have:=h.tab0;omega
 have g:=Lx hg hrs hr zT wT ht wd ha e hb;rw [←e] at c1 c2 he;have hsz:=pw (B:=1000000) _ (ur fun z hz=>(c1 z hz).1);have hsz2:gq (ci (aa s 0) (aD L) x.2 x.1 (aH F))≤1000000*20000:=ab5 hsz (abX _ (by omega));have hw:=qP (B:=200000000) _ _ (List.reverse_reverse _).symm fun r hr'=>by
  obtain ⟨-,-,q1,q2⟩:=g.s r hr';have:=iB q2;omega
 have hp:=I9 (b7 zT wT tab 0 (aI (ci (aa s 0) (aD L) x.2 x.1 (aH F)))) wd;have hq:=g.q;unfold D4 QE;simp only;split<;>omega
abbrev CO (rp il fd:D) (tab wd:Int) (w c f:Option T):D:= .pd 8 [.agg [rp,il,fd,iD tab,iD wd,bI w,bI c,bI f]] 0 0
abbrev N7 (s:ByteArray) (L:List Iy) (F:List Sn) (tab wd:Int) (t:Option T):D:=Ay (bF t) (cW (aa s 0).length (ct (aD L))) (JH (aa s 0).length F) tab wd
theorem tJ (h:dz s L F tab wd) (R:Rp (aa s 0) ps t) (hw:yc (aa s 0).length (aD L)) (hS:(aa s 0).length+aY (aD L)≤1000000000) :
 ap Tryz.prog G0 25 [.d (N7 s L F tab wd t)] [] 0 (.tup [.d (CO (bF t) (cW (aa s 0).length (ct (aD L))) (JH (aa s 0).length F) tab wd (Aw (aa s 0).length (aD L)) (DR (aa s 0).length (aD L) (aH F)) (lR (bW s L F tab wd 0))),iv 0]) []:=by
 have hf:=h.hl;have ht:=h.tab0;have hwd:=h.wd0;have hrs:=h.rs;have hLl:(aQ (aa s 0) (aH F) 0).length≤301:=by have:=mm (aa s 0) (aH F) 0 (aa1 _);omega
 have r1:=tI R (aa s 0).length (aa s 0).length (ct (aD L)) (.sd 2 false ((eV F).map bA)) (aH F) tab wd;rw [show IJ (aa s 0).length (aa s 0).length (aa s 0).length tab wd=0 by unfold IJ;rw [aaY (by simp),aaY (by omega)]] at r1;have r2:=P1 (aa s 0).length (aD L) hw.len ⟨hw.n0,hw.n1⟩ (fun x hx=>⟨(hw.at' x hx).2,(hw.sz x hx).1⟩) fun x hx=>by have:=(hw.sz x hx).2;omega
 have r3:=F2 (aa s 0).length (.sd 2 false ((eV F).map bA)) (aH F) (by omega);have r4:=NS hw hS (aH F) (by omega) (fZ h.o0);have r5:=Jl t (aa s 0).length (ct (aD L)) (aa s 0).length (.sd 2 false ((eV F).map bA)) (aH F) (by omega) tab wd;have r6:=Je h R;have r7:=dO R;have r8:=Om (bW s L F tab wd 0) (by rw [bW,aa4];omega) (QF h);simp only [WL,vwD,N7,CO,JH,RN,Ay,bF,cW,bI] at *
 generalize aU t=A at *
 generalize aU (Aw _ _)=wA at *
 generalize aU (DR _ _ _)=cA at *
 generalize aU (lR _)=fA at *
 generalize ct (aD L)=X at *
 generalize (aa s 0).length=n at *
 generalize List.map bA _=Q at *
 generalize List.map bA _=Q2 at *
 generalize List.map eZ _=Q3 at *
 generalize wo zT wT=tb at *
 refine vF ab [0,1,2,3,4,5,6,7,8,10,14,28,45] Tryz.func25 rfl Tryz.results25 Tryz.ntmps25 ?_;(refine' zg8 r1 r2 r3 r4 r5 r6 r7 r8)
 refine ae.frz 208 (ae.out ?_);(refine' zg)
end
end Go.Proofs.YtkkanlcjjpoklaaGreatDoor
