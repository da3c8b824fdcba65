/- What the theorem leans on, part 17. -/
import Derived.Test.YtkkanlcjjpoklaaGreatDoorStVPAO
import Derived.Test.YtkkanlcjjpoklaaGreatDoorStVPAP
set_option linter.unusedSimpArgs false
set_option linter.unusedVariables false
set_option maxRecDepth 8000
namespace Go.Proofs.YtkkanlcjjpoklaaGreatDoor
def cW (n:Int) (x:D):D:= .pd 2 [.agg [iD n,x]] 0 0
abbrev GK (t:Option T) (n:Int) (x:D) (h:List Sn):V:= .d (.agg [bF t,cW n x,.sd 2 false (h.map bA)])
theorem yT (n:Int) (x:D):ap Tryz.prog G0 74 [.d (cW n x)] [] 0 (iv n) []:=by
 rw [cW];refine vF ab [0,2,4] Tryz.func74 rfl Tryz.results74 Tryz.ntmps74 ?_;(refine' zo)
theorem T6 {h:List Sn} {a:Int} (ha:bb h a=none) : ∀y∈h,f9 a y=false:=fun y hy=>by
 have:=ld ha y hy;cases hb:f9 a y with
 | false=>rfl
 | true=>exact (this (da.1 hb)).elim
abbrev Dx (t:Option T) (n:Int) (x:D) (H:List Sn):bN:= .cell [.d (bF t),.d (cW n x),.d (.sd 2 false (H.map bA))]
def scS (t:Option T) (n:Int) (x:D) (H:List Sn) (m:Int) (y:Nat × Int):St:=⟨[(1,.po 0 0),(3,iv m),(4,iv y.2),(11,zF H),(12,iv H.length),(13,iv y.1)],[(0,Dx t n x H)],1⟩
attribute [push_cast] scS.eq_def
def oV (m n:Int) (H:List Sn):Bool:=fS m 0 H&&decide (n=m)
section
variable {l:List Int} {ps:List (List Int)} {t:Option T}
set_option maxHeartbeats 1600000 in
theorem xC (R:Rp l ps t) (n:Int) (x:D) (H:List Sn) (hl:H.length≤1000000):ap Tryz.prog G0 104 [GK t n x H] [] 0 (iv (if oV l.length n H=true then 0 else 4)) []:=by
 have r1:=dO R;have r2:=yT n x;refine vF ab [0,1,2,3,4,6,11,12,13,14,33,41] Tryz.func104 rfl Tryz.results104 Tryz.ntmps104 ?_;(refine' fq r1)
 refine vL (lv:=[0,1,2,3,4,6,11,12,13,14,33,41]) ab (scS t n x H l.length) (fun y=>y.1≤H.length∧fS l.length y.2 (H.drop y.1)=fS l.length 0 H) (fun y=>H.length - y.1) ((0,0)) ((aC.go [1,3,4,11,12,13] (by exact vT) rfl)) ?_ ?_
 ·exact ⟨aa1 _,rfl⟩
 rintro ⟨i,last⟩ ⟨h1,h2⟩;simp only at h1 h2;(refine' fq r2)
 ·refine aF.intro fun y hy =>?_
  have hd:=dj hy;rw [hd] at h2;(refine' zg)
  ·have:oV l.length n H=false:=by
    rw [oV,←h2];cases hr:fS l.length last (y::H.drop (i+1)) with
    | false=>rfl
    | true=>have:=(bZ.1 hr).1;omega
   rw [aaY (by simp [this])];refine ae.now [] (by decide) ?_;(refine' zg);first|exact aj _|exact ar.cons rfl ar.nil|exact ar.cons rfl (ar.cons rfl ar.nil)|exact ar.nil
  ·refine aG.go ((i+1,y.2)) [1,3,4,11,12,13] (by exact vT) ?_ ?_
   ·show H.length - (i+1)<H.length - i;omega
   ·refine ⟨by simp only;omega,?_⟩;rw [←h2];simp only;rw [act,bZ];constructor
    ·intro h3;exact ⟨by omega,h3⟩
    ·intro h3;exact h3.2
 ·rw [abo (by omega)] at h2;have e:oV l.length n H=false:=by
   rw [oV,abM (by omega),Bool.and_false]
  rw [aaY (by simp [e])];refine ae.now [] (by decide) ?_;(refine' zg);first|exact aj _|exact ar.cons rfl ar.nil|exact ar.cons rfl (ar.cons rfl ar.nil)|exact ar.nil
 ·rw [abo (by omega)] at h2;have e:oV l.length n H=true:=by
   rw [oV,abw (by omega),Bool.and_true,←h2];rfl
  rw [aa3 e];refine ae.now [] (by decide) ?_;(refine' zg);first|exact aj _|exact ar.cons rfl ar.nil|exact ar.cons rfl (ar.cons rfl ar.nil)|exact ar.nil
def wnS (t:Option T) (n:Int) (x:D) (H:List Sn) (a:Nat):St:=⟨[(1,iv a),(2,.po 0 0)],[(0,Dx t n x H)],1⟩
attribute [push_cast] wnS.eq_def
theorem hZ {m n:Int} {H:List Sn} (h:oV m n H=true):fS m 0 H=true∧n=m:=by simpa [oV] using h
end
def X4 (H:List (Int × Int)) (f:Nat) (a:Int) (i:Nat):St:=⟨[(0,zF H),(1,.fn f [.po 0 0]),(7,iv H.length),(8,iv i)],[(0,.cell [iv a])],1⟩
attribute [push_cast] X4.eq_def
section
variable {G:Gl} {H:List (Int × Int)} {f:Nat} {a:Int} {p:Int × Int→Bool}
theorem rf (hl:H.length≤1000000) (he:cK Tryz.prog f=true) (hc : ∀x∈H,ap Tryz.prog G f [.d (bA x),.po 0 0] [(0,.cell [iv a])] 1 (bv (p x)) [(0,.cell [iv a])]) (i:Nat) (x:Int × Int) (hx:H[i]? = some x) (hp:p x=true) (hn : ∀(k:Nat) y,k<i→H[k]? = some y→p y=false) :
 ap Tryz.prog G 213 [zF H,.fn f [.po 0 0]] [(0,.cell [iv a])] 1 (iv i) [(0,.cell [iv a])]:=by
 have hi:=(aaX.1 hx).1;refine vF ab [0,1,4,5,7,8,9,16] Tryz.func213 rfl Tryz.results213 Tryz.ntmps213 ?_;(refine' zg)
 refine vL (lv:=[0,1,4,5,7,8,9,16]) ab (X4 H f a) (fun k=>k≤i) (fun k=>i - k) (0) ((aC.go [0,1,7,8] (by exact vT) rfl)) ?_ ?_
 ·exact aa1 _
 intro k hk;obtain ⟨y,hy⟩ : ∃y,H[k]? = some y:=⟨_,IO (by omega)⟩
 have hcy:=hc y (aa0 hy);rcases aa2 k i with hlt|hge
 ·rw [hn k y hlt hy] at hcy;(refine' zg)
  refine aF.is k y (by omega) hy ?_;(repeat' (first|(with_reducible refine S7 0 hcy ?_ (he:=he))|(refine' zq)|fail))
  refine aG.go (k+1) [0,1,7,8] (by exact vT) ?_ ?_
  ·show i - (k+1)<i - k;omega
  ·exact hlt
 ·obtain rfl:k=i:=by omega
  rw [hx] at hy;injection hy with hy;subst hy;rw [hp] at hcy;(refine' zg)
  refine aF.is k x (by omega) hx ?_;(repeat' (first|(with_reducible refine S7 0 hcy ?_ (he:=he))|(refine' zq)|fail))
  refine ae.now [] (by decide) ?_;(refine' zg);first|exact aj _|exact ar.cons rfl ar.nil|exact ar.cons rfl (ar.cons rfl ar.nil)|exact ar.nil
theorem uT (hl:H.length≤1000000) (he:cK Tryz.prog f=true) (hc : ∀x∈H,ap Tryz.prog G f [.d (bA x),.po 0 0] [(0,.cell [iv a])] 1 (bv (p x)) [(0,.cell [iv a])]) (hn : ∀x∈H,p x=false) :
 ap Tryz.prog G 213 [zF H,.fn f [.po 0 0]] [(0,.cell [iv a])] 1 (iv (-1)) [(0,.cell [iv a])]:=by
 refine vF ab [0,1,4,5,7,8,9,16] Tryz.func213 rfl Tryz.results213 Tryz.ntmps213 ?_;(refine' zg)
 refine vL (lv:=[0,1,4,5,7,8,9,16]) ab (X4 H f a) (fun k=>k≤H.length) (fun k=>H.length - k) (0) ((aC.go [0,1,7,8] (by exact vT) rfl)) ?_ ?_
 ·exact aa1 _
 intro k hk;(refine' zg)
 ·refine aF.intro fun y hy =>?_
  have hcy:=hc y (aa0 hy);rw [hn y (aa0 hy)] at hcy;(repeat' (first|(with_reducible refine S7 0 hcy ?_ (he:=he))|(refine' zq)|fail))
  refine aG.go (k+1) [0,1,7,8] (by exact vT) ?_ ?_
  ·show H.length - (k+1)<H.length - k;omega
  ·show k+1≤H.length;omega
 ·refine ae.now [] (by decide) ?_;(refine' zg);first|exact aj _|exact ar.cons rfl ar.nil|exact ar.cons rfl (ar.cons rfl ar.nil)|exact ar.nil
end
theorem ry (x:Sn) (a:Int):ap Tryz.prog G0 159 [.d (bA x),.d (rB a)] [] 0 (bv (f9 (a - 1) x)) []:=by
 have e:(decide (x.1<a)&&decide (a≤x.2))=f9 (a - 1) x:=by
  unfold f9;rw [act];simp only [aa8,abs];omega
 rw [←e];refine vF ab [0,1,2,3] Tryz.func159 rfl Tryz.results159 Tryz.ntmps159 ?_;(refine' zo)
theorem FW (x:Sn) (a:Int):ap Tryz.prog G0 215 [.d (bA x),.po 0 0] [(0,.cell [iv a])] 1 (bv (f9 (a - 1) x)) [(0,.cell [iv a])]:=by
 have e:(decide (x.1<a)&&decide (a≤x.2))=f9 (a - 1) x:=by
  unfold f9;rw [act];simp only [aa8,abs];omega
 rw [←e];refine vF ab [0,1,2,3] Tryz.func215 rfl Tryz.results215 Tryz.ntmps215 ?_;(refine' zg)
 all_goals (refine ae.now [] (by decide) ?_;(refine' zg);first|exact aj _|exact ar.cons rfl ar.nil|exact ar.cons rfl (ar.cons rfl ar.nil)|exact ar.nil)
section
variable {l:List Int} {ps:List (List Int)} {t:Option T}
theorem rz (R:Rp l ps t) (n:Int) (x:D) (H:List Sn) (a:Int) (ha:a≤0∨(l.length:Int)<a):ap Tryz.prog G0 105 [GK t n x H,iv a] [] 0 (bv (a==0)) []:=by
 have r1:=dO R;refine vF ab [0,1,2,3,4,5,15] Tryz.func105 rfl Tryz.results105 Tryz.ntmps105 ?_;(refine' lK r1)
set_option maxHeartbeats 1600000 in
theorem G9 (R:Rp l ps t) (n:Int) (x:D) (H:List Sn) (hl:H.length≤1000000) (a:Nat) (h0:0<a) (ha:a≤l.length):ap Tryz.prog G0 105 [GK t n x H,iv a] [] 0 (bv (gf l H (a - 1))) []:=by
 have r1:=dO R;obtain ⟨r,hr⟩ : ∃r,l[a - 1]? = some r:=⟨_,IO (by omega)⟩
 have r2:=SJ R (a - 1) r hr;have hlen:=R.len;have ec:((a - 1:Nat):Int)=(a:Int) - 1:=by omega
 rw [ec] at r2;by_cases h10:r=10
 ·subst h10;cases ho:bb H ((a:Int) - 1) with
  | none=>
   have r3:=qj (G:=G0) (H:=H) (f:=159) (caps:=[rB a]) (p:=f9 ((a:Int) - 1)) hl (by kernel_rfl) (fun y _=>ry y a) (T6 ho);rw [fp.2 ⟨hr,by rw [ec];exact ho⟩];refine vF ab [0,1,2,3,4,5,15] Tryz.func105 rfl Tryz.results105 Tryz.ntmps105 ?_;(refine' Ax r1 r2)
   refine au.frz 4 rfl ?_;(refine' lK r3)
  | some y=>
   obtain ⟨i,g1,g2,g3⟩:=nf ho;have r3:=oi (G:=G0) (H:=H) (f:=159) (caps:=[rB a]) (p:=f9 ((a:Int) - 1)) hl (by kernel_rfl) (fun y _=>ry y a) i y g1 g2 g3;have e0:gf l H (a - 1)=false:=by
    cases hb:gf l H (a - 1) with
    | false=>rfl
    | true=>have:=(fp.1 hb).2;rw [ec,ho] at this;cases this
   rw [e0];refine vF ab [0,1,2,3,4,5,15] Tryz.func105 rfl Tryz.results105 Tryz.ntmps105 ?_;(refine' Ax r1 r2)
   refine au.frz 4 rfl ?_;(refine' lK r3)
 ·rw [tH (by rw [hr];intro e;injection e with e;exact h10 e)];refine vF ab [0,1,2,3,4,5,15] Tryz.func105 rfl Tryz.results105 Tryz.ntmps105 ?_;(refine' uR r1 r2)
set_option maxHeartbeats 1600000 in
theorem Ry (R:Rp l ps t) (n:Int) (x:D) (H:List Sn) (hl:H.length≤1000000) (hr:fS l.length 0 H=true) (a:Nat) (ha:a≤l.length):ap Tryz.prog G0 160 [GK t n x H,iv a] [] 0 (iv (aE l H a)) []:=by
 have hlen:=R.len;have r0:=dO R;refine vF ab [0,1,2,4,5,7,8,9,26,35] Tryz.func160 rfl Tryz.results160 Tryz.ntmps160 ?_;(refine' zg)
 refine vL (lv:=[0,1,2,4,5,7,8,9,26,35]) ab (wnS t n x H) (fun i=>i≤l.length∧aE l H i=aE l H a) (fun i=>l.length - i) (a) ((aC.go [1,2] (by exact vT) rfl)) ?_ ?_
 ·exact ⟨ha,rfl⟩
 rintro i ⟨h1,h2⟩;have r2:=JM R i h1;have hk:=mU l i;have hkl:=gY l;by_cases hb:aW (l.take i)<aW l
 ·have r3:=GU R (aW (l.take i)+1) hb;obtain ⟨g1,g2⟩:=AO l i h1 hb;have g3:=(aaX.1 g2).1;rw [g1] at r3;have ec:(i:Int)+(qg (l.drop i):Int)+1 - 1=((i+qg (l.drop i):Nat):Int):=by omega
  have ec2:((i+qg (l.drop i)+1:Nat):Int)=(i:Int)+(qg (l.drop i):Int)+1:=by omega
  have ec1:((aW (l.take i)+1:Nat):Int)=(aW (l.take i):Int)+1:=by omega
  rw [ec1,ec2] at r3;cases ho:bb H ((i+qg (l.drop i):Nat):Int) with
  | none=>
   have r4:=uT (G:=G0) (H:=H) (f:=215) (a:=(i:Int)+(qg (l.drop i):Int)+1) (p:=f9 ((i:Int)+(qg (l.drop i):Int)+1 - 1)) hl (by kernel_rfl) (fun y _=>FW y _) (T6 (by rw [ec];exact ho));rw [←h2,HO h1 hb ho];(refine' Ax r2 r3)
   refine S7 69 r4 ?_;(repeat' (first|(simp -implicitDefEqProofs -dsimp only [ec])|(refine' zq)|fail))
   refine ae.now [] (by decide) ?_;(refine' zg);first|exact aj _|exact ar.cons rfl ar.nil|exact ar.cons rfl (ar.cons rfl ar.nil)|exact ar.nil
  | some y=>
   obtain ⟨j',q1,q2,q3⟩:=nf ho;have r4:=rf (G:=G0) (H:=H) (f:=215) (a:=(i:Int)+(qg (l.drop i):Int)+1) (p:=f9 ((i:Int)+(qg (l.drop i):Int)+1 - 1)) hl (by kernel_rfl) (fun y _=>FW y _) j' y q1 (by rw [ec];exact q2) (by rw [ec];exact q3);have hm:=bV ho;have hy:=bE hr y hm.1;obtain ⟨j,hj⟩ : ∃j:Nat,y.2=j:=⟨y.2.toNat,by omega⟩
   have ho':=HQ hr h1 ho hj;have hj':=(aaX.1 q1).1;(refine' Ax r2 r3)
   refine S7 69 r4 ?_;(refine' zg)
   refine aF.is j' y (by omega) q1 ?_;(refine' zg)
   rw [hj];refine aG.go (j) [1,2] (by exact vT) ?_ ?_
   ·show l.length - j<l.length - i;omega
   ·exact ⟨by omega,by rw [←ho',h2]⟩
 ·have r3:=Dz R ((aW (l.take i):Int)+1) (by omega);rw [←h2,HP h1 hb];(refine' Td r0 r2 r3)
end
abbrev Iy:=Int × Int × Int × Int × ByteArray
abbrev cT (x:Iy):D:= .agg [iD x.1,iD x.2.1,iD x.2.2.1,iD x.2.2.2.1,.lit (.string x.2.2.2.2)]
abbrev El (l:List Iy):bN:= .row 5 (l.map cT)
def ct (L:List Iy):D:=match L with
 | []=>aB
 | _=> .sd 5 false (L.map cT)
section
variable {G:Gl}
theorem Ea:ap Tryz.prog G 196 [.d aB] [] 0 (.d aB) []:=by
 refine vF ab [0,2,4] Tryz.func196 rfl Tryz.results196 Tryz.ntmps196 ?_;(refine' zo)
theorem H3 (l:List Iy) (hl:0<l.length) (hl2:l.length≤100000):ap Tryz.prog G 196 [.d (.sd 5 false (l.map cT))] [] 0 (.so 0 5 0 l.length) [(0,El l)]:=by
 rcases l with _|⟨x,r⟩
 ·simp at hl
 simp only [abh];have hr:r.length≤100000:=by simp at hl2;omega
 refine vF ab [0,2,4] Tryz.func196 rfl Tryz.results196 Tryz.ntmps196 ?_;(refine' zg)
 refine ae.now [20] (by decide) ?_;(refine' zg)
 exact aj _
theorem Bu (n:Int):ap Tryz.prog G 126 [.d (cW n aB)] [] 0 (.d aB) []:=by
 rw [cW];refine vF ab [0,2,4] Tryz.func126 rfl Tryz.results126 Tryz.ntmps126 ?_;(refine' lK Ea)
theorem Gb (n:Int) (l:List Iy) (hl:0<l.length) (hl2:l.length≤100000):ap Tryz.prog G 126 [.d (cW n (.sd 5 false (l.map cT)))] [] 0 (.so 0 5 0 l.length) [(0,El l)]:=by
 rw [cW];have r1:=H3 (G:=G) l hl hl2;refine vF ab [0,2,4] Tryz.func126 rfl Tryz.results126 Tryz.ntmps126 ?_;(refine' Tb r1)
 refine ae.now [28] (by decide) ?_;(refine' zg);first|exact aj _|exact ar.cons rfl ar.nil|exact ar.cons rfl (ar.cons rfl ar.nil)|exact ar.nil
def XZ (L:List Iy) (F:D) (i:Nat):St:=⟨[(0,.so 0 5 0 L.length),(1,.d F),(7,iv L.length),(8,iv i)],[(0,El L)],1⟩
attribute [push_cast] XZ.eq_def
variable {L:List Iy} {f:Nat} {caps:List D} {p:Iy→Bool}
theorem Ed (hl:L.length≤1000000) (he:cK Tryz.prog f=true) (hc : ∀x∈L,ap Tryz.prog G f (.d (cT x)::caps.map .d) [] 0 (bv (p x)) []) (i:Nat) (x:Iy) (hx:L[i]? = some x) (hp:p x=true) (hn : ∀(k:Nat) y,k<i→L[k]? = some y→p y=false) :
 ap Tryz.prog G 274 [.so 0 5 0 L.length,.d (.fn f caps)] [(0,El L)] 1 (iv i) [(0,El L)]:=by
 have hi:=(aaX.1 hx).1;refine vF ab [0,1,4,5,7,8,9,16] Tryz.func274 rfl Tryz.results274 Tryz.ntmps274 ?_;(refine' zg)
 refine vL (lv:=[0,1,4,5,7,8,9,16]) ab (XZ L (.fn f caps)) (fun k=>k≤i) (fun k=>i - k) (0) ((aC.go [0,1,7,8] (by exact vT) rfl)) ?_ ?_
 ·exact aa1 _
 intro k hk;obtain ⟨y,hy⟩ : ∃y,L[k]? = some y:=⟨_,IO (by omega)⟩
 have hcy:=hc y (aa0 hy);rcases aa2 k i with hlt|hge
 ·rw [hn k y hlt hy] at hcy;(refine' zg)
  refine aF.is k y (by omega) hy ?_;(repeat' (first|(with_reducible refine vC hcy ?_ he (kJ (cT y::caps)) rfl)|(refine' zq)|fail))
  refine aG.go (k+1) [0,1,7,8] (by exact vT) ?_ ?_
  ·show i - (k+1)<i - k;omega
  ·exact hlt
 ·obtain rfl:k=i:=by omega
  rw [hx] at hy;injection hy with hy;subst hy;rw [hp] at hcy;(refine' zg)
  refine aF.is k x (by omega) hx ?_;(repeat' (first|(with_reducible refine vC hcy ?_ he (kJ (cT x::caps)) rfl)|(refine' zq)|fail))
  refine ae.now [] (by decide) ?_;(refine' zg);first|exact aj _|exact ar.cons rfl ar.nil|exact ar.cons rfl (ar.cons rfl ar.nil)|exact ar.nil
theorem H4 (hl:L.length≤1000000) (he:cK Tryz.prog f=true) (hc : ∀x∈L,ap Tryz.prog G f (.d (cT x)::caps.map .d) [] 0 (bv (p x)) []) (hn : ∀x∈L,p x=false) :
 ap Tryz.prog G 274 [.so 0 5 0 L.length,.d (.fn f caps)] [(0,El L)] 1 (iv (-1)) [(0,El L)]:=by
 refine vF ab [0,1,4,5,7,8,9,16] Tryz.func274 rfl Tryz.results274 Tryz.ntmps274 ?_;(refine' zg)
 refine vL (lv:=[0,1,4,5,7,8,9,16]) ab (XZ L (.fn f caps)) (fun k=>k≤L.length) (fun k=>L.length - k) (0) ((aC.go [0,1,7,8] (by exact vT) rfl)) ?_ ?_
 ·exact aa1 _
 intro k hk;(refine' zg)
 ·refine aF.intro fun y hy =>?_
  have hcy:=hc y (aa0 hy);rw [hn y (aa0 hy)] at hcy;(repeat' (first|(with_reducible refine vC hcy ?_ he (kJ (cT y::caps)) rfl)|(refine' zq)|fail))
  refine aG.go (k+1) [0,1,7,8] (by exact vT) ?_ ?_
  ·show L.length - (k+1)<L.length - k;omega
  ·show k+1≤L.length;omega
 ·refine ae.now [] (by decide) ?_;(refine' zg);first|exact aj _|exact ar.cons rfl ar.nil|exact ar.cons rfl (ar.cons rfl ar.nil)|exact ar.nil
end
theorem Fu (x:Iy) (a b:Int):ap Tryz.prog G0 255 [.d (cT x),.d (rB a),.d (rB b)] [] 0 (bv (decide (x.2.1<a)||decide (b<x.2.1))) []:=by
 refine vF ab [0,1,2,3,4] Tryz.func255 rfl Tryz.results255 Tryz.ntmps255 ?_;(refine' zo)
def deS (N:Nat) (F:D) (x:Nat × Nat × List Iy):St:=⟨[(0,.so 0 5 0 N),(1,.d F),(5,iv x.1),(6,iv x.2.1)],[(0,El x.2.2)],1⟩
attribute [push_cast] deS.eq_def
section
variable {G:Gl} {L:List Iy} {f:Nat} {caps:List D} {p:Iy→Bool}
abbrev i3 (p:Iy→Bool) (l:List Iy):List Iy:=l.filter fun x=> !p x
theorem Bd {L:List Iy} {i:Nat} {x:Iy} (hx:L[i]? = some x) (hp:p x=true) (hn : ∀(k:Nat) y,k<i→L[k]? = some y→p y=false):i3 p (L.take (i+1))=L.take i:=by
 rw [i3,ao hx,acg];have e1:(L.take i).filter (fun x=> !p x)=L.take i:=by
  rw [adg];intro y hy;obtain ⟨k,hk⟩:=ab6 hy;rw [abW] at hk;split at hk
  ·rename_i hki;simp [hn k y hki hk]
  ·cases hk
 rw [e1];simp [hp]
set_option maxHeartbeats 1600000 in
theorem Eb (hl:L.length≤1000000) (he:cK Tryz.prog f=true) (hc : ∀x∈L,ap Tryz.prog G f (.d (cT x)::caps.map .d) [] 0 (bv (p x)) []) :
 ap Tryz.prog G 254 [.so 0 5 0 L.length,.d (.fn f caps)] [(0,El L)] 1 (.so 0 5 0 (i3 p L).length) [(0,El (i3 p L))]:=by
 cases hf:L.find? p with
 | none=>
  have hno : ∀x∈L,p x=false:=fun x hx=>by simpa using adO.1 hf x hx
  have r1:=H4 (G:=G) hl he hc hno;have e:i3 p L=L:=adg.2 fun x hx=>by simp [hno x hx]
  rw [e];refine vF ab [0,1,4,5,6,7,12,19,29] Tryz.func254 rfl Tryz.results254 Tryz.ntmps254 ?_;(refine' zg)
  refine S7 0 r1 ?_;(refine' zg)
  refine ae.now [] (by decide) ?_;(refine' zg);first|exact aj _|exact ar.cons rfl ar.nil|exact ar.cons rfl (ar.cons rfl ar.nil)|exact ar.nil
 | some x=>
  obtain ⟨i,hx,hp,hn⟩:=nf hf;have r1:=Ed (G:=G) hl he hc i x hx hp hn;have hi:=(aaX.1 hx).1;have hfh:=Bd hx hp hn;refine vF ab [0,1,4,5,6,7,12,19,29] Tryz.func254 rfl Tryz.results254 Tryz.ntmps254 ?_;(refine' zg)
  refine S7 0 r1 ?_;(refine' zg)
  refine vL (lv:=[0,1,4,5,6,7,12,19,29]) ab (deS L.length (.fn f caps)) (fun x=>x.2.2.length=L.length∧x.1<x.2.1∧x.2.1≤L.length∧x.1=(i3 p (L.take x.2.1)).length∧x.2.2.take x.1=i3 p (L.take x.2.1)∧x.2.2.drop x.2.1=L.drop x.2.1) (fun x=>L.length - x.2.1) ((i,i+1,L)) ((aC.go [0,1,5,6] (by exact vT) rfl)) ?_ ?_
  ·exact ⟨rfl,aco _,hi,by rw [hfh,aa7];omega,hfh.symm,rfl⟩
  rintro ⟨a,b,es⟩ ⟨h1,h2,h3,h4,h5,h6⟩;simp only at h1 h2 h3 h4 h5 h6;rcases aa2 b L.length with hb|hb
  ·obtain ⟨y,hy⟩ : ∃y,L[b]? = some y:=⟨_,IO hb⟩
   have hcy:=hc y (aa0 hy);have hye:es[b]? = some y:=by
    have g1:(es.drop b)[0]? = es[b]? :=by rw [abJ];rfl
    have g2:(L.drop b)[0]? = L[b]? :=by rw [abJ];rfl
    rw [←g1,h6,g2,hy]
   have hd:es.drop (b+1)=L.drop (b+1):=by rw [←acm,h6,acm]
   cases hpy:p y with
   | true=>
    rw [hpy] at hcy;have hk:i3 p (L.take (b+1))=i3 p (L.take b):=by rw [i3,ao hy,acg];simp [hpy]
    (refine' zg)
    refine aF.is b y (by omega) hye ?_;(repeat' (first|(with_reducible refine vC hcy ?_ he (kJ (cT y::caps)) rfl)|(refine' zq)|fail))
    refine aG.go ((a,b+1,es)) [0,1,5,6] (by exact vT) ?_ ?_
    ·show L.length - (b+1)<L.length - b;omega
    ·exact ⟨h1,by simp only;omega,hb,by simp only;rw [hk];exact h4,by simp only;rw [hk];exact h5,hd⟩
   | false=>
    rw [hpy] at hcy;have hk:i3 p (L.take (b+1))=i3 p (L.take b)++[y]:=by rw [i3,ao hy,acg];simp [hpy]
    (refine' zg)
    refine aF.is b y (by omega) hye ?_;(repeat' (first|(with_reducible refine vC hcy ?_ he (kJ (cT y::caps)) rfl)|(refine' zq)|fail))
    rw [show (es.map cT).set a (cT y)=(es.set a y).map cT from List.map_set.symm];refine aG.go ((a+1,b+1,es.set a y)) [0,1,5,6] (by exact vT) ?_ ?_
    ·show L.length - (b+1)<L.length - b;omega
    ·refine ⟨by simp only [List.length_set];exact h1,by simp only;omega,hb,by simp only;rw [hk,Or,←h4];rfl,?_,?_⟩
     ·simp only;rw [hk,←h5];have ha:(es.set a y)[a]? = some y:=by rw [adr (by omega)]
      rw [ao ha,List.take_set_of_le (aaV _)]
     ·simp only;rw [List.drop_set_of_lt (by omega),hd]
  ·have hbe:b=L.length:=by omega
   rw [hbe,aaW (aaV _)] at h4 h5;(refine' zg)
   rw [ad5,h4] at *
   rw [h5];refine ae.now [] (by decide) ?_;(refine' zg);first|exact aj _|exact ar.cons rfl ar.nil|exact ar.cons rfl (ar.cons rfl ar.nil)|exact ar.nil
def ibN (F:D):St:=⟨[(0,.d aB),(1,.d F),(7,iv 0),(8,iv 0)],[],0⟩
attribute [push_cast] ibN.eq_def
theorem Ec (F:D):ap Tryz.prog G 274 [.d aB,.d F] [] 0 (iv (-1)) []:=by
 refine vF ab [0,1,4,5,7,8,9,16] Tryz.func274 rfl Tryz.results274 Tryz.ntmps274 ?_;(refine' zg)
 refine vL (lv:=[0,1,4,5,7,8,9,16]) ab (fun _:Unit=>ibN F) (fun _=>True) (fun _=>0) (()) ((aC.go [0,1,7,8] (by exact vT) rfl)) ?_ ?_
 ·trivial
 rintro ⟨⟩ -
 (refine' zo)
theorem Bv (F:D):ap Tryz.prog G 254 [.d aB,.d F] [] 0 (.d aB) []:=by
 refine vF ab [0,1,4,5,6,7,12,19,29] Tryz.func254 rfl Tryz.results254 Tryz.ntmps254 ?_;(refine' lK (Ec F))
theorem Bw (n a b:Int):ap Tryz.prog G0 219 [.d (cW n aB),iv a,iv b] [] 0 (.d aB) []:=by
 have r1:=Bu (G:=G0) n;refine vF ab [0,1,2,4,5,6] Tryz.func219 rfl Tryz.results219 Tryz.ntmps219 ?_;(refine' fq r1)
 refine au.frz 0 rfl ?_;(refine' zg)
 refine au.frz 4 rfl ?_;(repeat' (first|with_reducible refine vC (Bv _) ?_|with_reducible refine ae.out ?_|(refine' zq)|fail))
theorem Ee (n a b:Int) (L:List Iy) (h0:0<L.length) (hl:L.length≤100000):ap Tryz.prog G0 219 [.d (cW n (.sd 5 false (L.map cT))),iv a,iv b] [] 0 (.d (.sd 5 false ((L.filter fun x=> !(decide (x.2.1<a)||decide (b<x.2.1))).map cT))) []:=by
 have r1:=Gb (G:=G0) n L h0 hl;have r2:=Eb (G:=G0) (L:=L) (f:=255) (caps:=[rB a,rB b]) (p:=fun x=>decide (x.2.1<a)||decide (b<x.2.1)) (by omega) (by kernel_rfl) (fun x _=>Fu x a b);refine vF ab [0,1,2,4,5,6] Tryz.func219 rfl Tryz.results219 Tryz.ntmps219 ?_;(refine' Tb r1)
 refine au.frz 0 rfl ?_;(refine' zg)
 refine au.frz 4 rfl ?_;(refine' zg)
 refine au.put 16 r2 (by kernel_rfl) rfl rfl rfl ?_;(refine' zg)
 refine ae.frz 16 (ae.out ?_);(refine' zg)
end
end Go.Proofs.YtkkanlcjjpoklaaGreatDoor
