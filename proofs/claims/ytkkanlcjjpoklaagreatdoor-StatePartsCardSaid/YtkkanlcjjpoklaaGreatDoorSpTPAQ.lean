/- What the theorem leans on, part 17. -/
import Derived.Test.YtkkanlcjjpoklaaGreatDoorSpTPAO
import Derived.Test.YtkkanlcjjpoklaaGreatDoorSpTPAP
set_option linter.unusedSimpArgs false
set_option linter.unusedVariables false
set_option maxRecDepth 8000
namespace Go.Proofs.YtkkanlcjjpoklaaGreatDoor
def bY (n:Int) (x:D):D:= .pd 2 [.agg [iD n,x]] 0 0
abbrev Cp (t:Option T) (n:Int) (x:D) (h:List Sn):V:= .d (.agg [a5 t,bY n x,.sd 2 false (h.map dk)])
theorem s5 (n:Int) (x:D):aq Tryz.prog G0 74 [.d (bY n x)] [] 0 (iv n) []:=by
 rw [bY];refine vF ab [0,2,4] Tryz.func74 rfl Tryz.results74 Tryz.ntmps74 ?_;(refine' zo)
theorem KW {h:List Sn} {a:Int} (ha:cN h a=none) : ∀y∈h,hP a y=false:=fun y hy=>by
 have:=rk ha y hy;cases hb:hP a y with
 | false=>rfl
 | true=>exact (this (hU.1 hb)).elim
abbrev xi (t:Option T) (n:Int) (x:D) (H:List Sn):bu:= .cell [.d (a5 t),.d (bY n x),.d (.sd 2 false (H.map dk))]
def PW (t:Option T) (n:Int) (x:D) (H:List Sn) (m:Int) (y:Nat × Int):St:=⟨[(1,.po 0 0),(3,iv m),(4,iv y.2),(11,Fm H),(12,iv H.length),(13,iv y.1)],[(0,xi t n x H)],1⟩
attribute [push_cast] PW.eq_def
def mZ (m n:Int) (H:List Sn):Bool:=iZ m 0 H&&decide (n=m)
section
variable {l:List Int} {ps:List (List Int)} {t:Option T}
set_option maxHeartbeats 1600000 in
theorem BW (R:Rp l ps t) (n:Int) (x:D) (H:List Sn) (hl:H.length≤1000000):aq Tryz.prog G0 104 [Cp t n x H] [] 0 (iv (if mZ l.length n H=true then 0 else 4)) []:=by
 have r1:=eh R;have r2:=s5 n x;refine vF ab [0,1,2,3,4,6,11,12,13,14,33,41] Tryz.func104 rfl Tryz.results104 Tryz.ntmps104 ?_;(refine' l9 r1)
 refine vL (lv:=[0,1,2,3,4,6,11,12,13,14,33,41]) ab (PW t n x H l.length) (fun y=>y.1≤H.length∧iZ l.length y.2 (H.drop y.1)=iZ l.length 0 H) (fun y=>H.length - y.1) ((0,0)) ((aN.go [1,3,4,11,12,13] (by exact vT) rfl)) ?_ ?_
 ·exact ⟨Nat.zero_le _,rfl⟩
 rintro ⟨i,last⟩ ⟨h1,h2⟩;simp only at h1 h2;(refine' l9 r2)
 ·refine dV.intro fun y hy =>?_
  have hd:=cm hy;rw [hd] at h2;(refine' zg)
  ·have:mZ l.length n H=false:=by
    rw [mZ,←h2];cases hr:iZ l.length last (y::H.drop (i+1)) with
    | false=>rfl
    | true=>have:=(dg.1 hr).1;omega
   rw [if_neg (by simp [this])];refine ah.now [] (by decide) ?_;(refine' zg);first|exact ay _|exact ar.cons rfl ar.nil|exact ar.cons rfl (ar.cons rfl ar.nil)|exact ar.nil
  ·refine bH.go ((i+1,y.2)) [1,3,4,11,12,13] (by exact vT) ?_ ?_
   ·show H.length - (i+1)<H.length - i;omega
   ·refine ⟨by simp only;omega,?_⟩;rw [←h2];simp only;rw [Bool.eq_iff_iff,dg];constructor
    ·intro h3;exact ⟨by omega,h3⟩
    ·intro h3;exact h3.2
 ·rw [List.drop_of_length_le (by omega)] at h2;have e:mZ l.length n H=false:=by
   rw [mZ,decide_eq_false (by omega),Bool.and_false]
  rw [if_neg (by simp [e])];refine ah.now [] (by decide) ?_;(refine' zg);first|exact ay _|exact ar.cons rfl ar.nil|exact ar.cons rfl (ar.cons rfl ar.nil)|exact ar.nil
 ·rw [List.drop_of_length_le (by omega)] at h2;have e:mZ l.length n H=true:=by
   rw [mZ,decide_eq_true (by omega),Bool.and_true,←h2];rfl
  rw [if_pos e];refine ah.now [] (by decide) ?_;(refine' zg);first|exact ay _|exact ar.cons rfl ar.nil|exact ar.cons rfl (ar.cons rfl ar.nil)|exact ar.nil
def QC (t:Option T) (n:Int) (x:D) (H:List Sn) (a:Nat):St:=⟨[(1,iv a),(2,.po 0 0)],[(0,xi t n x H)],1⟩
attribute [push_cast] QC.eq_def
theorem kx {m n:Int} {H:List Sn} (h:mZ m n H=true):iZ m 0 H=true∧n=m:=by simpa [mZ] using h
end
def No (H:List (Int × Int)) (f:Nat) (a:Int) (i:Nat):St:=⟨[(0,Fm H),(1,.fn f [.po 0 0]),(7,iv H.length),(8,iv i)],[(0,.cell [iv a])],1⟩
attribute [push_cast] No.eq_def
section
variable {G:Gl} {H:List (Int × Int)} {f:Nat} {a:Int} {p:Int × Int→Bool}
theorem nD (hl:H.length≤1000000) (he:bN Tryz.prog f=true) (hc : ∀x∈H,aq Tryz.prog G f [.d (dk x),.po 0 0] [(0,.cell [iv a])] 1 (bv (p x)) [(0,.cell [iv a])]) (i:Nat) (x:Int × Int) (hx:H[i]? = some x) (hp:p x=true) (hn : ∀(k:Nat) y,k<i→H[k]? = some y→p y=false) :
 aq Tryz.prog G 213 [Fm H,.fn f [.po 0 0]] [(0,.cell [iv a])] 1 (iv i) [(0,.cell [iv a])]:=by
 have hi:=(List.getElem?_eq_some_iff.1 hx).1;refine vF ab [0,1,4,5,7,8,9,16] Tryz.func213 rfl Tryz.results213 Tryz.ntmps213 ?_;(refine' zg)
 refine vL (lv:=[0,1,4,5,7,8,9,16]) ab (No H f a) (fun k=>k≤i) (fun k=>i - k) (0) ((aN.go [0,1,7,8] (by exact vT) rfl)) ?_ ?_
 ·exact Nat.zero_le _
 intro k hk;obtain ⟨y,hy⟩ : ∃y,H[k]? = some y:=⟨_,List.getElem?_eq_getElem (by omega)⟩
 have hcy:=hc y (List.mem_of_getElem? hy);rcases Nat.lt_or_ge k i with hlt|hge
 ·rw [hn k y hlt hy] at hcy;(refine' zg)
  refine dV.is k y (by omega) hy ?_;(repeat' (first|(with_reducible first|exact True.intro|refine vD ?_|refine vG ?_|refine vE ?_)|(with_reducible refine J7 0 hcy ?_ (he:=he))|refine vR ?_|refine v6 ?_|with_reducible refine vN ?_|((with_reducible first|refine vB (fun h =>?_) (fun h =>?_)|refine vM (fun h =>?_) (fun h =>?_))<;>(first|(exfalso;omega)|skip))))
  refine bH.go (k+1) [0,1,7,8] (by exact vT) ?_ ?_
  ·show i - (k+1)<i - k;omega
  ·exact hlt
 ·obtain rfl:k=i:=by omega
  rw [hx] at hy;injection hy with hy;subst hy;rw [hp] at hcy;(refine' zg)
  refine dV.is k x (by omega) hx ?_;(repeat' (first|(with_reducible first|exact True.intro|refine vD ?_|refine vG ?_|refine vE ?_)|(with_reducible refine J7 0 hcy ?_ (he:=he))|refine vR ?_|refine v6 ?_|with_reducible refine vN ?_|((with_reducible first|refine vB (fun h =>?_) (fun h =>?_)|refine vM (fun h =>?_) (fun h =>?_))<;>(first|(exfalso;omega)|skip))))
  refine ah.now [] (by decide) ?_;(refine' zg);first|exact ay _|exact ar.cons rfl ar.nil|exact ar.cons rfl (ar.cons rfl ar.nil)|exact ar.nil
theorem qh (hl:H.length≤1000000) (he:bN Tryz.prog f=true) (hc : ∀x∈H,aq Tryz.prog G f [.d (dk x),.po 0 0] [(0,.cell [iv a])] 1 (bv (p x)) [(0,.cell [iv a])]) (hn : ∀x∈H,p x=false) :
 aq Tryz.prog G 213 [Fm H,.fn f [.po 0 0]] [(0,.cell [iv a])] 1 (iv (-1)) [(0,.cell [iv a])]:=by
 refine vF ab [0,1,4,5,7,8,9,16] Tryz.func213 rfl Tryz.results213 Tryz.ntmps213 ?_;(refine' zg)
 refine vL (lv:=[0,1,4,5,7,8,9,16]) ab (No H f a) (fun k=>k≤H.length) (fun k=>H.length - k) (0) ((aN.go [0,1,7,8] (by exact vT) rfl)) ?_ ?_
 ·exact Nat.zero_le _
 intro k hk;(refine' zg)
 ·refine dV.intro fun y hy =>?_
  have hcy:=hc y (List.mem_of_getElem? hy);rw [hn y (List.mem_of_getElem? hy)] at hcy;(repeat' (first|(with_reducible first|exact True.intro|refine vD ?_|refine vG ?_|refine vE ?_)|(with_reducible refine J7 0 hcy ?_ (he:=he))|refine vR ?_|refine v6 ?_|with_reducible refine vN ?_|((with_reducible first|refine vB (fun h =>?_) (fun h =>?_)|refine vM (fun h =>?_) (fun h =>?_))<;>(first|(exfalso;omega)|skip))))
  refine bH.go (k+1) [0,1,7,8] (by exact vT) ?_ ?_
  ·show H.length - (k+1)<H.length - k;omega
  ·show k+1≤H.length;omega
 ·refine ah.now [] (by decide) ?_;(refine' zg);first|exact ay _|exact ar.cons rfl ar.nil|exact ar.cons rfl (ar.cons rfl ar.nil)|exact ar.nil
end
theorem nK (x:Sn) (a:Int):aq Tryz.prog G0 159 [.d (dk x),.d (nM a)] [] 0 (bv (hP (a - 1) x)) []:=by
 have e:(decide (x.1<a)&&decide (a≤x.2))=hP (a - 1) x:=by
  unfold hP;rw [Bool.eq_iff_iff];simp only [Bool.and_eq_true,decide_eq_true_eq];omega
 rw [←e];refine vF ab [0,1,2,3] Tryz.func159 rfl Tryz.results159 Tryz.ntmps159 ?_;(refine' zo)
theorem zj (x:Sn) (a:Int):aq Tryz.prog G0 215 [.d (dk x),.po 0 0] [(0,.cell [iv a])] 1 (bv (hP (a - 1) x)) [(0,.cell [iv a])]:=by
 have e:(decide (x.1<a)&&decide (a≤x.2))=hP (a - 1) x:=by
  unfold hP;rw [Bool.eq_iff_iff];simp only [Bool.and_eq_true,decide_eq_true_eq];omega
 rw [←e];refine vF ab [0,1,2,3] Tryz.func215 rfl Tryz.results215 Tryz.ntmps215 ?_;(refine' zg)
 all_goals (refine ah.now [] (by decide) ?_;(refine' zg);first|exact ay _|exact ar.cons rfl ar.nil|exact ar.cons rfl (ar.cons rfl ar.nil)|exact ar.nil)
section
variable {l:List Int} {ps:List (List Int)} {t:Option T}
theorem xt (R:Rp l ps t) (n:Int) (x:D) (H:List Sn) (a:Int) (ha:a≤0∨(l.length:Int)<a):aq Tryz.prog G0 105 [Cp t n x H,iv a] [] 0 (bv (a==0)) []:=by
 have r1:=eh R;refine vF ab [0,1,2,3,4,5,15] Tryz.func105 rfl Tryz.results105 Tryz.ntmps105 ?_;(refine' qe r1)
set_option maxHeartbeats 1600000 in
theorem Av (R:Rp l ps t) (n:Int) (x:D) (H:List Sn) (hl:H.length≤1000000) (a:Nat) (h0:0<a) (ha:a≤l.length):aq Tryz.prog G0 105 [Cp t n x H,iv a] [] 0 (bv (fS l H (a - 1))) []:=by
 have r1:=eh R;obtain ⟨r,hr⟩ : ∃r,l[a - 1]? = some r:=⟨_,List.getElem?_eq_getElem (by omega)⟩
 have r2:=JO R (a - 1) r hr;have hlen:=R.len;have ec:((a - 1:Nat):Int)=(a:Int) - 1:=by omega
 rw [ec] at r2;by_cases h10:r=10
 ·subst h10;cases ho:cN H ((a:Int) - 1) with
  | none=>
   have r3:=mO (G:=G0) (H:=H) (f:=159) (caps:=[nM a]) (p:=hP ((a:Int) - 1)) hl (by kernel_rfl) (fun y _=>nK y a) (KW ho);rw [i2.2 ⟨hr,by rw [ec];exact ho⟩];refine vF ab [0,1,2,3,4,5,15] Tryz.func105 rfl Tryz.results105 Tryz.ntmps105 ?_;(refine' Fo r1 r2)
   refine aB.frz 4 rfl ?_;(refine' qe r3)
  | some y=>
   obtain ⟨i,g1,g2,g3⟩:=j9 ho;have r3:=kZ (G:=G0) (H:=H) (f:=159) (caps:=[nM a]) (p:=hP ((a:Int) - 1)) hl (by kernel_rfl) (fun y _=>nK y a) i y g1 g2 g3;have e0:fS l H (a - 1)=false:=by
    cases hb:fS l H (a - 1) with
    | false=>rfl
    | true=>have:=(i2.1 hb).2;rw [ec,ho] at this;cases this
   rw [e0];refine vF ab [0,1,2,3,4,5,15] Tryz.func105 rfl Tryz.results105 Tryz.ntmps105 ?_;(refine' Fo r1 r2)
   refine aB.frz 4 rfl ?_;(refine' qe r3)
 ·rw [yJ (by rw [hr];intro e;injection e with e;exact h10 e)];refine vF ab [0,1,2,3,4,5,15] Tryz.func105 rfl Tryz.results105 Tryz.ntmps105 ?_;(refine' Ag r1 r2)
set_option maxHeartbeats 1600000 in
theorem IV (R:Rp l ps t) (n:Int) (x:D) (H:List Sn) (hl:H.length≤1000000) (hr:iZ l.length 0 H=true) (a:Nat) (ha:a≤l.length):aq Tryz.prog G0 160 [Cp t n x H,iv a] [] 0 (iv (aQ l H a)) []:=by
 have hlen:=R.len;have r0:=eh R;refine vF ab [0,1,2,4,5,7,8,9,26,35] Tryz.func160 rfl Tryz.results160 Tryz.ntmps160 ?_;(refine' zg)
 refine vL (lv:=[0,1,2,4,5,7,8,9,26,35]) ab (QC t n x H) (fun i=>i≤l.length∧aQ l H i=aQ l H a) (fun i=>l.length - i) (a) ((aN.go [1,2] (by exact vT) rfl)) ?_ ?_
 ·exact ⟨ha,rfl⟩
 rintro i ⟨h1,h2⟩;have r2:=Cr R i h1;have hk:=jV l i;have hkl:=eV l;by_cases hb:aO (l.take i)<aO l
 ·have r3:=Ai R (aO (l.take i)+1) hb;obtain ⟨g1,g2⟩:=uk l i h1 hb;have g3:=(List.getElem?_eq_some_iff.1 g2).1;rw [g1] at r3;have ec:(i:Int)+(mM (l.drop i):Int)+1 - 1=((i+mM (l.drop i):Nat):Int):=by omega
  have ec2:((i+mM (l.drop i)+1:Nat):Int)=(i:Int)+(mM (l.drop i):Int)+1:=by omega
  have ec1:((aO (l.take i)+1:Nat):Int)=(aO (l.take i):Int)+1:=by omega
  rw [ec1,ec2] at r3;cases ho:cN H ((i+mM (l.drop i):Nat):Int) with
  | none=>
   have r4:=qh (G:=G0) (H:=H) (f:=215) (a:=(i:Int)+(mM (l.drop i):Int)+1) (p:=hP ((i:Int)+(mM (l.drop i):Int)+1 - 1)) hl (by kernel_rfl) (fun y _=>zj y _) (KW (by rw [ec];exact ho));rw [←h2,A0 h1 hb ho];(refine' Fo r2 r3)
   refine J7 69 r4 ?_;(repeat' (first|(with_reducible first|exact True.intro|refine vD ?_|refine vG ?_|refine vE ?_)|(simp -implicitDefEqProofs -dsimp only [ec])|refine vR ?_|refine v6 ?_|with_reducible refine vN ?_|((with_reducible first|refine vB (fun h =>?_) (fun h =>?_)|refine vM (fun h =>?_) (fun h =>?_))<;>(first|(exfalso;omega)|skip))))
   refine ah.now [] (by decide) ?_;(refine' zg);first|exact ay _|exact ar.cons rfl ar.nil|exact ar.cons rfl (ar.cons rfl ar.nil)|exact ar.nil
  | some y=>
   obtain ⟨j',q1,q2,q3⟩:=j9 ho;have r4:=nD (G:=G0) (H:=H) (f:=215) (a:=(i:Int)+(mM (l.drop i):Int)+1) (p:=hP ((i:Int)+(mM (l.drop i):Int)+1 - 1)) hl (by kernel_rfl) (fun y _=>zj y _) j' y q1 (by rw [ec];exact q2) (by rw [ec];exact q3);have hm:=dx ho;have hy:=ct hr y hm.1;obtain ⟨j,hj⟩ : ∃j:Nat,y.2=j:=⟨y.2.toNat,by omega⟩
   have ho':=A2 hr h1 ho hj;have hj':=(List.getElem?_eq_some_iff.1 q1).1;(refine' Fo r2 r3)
   refine J7 69 r4 ?_;(refine' zg)
   refine dV.is j' y (by omega) q1 ?_;(refine' zg)
   rw [hj];refine bH.go (j) [1,2] (by exact vT) ?_ ?_
   ·show l.length - j<l.length - i;omega
   ·exact ⟨by omega,by rw [←ho',h2]⟩
 ·have r3:=xl R ((aO (l.take i):Int)+1) (by omega);rw [←h2,A1 h1 hb];(refine' M5 r0 r2 r3)
end
abbrev Iy:=Int × Int × Int × Int × ByteArray
abbrev ki (x:Iy):D:= .agg [iD x.1,iD x.2.1,iD x.2.2.1,iD x.2.2.2.1,.lit (.string x.2.2.2.2)]
abbrev Fh (l:List Iy):bu:= .row 5 (l.map ki)
def ca (L:List Iy):D:=match L with
 | []=>ap
 | _=> .sd 5 false (L.map ki)
section
variable {G:Gl}
theorem xO:aq Tryz.prog G 196 [.d ap] [] 0 (.d ap) []:=by
 refine vF ab [0,2,4] Tryz.func196 rfl Tryz.results196 Tryz.ntmps196 ?_;(refine' zo)
theorem Bd (l:List Iy) (hl:0<l.length) (hl2:l.length≤100000):aq Tryz.prog G 196 [.d (.sd 5 false (l.map ki))] [] 0 (.so 0 5 0 l.length) [(0,Fh l)]:=by
 rcases l with _|⟨x,r⟩
 ·simp at hl
 simp only [List.map_cons];have hr:r.length≤100000:=by simp at hl2;omega
 refine vF ab [0,2,4] Tryz.func196 rfl Tryz.results196 Tryz.ntmps196 ?_;(refine' zg)
 refine ah.now [20] (by decide) ?_;(refine' zg)
 exact ay _
theorem uT (n:Int):aq Tryz.prog G 126 [.d (bY n ap)] [] 0 (.d ap) []:=by
 rw [bY];refine vF ab [0,2,4] Tryz.func126 rfl Tryz.results126 Tryz.ntmps126 ?_;(refine' qe xO)
theorem zy (n:Int) (l:List Iy) (hl:0<l.length) (hl2:l.length≤100000):aq Tryz.prog G 126 [.d (bY n (.sd 5 false (l.map ki)))] [] 0 (.so 0 5 0 l.length) [(0,Fh l)]:=by
 rw [bY];have r1:=Bd (G:=G) l hl hl2;refine vF ab [0,2,4] Tryz.func126 rfl Tryz.results126 Tryz.ntmps126 ?_;(refine' Ku r1)
 refine ah.now [28] (by decide) ?_;(refine' zg);first|exact ay _|exact ar.cons rfl ar.nil|exact ar.cons rfl (ar.cons rfl ar.nil)|exact ar.nil
def Nj (L:List Iy) (F:D) (i:Nat):St:=⟨[(0,.so 0 5 0 L.length),(1,.d F),(7,iv L.length),(8,iv i)],[(0,Fh L)],1⟩
attribute [push_cast] Nj.eq_def
variable {L:List Iy} {f:Nat} {caps:List D} {p:Iy→Bool}
theorem xR (hl:L.length≤1000000) (he:bN Tryz.prog f=true) (hc : ∀x∈L,aq Tryz.prog G f (.d (ki x)::caps.map .d) [] 0 (bv (p x)) []) (i:Nat) (x:Iy) (hx:L[i]? = some x) (hp:p x=true) (hn : ∀(k:Nat) y,k<i→L[k]? = some y→p y=false) :
 aq Tryz.prog G 274 [.so 0 5 0 L.length,.d (.fn f caps)] [(0,Fh L)] 1 (iv i) [(0,Fh L)]:=by
 have hi:=(List.getElem?_eq_some_iff.1 hx).1;refine vF ab [0,1,4,5,7,8,9,16] Tryz.func274 rfl Tryz.results274 Tryz.ntmps274 ?_;(refine' zg)
 refine vL (lv:=[0,1,4,5,7,8,9,16]) ab (Nj L (.fn f caps)) (fun k=>k≤i) (fun k=>i - k) (0) ((aN.go [0,1,7,8] (by exact vT) rfl)) ?_ ?_
 ·exact Nat.zero_le _
 intro k hk;obtain ⟨y,hy⟩ : ∃y,L[k]? = some y:=⟨_,List.getElem?_eq_getElem (by omega)⟩
 have hcy:=hc y (List.mem_of_getElem? hy);rcases Nat.lt_or_ge k i with hlt|hge
 ·rw [hn k y hlt hy] at hcy;(refine' zg)
  refine dV.is k y (by omega) hy ?_;(repeat' (first|(with_reducible first|exact True.intro|refine vD ?_|refine vG ?_|refine vE ?_)|(with_reducible refine vC hcy ?_ he (iG (ki y::caps)) rfl)|refine vR ?_|refine v6 ?_|with_reducible refine vN ?_|((with_reducible first|refine vB (fun h =>?_) (fun h =>?_)|refine vM (fun h =>?_) (fun h =>?_))<;>(first|(exfalso;omega)|skip))))
  refine bH.go (k+1) [0,1,7,8] (by exact vT) ?_ ?_
  ·show i - (k+1)<i - k;omega
  ·exact hlt
 ·obtain rfl:k=i:=by omega
  rw [hx] at hy;injection hy with hy;subst hy;rw [hp] at hcy;(refine' zg)
  refine dV.is k x (by omega) hx ?_;(repeat' (first|(with_reducible first|exact True.intro|refine vD ?_|refine vG ?_|refine vE ?_)|(with_reducible refine vC hcy ?_ he (iG (ki x::caps)) rfl)|refine vR ?_|refine v6 ?_|with_reducible refine vN ?_|((with_reducible first|refine vB (fun h =>?_) (fun h =>?_)|refine vM (fun h =>?_) (fun h =>?_))<;>(first|(exfalso;omega)|skip))))
  refine ah.now [] (by decide) ?_;(refine' zg);first|exact ay _|exact ar.cons rfl ar.nil|exact ar.cons rfl (ar.cons rfl ar.nil)|exact ar.nil
theorem Be (hl:L.length≤1000000) (he:bN Tryz.prog f=true) (hc : ∀x∈L,aq Tryz.prog G f (.d (ki x)::caps.map .d) [] 0 (bv (p x)) []) (hn : ∀x∈L,p x=false) :
 aq Tryz.prog G 274 [.so 0 5 0 L.length,.d (.fn f caps)] [(0,Fh L)] 1 (iv (-1)) [(0,Fh L)]:=by
 refine vF ab [0,1,4,5,7,8,9,16] Tryz.func274 rfl Tryz.results274 Tryz.ntmps274 ?_;(refine' zg)
 refine vL (lv:=[0,1,4,5,7,8,9,16]) ab (Nj L (.fn f caps)) (fun k=>k≤L.length) (fun k=>L.length - k) (0) ((aN.go [0,1,7,8] (by exact vT) rfl)) ?_ ?_
 ·exact Nat.zero_le _
 intro k hk;(refine' zg)
 ·refine dV.intro fun y hy =>?_
  have hcy:=hc y (List.mem_of_getElem? hy);rw [hn y (List.mem_of_getElem? hy)] at hcy;(repeat' (first|(with_reducible first|exact True.intro|refine vD ?_|refine vG ?_|refine vE ?_)|(with_reducible refine vC hcy ?_ he (iG (ki y::caps)) rfl)|refine vR ?_|refine v6 ?_|with_reducible refine vN ?_|((with_reducible first|refine vB (fun h =>?_) (fun h =>?_)|refine vM (fun h =>?_) (fun h =>?_))<;>(first|(exfalso;omega)|skip))))
  refine bH.go (k+1) [0,1,7,8] (by exact vT) ?_ ?_
  ·show L.length - (k+1)<L.length - k;omega
  ·show k+1≤L.length;omega
 ·refine ah.now [] (by decide) ?_;(refine' zg);first|exact ay _|exact ar.cons rfl ar.nil|exact ar.cons rfl (ar.cons rfl ar.nil)|exact ar.nil
end
theorem yV (x:Iy) (a b:Int):aq Tryz.prog G0 255 [.d (ki x),.d (nM a),.d (nM b)] [] 0 (bv (decide (x.2.1<a)||decide (b<x.2.1))) []:=by
 refine vF ab [0,1,2,3,4] Tryz.func255 rfl Tryz.results255 Tryz.ntmps255 ?_;(refine' zo)
def PB (N:Nat) (F:D) (x:Nat × Nat × List Iy):St:=⟨[(0,.so 0 5 0 N),(1,.d F),(5,iv x.1),(6,iv x.2.1)],[(0,Fh x.2.2)],1⟩
attribute [push_cast] PB.eq_def
section
variable {G:Gl} {L:List Iy} {f:Nat} {caps:List D} {p:Iy→Bool}
abbrev fH (p:Iy→Bool) (l:List Iy):List Iy:=l.filter fun x=> !p x
theorem uF {L:List Iy} {i:Nat} {x:Iy} (hx:L[i]? = some x) (hp:p x=true) (hn : ∀(k:Nat) y,k<i→L[k]? = some y→p y=false):fH p (L.take (i+1))=L.take i:=by
 rw [fH,aJ hx,List.filter_append];have e1:(L.take i).filter (fun x=> !p x)=L.take i:=by
  rw [List.filter_eq_self];intro y hy;obtain ⟨k,hk⟩:=List.getElem?_of_mem hy;rw [List.getElem?_take] at hk;split at hk
  ·rename_i hki;simp [hn k y hki hk]
  ·cases hk
 rw [e1];simp [hp]
set_option maxHeartbeats 1600000 in
theorem xP (hl:L.length≤1000000) (he:bN Tryz.prog f=true) (hc : ∀x∈L,aq Tryz.prog G f (.d (ki x)::caps.map .d) [] 0 (bv (p x)) []) :
 aq Tryz.prog G 254 [.so 0 5 0 L.length,.d (.fn f caps)] [(0,Fh L)] 1 (.so 0 5 0 (fH p L).length) [(0,Fh (fH p L))]:=by
 cases hf:L.find? p with
 | none=>
  have hno : ∀x∈L,p x=false:=fun x hx=>by simpa using List.find?_eq_none.1 hf x hx
  have r1:=Be (G:=G) hl he hc hno;have e:fH p L=L:=List.filter_eq_self.2 fun x hx=>by simp [hno x hx]
  rw [e];refine vF ab [0,1,4,5,6,7,12,19,29] Tryz.func254 rfl Tryz.results254 Tryz.ntmps254 ?_;(refine' zg)
  refine J7 0 r1 ?_;(refine' zg)
  refine ah.now [] (by decide) ?_;(refine' zg);first|exact ay _|exact ar.cons rfl ar.nil|exact ar.cons rfl (ar.cons rfl ar.nil)|exact ar.nil
 | some x=>
  obtain ⟨i,hx,hp,hn⟩:=j9 hf;have r1:=xR (G:=G) hl he hc i x hx hp hn;have hi:=(List.getElem?_eq_some_iff.1 hx).1;have hfh:=uF hx hp hn;refine vF ab [0,1,4,5,6,7,12,19,29] Tryz.func254 rfl Tryz.results254 Tryz.ntmps254 ?_;(refine' zg)
  refine J7 0 r1 ?_;(refine' zg)
  refine vL (lv:=[0,1,4,5,6,7,12,19,29]) ab (PB L.length (.fn f caps)) (fun x=>x.2.2.length=L.length∧x.1<x.2.1∧x.2.1≤L.length∧x.1=(fH p (L.take x.2.1)).length∧x.2.2.take x.1=fH p (L.take x.2.1)∧x.2.2.drop x.2.1=L.drop x.2.1) (fun x=>L.length - x.2.1) ((i,i+1,L)) ((aN.go [0,1,5,6] (by exact vT) rfl)) ?_ ?_
  ·exact ⟨rfl,Nat.lt_succ_self _,hi,by rw [hfh,List.length_take];omega,hfh.symm,rfl⟩
  rintro ⟨a,b,es⟩ ⟨h1,h2,h3,h4,h5,h6⟩;simp only at h1 h2 h3 h4 h5 h6;rcases Nat.lt_or_ge b L.length with hb|hb
  ·obtain ⟨y,hy⟩ : ∃y,L[b]? = some y:=⟨_,List.getElem?_eq_getElem hb⟩
   have hcy:=hc y (List.mem_of_getElem? hy);have hye:es[b]? = some y:=by
    have g1:(es.drop b)[0]? = es[b]? :=by rw [List.getElem?_drop];rfl
    have g2:(L.drop b)[0]? = L[b]? :=by rw [List.getElem?_drop];rfl
    rw [←g1,h6,g2,hy]
   have hd:es.drop (b+1)=L.drop (b+1):=by rw [←List.drop_drop,h6,List.drop_drop]
   cases hpy:p y with
   | true=>
    rw [hpy] at hcy;have hk:fH p (L.take (b+1))=fH p (L.take b):=by rw [fH,aJ hy,List.filter_append];simp [hpy]
    (refine' zg)
    refine dV.is b y (by omega) hye ?_;(repeat' (first|(with_reducible first|exact True.intro|refine vD ?_|refine vG ?_|refine vE ?_)|(with_reducible refine vC hcy ?_ he (iG (ki y::caps)) rfl)|refine vR ?_|refine v6 ?_|with_reducible refine vN ?_|((with_reducible first|refine vB (fun h =>?_) (fun h =>?_)|refine vM (fun h =>?_) (fun h =>?_))<;>(first|(exfalso;omega)|skip))))
    refine bH.go ((a,b+1,es)) [0,1,5,6] (by exact vT) ?_ ?_
    ·show L.length - (b+1)<L.length - b;omega
    ·exact ⟨h1,by simp only;omega,hb,by simp only;rw [hk];exact h4,by simp only;rw [hk];exact h5,hd⟩
   | false=>
    rw [hpy] at hcy;have hk:fH p (L.take (b+1))=fH p (L.take b)++[y]:=by rw [fH,aJ hy,List.filter_append];simp [hpy]
    (refine' zg)
    refine dV.is b y (by omega) hye ?_;(repeat' (first|(with_reducible first|exact True.intro|refine vD ?_|refine vG ?_|refine vE ?_)|(with_reducible refine vC hcy ?_ he (iG (ki y::caps)) rfl)|refine vR ?_|refine v6 ?_|with_reducible refine vN ?_|((with_reducible first|refine vB (fun h =>?_) (fun h =>?_)|refine vM (fun h =>?_) (fun h =>?_))<;>(first|(exfalso;omega)|skip))))
    rw [show (es.map ki).set a (ki y)=(es.set a y).map ki from List.map_set.symm];refine bH.go ((a+1,b+1,es.set a y)) [0,1,5,6] (by exact vT) ?_ ?_
    ·show L.length - (b+1)<L.length - b;omega
    ·refine ⟨by simp only [List.length_set];exact h1,by simp only;omega,hb,by simp only;rw [hk,List.length_append,←h4];rfl,?_,?_⟩
     ·simp only;rw [hk,←h5];have ha:(es.set a y)[a]? = some y:=by rw [List.getElem?_set_self (by omega)]
      rw [aJ ha,List.take_set_of_le (Nat.le_refl _)]
     ·simp only;rw [List.drop_set_of_lt (by omega),hd]
  ·have hbe:b=L.length:=by omega
   rw [hbe,List.take_of_length_le (Nat.le_refl _)] at h4 h5;(refine' zg)
   rw [Nat.sub_zero,h4] at *
   rw [h5];refine ah.now [] (by decide) ?_;(refine' zg);first|exact ay _|exact ar.cons rfl ar.nil|exact ar.cons rfl (ar.cons rfl ar.nil)|exact ar.nil
def PE (F:D):St:=⟨[(0,.d ap),(1,.d F),(7,iv 0),(8,iv 0)],[],0⟩
attribute [push_cast] PE.eq_def
theorem xQ (F:D):aq Tryz.prog G 274 [.d ap,.d F] [] 0 (iv (-1)) []:=by
 refine vF ab [0,1,4,5,7,8,9,16] Tryz.func274 rfl Tryz.results274 Tryz.ntmps274 ?_;(refine' zg)
 refine vL (lv:=[0,1,4,5,7,8,9,16]) ab (fun _:Unit=>PE F) (fun _=>True) (fun _=>0) (()) ((aN.go [0,1,7,8] (by exact vT) rfl)) ?_ ?_
 ·trivial
 rintro ⟨⟩ -
 (refine' zo)
theorem uU (F:D):aq Tryz.prog G 254 [.d ap,.d F] [] 0 (.d ap) []:=by
 refine vF ab [0,1,4,5,6,7,12,19,29] Tryz.func254 rfl Tryz.results254 Tryz.ntmps254 ?_;(refine' qe (xQ F))
theorem uV (n a b:Int):aq Tryz.prog G0 219 [.d (bY n ap),iv a,iv b] [] 0 (.d ap) []:=by
 have r1:=uT (G:=G0) n;refine vF ab [0,1,2,4,5,6] Tryz.func219 rfl Tryz.results219 Tryz.ntmps219 ?_;(refine' l9 r1)
 refine aB.frz 0 rfl ?_;(refine' zg)
 refine aB.frz 4 rfl ?_;(repeat' (first|(with_reducible first|exact True.intro|refine vD ?_|refine vG ?_|refine vE ?_)|with_reducible refine vC (uU _) ?_|with_reducible refine ah.out ?_|refine vR ?_|refine v6 ?_|with_reducible refine vN ?_|((with_reducible first|refine vB (fun h =>?_) (fun h =>?_)|refine vM (fun h =>?_) (fun h =>?_))<;>(first|(exfalso;omega)|skip))))
theorem xU (n a b:Int) (L:List Iy) (h0:0<L.length) (hl:L.length≤100000):aq Tryz.prog G0 219 [.d (bY n (.sd 5 false (L.map ki))),iv a,iv b] [] 0 (.d (.sd 5 false ((L.filter fun x=> !(decide (x.2.1<a)||decide (b<x.2.1))).map ki))) []:=by
 have r1:=zy (G:=G0) n L h0 hl;have r2:=xP (G:=G0) (L:=L) (f:=255) (caps:=[nM a,nM b]) (p:=fun x=>decide (x.2.1<a)||decide (b<x.2.1)) (by omega) (by kernel_rfl) (fun x _=>yV x a b);refine vF ab [0,1,2,4,5,6] Tryz.func219 rfl Tryz.results219 Tryz.ntmps219 ?_;(refine' Ku r1)
 refine aB.frz 0 rfl ?_;(refine' zg)
 refine aB.frz 4 rfl ?_;(refine' zg)
 refine aB.put 16 r2 (by kernel_rfl) rfl rfl rfl ?_;(refine' zg)
 refine ah.frz 16 (ah.out ?_);(refine' zg)
end
end Go.Proofs.YtkkanlcjjpoklaaGreatDoor
