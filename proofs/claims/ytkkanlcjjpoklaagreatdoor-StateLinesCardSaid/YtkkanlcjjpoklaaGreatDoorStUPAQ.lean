/- What the theorem leans on, part 17. -/
import Derived.Test.YtkkanlcjjpoklaaGreatDoorStUPAO
import Derived.Test.YtkkanlcjjpoklaaGreatDoorStUPAP
set_option linter.unusedSimpArgs false
set_option linter.unusedVariables false
set_option maxRecDepth 8000
namespace Go.Proofs.YtkkanlcjjpoklaaGreatDoor
def cg (n:Int) (x:D):D:= .pd 2 [.agg [iD n,x]] 0 0
abbrev wF (t:Option T) (n:Int) (x:D) (h:List Sn):V:= .d (.agg [bd t,cg n x,.sd 2 false (h.map bA)])
theorem xr (n:Int) (x:D):an Tryz.prog G0 74 [.d (cg n x)] [] 0 (iv n) []:=by
 rw [cg];refine vF ab [0,2,4] Tryz.func74 rfl Tryz.results74 Tryz.ntmps74 ?_;(refine' zo)
theorem Rz {h:List Sn} {a:Int} (ha:cf h a=none) : ∀y∈h,iO a y=false:=fun y hy=>by
 have:=vk ha y hy;cases hb:iO a y with
 | false=>rfl
 | true=>exact (this (fW.1 hb)).elim
abbrev BL (t:Option T) (n:Int) (x:D) (H:List Sn):bF:= .cell [.d (bd t),.d (cg n x),.d (.sd 2 false (H.map bA))]
def Yk (t:Option T) (n:Int) (x:D) (H:List Sn) (m:Int) (y:Nat × Int):St:=⟨[(1,.po 0 0),(3,iv m),(4,iv y.2),(11,xX H),(12,iv H.length),(13,iv y.1)],[(0,BL t n x H)],1⟩
attribute [push_cast] Yk.eq_def
def nY (m n:Int) (H:List Sn):Bool:=jp m 0 H&&decide (n=m)
section
variable {l:List Int} {ps:List (List Int)} {t:Option T}
set_option maxHeartbeats 1600000 in
theorem oe (R:Rp l ps t) (n:Int) (x:D) (H:List Sn) (hl:H.length≤1000000):an Tryz.prog G0 104 [wF t n x H] [] 0 (iv (if nY l.length n H=true then 0 else 4)) []:=by
 have r1:=fM R;have r2:=xr n x;refine vF ab [0,1,2,3,4,6,11,12,13,14,33,41] Tryz.func104 rfl Tryz.results104 Tryz.ntmps104 ?_;(refine' fj r1)
 refine vL (lv:=[0,1,2,3,4,6,11,12,13,14,33,41]) ab (Yk t n x H l.length) (fun y=>y.1≤H.length∧jp l.length y.2 (H.drop y.1)=jp l.length 0 H) (fun y=>H.length - y.1) ((0,0)) ((aC.go [1,3,4,11,12,13] (by exact vT) rfl)) ?_ ?_
 ·exact ⟨Nat.zero_le _,rfl⟩
 rintro ⟨i,last⟩ ⟨h1,h2⟩;simp only at h1 h2;(refine' fj r2)
 ·refine aI.intro fun y hy =>?_
  have hd:=cV hy;rw [hd] at h2;(refine' zg)
  ·have:nY l.length n H=false:=by
    rw [nY,←h2];cases hr:jp l.length last (y::H.drop (i+1)) with
    | false=>rfl
    | true=>have:=(eh.1 hr).1;omega
   rw [if_neg (by simp [this])];refine ae.now [] (by decide) ?_;(refine' zg);first|exact aj _|exact ap.cons rfl ap.nil|exact ap.cons rfl (ap.cons rfl ap.nil)|exact ap.nil
  ·refine aG.go ((i+1,y.2)) [1,3,4,11,12,13] (by exact vT) ?_ ?_
   ·show H.length - (i+1)<H.length - i;omega
   ·refine ⟨by simp only;omega,?_⟩;rw [←h2];simp only;rw [Bool.eq_iff_iff,eh];constructor
    ·intro h3;exact ⟨by omega,h3⟩
    ·intro h3;exact h3.2
 ·rw [List.drop_of_length_le (by omega)] at h2;have e:nY l.length n H=false:=by
   rw [nY,decide_eq_false (by omega),Bool.and_false]
  rw [if_neg (by simp [e])];refine ae.now [] (by decide) ?_;(refine' zg);first|exact aj _|exact ap.cons rfl ap.nil|exact ap.cons rfl (ap.cons rfl ap.nil)|exact ap.nil
 ·rw [List.drop_of_length_le (by omega)] at h2;have e:nY l.length n H=true:=by
   rw [nY,decide_eq_true (by omega),Bool.and_true,←h2];rfl
  rw [if_pos e];refine ae.now [] (by decide) ?_;(refine' zg);first|exact aj _|exact ap.cons rfl ap.nil|exact ap.cons rfl (ap.cons rfl ap.nil)|exact ap.nil
def ZE (t:Option T) (n:Int) (x:D) (H:List Sn) (a:Nat):St:=⟨[(1,iv a),(2,.po 0 0)],[(0,BL t n x H)],1⟩
attribute [push_cast] ZE.eq_def
theorem gy {m n:Int} {H:List Sn} (h:nY m n H=true):jp m 0 H=true∧n=m:=by simpa [nY] using h
end
def U5 (H:List (Int × Int)) (f:Nat) (a:Int) (i:Nat):St:=⟨[(0,xX H),(1,.fn f [.po 0 0]),(7,iv H.length),(8,iv i)],[(0,.cell [iv a])],1⟩
attribute [push_cast] U5.eq_def
section
variable {G:Gl} {H:List (Int × Int)} {f:Nat} {a:Int} {p:Int × Int→Bool}
theorem qq (hl:H.length≤1000000) (he:cx Tryz.prog f=true) (hc : ∀x∈H,an Tryz.prog G f [.d (bA x),.po 0 0] [(0,.cell [iv a])] 1 (bv (p x)) [(0,.cell [iv a])]) (i:Nat) (x:Int × Int) (hx:H[i]? = some x) (hp:p x=true) (hn : ∀(k:Nat) y,k<i→H[k]? = some y→p y=false) :
 an Tryz.prog G 213 [xX H,.fn f [.po 0 0]] [(0,.cell [iv a])] 1 (iv i) [(0,.cell [iv a])]:=by
 have hi:=(List.getElem?_eq_some_iff.1 hx).1;refine vF ab [0,1,4,5,7,8,9,16] Tryz.func213 rfl Tryz.results213 Tryz.ntmps213 ?_;(refine' zg)
 refine vL (lv:=[0,1,4,5,7,8,9,16]) ab (U5 H f a) (fun k=>k≤i) (fun k=>i - k) (0) ((aC.go [0,1,7,8] (by exact vT) rfl)) ?_ ?_
 ·exact Nat.zero_le _
 intro k hk;obtain ⟨y,hy⟩ : ∃y,H[k]? = some y:=⟨_,List.getElem?_eq_getElem (by omega)⟩
 have hcy:=hc y (List.mem_of_getElem? hy);rcases Nat.lt_or_ge k i with hlt|hge
 ·rw [hn k y hlt hy] at hcy;(refine' zg)
  refine aI.is k y (by omega) hy ?_;(repeat' (first|(with_reducible refine Qu 0 hcy ?_ (he:=he))|(refine' zq)|fail))
  refine aG.go (k+1) [0,1,7,8] (by exact vT) ?_ ?_
  ·show i - (k+1)<i - k;omega
  ·exact hlt
 ·obtain rfl:k=i:=by omega
  rw [hx] at hy;injection hy with hy;subst hy;rw [hp] at hcy;(refine' zg)
  refine aI.is k x (by omega) hx ?_;(repeat' (first|(with_reducible refine Qu 0 hcy ?_ (he:=he))|(refine' zq)|fail))
  refine ae.now [] (by decide) ?_;(refine' zg);first|exact aj _|exact ap.cons rfl ap.nil|exact ap.cons rfl (ap.cons rfl ap.nil)|exact ap.nil
theorem tP (hl:H.length≤1000000) (he:cx Tryz.prog f=true) (hc : ∀x∈H,an Tryz.prog G f [.d (bA x),.po 0 0] [(0,.cell [iv a])] 1 (bv (p x)) [(0,.cell [iv a])]) (hn : ∀x∈H,p x=false) :
 an Tryz.prog G 213 [xX H,.fn f [.po 0 0]] [(0,.cell [iv a])] 1 (iv (-1)) [(0,.cell [iv a])]:=by
 refine vF ab [0,1,4,5,7,8,9,16] Tryz.func213 rfl Tryz.results213 Tryz.ntmps213 ?_;(refine' zg)
 refine vL (lv:=[0,1,4,5,7,8,9,16]) ab (U5 H f a) (fun k=>k≤H.length) (fun k=>H.length - k) (0) ((aC.go [0,1,7,8] (by exact vT) rfl)) ?_ ?_
 ·exact Nat.zero_le _
 intro k hk;(refine' zg)
 ·refine aI.intro fun y hy =>?_
  have hcy:=hc y (List.mem_of_getElem? hy);rw [hn y (List.mem_of_getElem? hy)] at hcy;(repeat' (first|(with_reducible refine Qu 0 hcy ?_ (he:=he))|(refine' zq)|fail))
  refine aG.go (k+1) [0,1,7,8] (by exact vT) ?_ ?_
  ·show H.length - (k+1)<H.length - k;omega
  ·show k+1≤H.length;omega
 ·refine ae.now [] (by decide) ?_;(refine' zg);first|exact aj _|exact ap.cons rfl ap.nil|exact ap.cons rfl (ap.cons rfl ap.nil)|exact ap.nil
end
theorem qA (x:Sn) (a:Int):an Tryz.prog G0 159 [.d (bA x),.d (qC a)] [] 0 (bv (iO (a - 1) x)) []:=by
 have e:(decide (x.1<a)&&decide (a≤x.2))=iO (a - 1) x:=by
  unfold iO;rw [Bool.eq_iff_iff];simp only [Bool.and_eq_true,decide_eq_true_eq];omega
 rw [←e];refine vF ab [0,1,2,3] Tryz.func159 rfl Tryz.results159 Tryz.ntmps159 ?_;(refine' zo)
theorem DZ (x:Sn) (a:Int):an Tryz.prog G0 215 [.d (bA x),.po 0 0] [(0,.cell [iv a])] 1 (bv (iO (a - 1) x)) [(0,.cell [iv a])]:=by
 have e:(decide (x.1<a)&&decide (a≤x.2))=iO (a - 1) x:=by
  unfold iO;rw [Bool.eq_iff_iff];simp only [Bool.and_eq_true,decide_eq_true_eq];omega
 rw [←e];refine vF ab [0,1,2,3] Tryz.func215 rfl Tryz.results215 Tryz.ntmps215 ?_;(refine' zg)
 all_goals (refine ae.now [] (by decide) ?_;(refine' zg);first|exact aj _|exact ap.cons rfl ap.nil|exact ap.cons rfl (ap.cons rfl ap.nil)|exact ap.nil)
section
variable {l:List Int} {ps:List (List Int)} {t:Option T}
theorem k9 (R:Rp l ps t) (n:Int) (x:D) (H:List Sn) (a:Int) (ha:a≤0∨(l.length:Int)<a):an Tryz.prog G0 105 [wF t n x H,iv a] [] 0 (bv (a==0)) []:=by
 have r1:=fM R;refine vF ab [0,1,2,3,4,5,15] Tryz.func105 rfl Tryz.results105 Tryz.ntmps105 ?_;(refine' kW r1)
set_option maxHeartbeats 1600000 in
theorem uO (R:Rp l ps t) (n:Int) (x:D) (H:List Sn) (hl:H.length≤1000000) (a:Nat) (h0:0<a) (ha:a≤l.length):an Tryz.prog G0 105 [wF t n x H,iv a] [] 0 (bv (eY l H (a - 1))) []:=by
 have r1:=fM R;obtain ⟨r,hr⟩ : ∃r,l[a - 1]? = some r:=⟨_,List.getElem?_eq_getElem (by omega)⟩
 have r2:=P8 R (a - 1) r hr;have hlen:=R.len;have ec:((a - 1:Nat):Int)=(a:Int) - 1:=by omega
 rw [ec] at r2;by_cases h10:r=10
 ·subst h10;cases ho:cf H ((a:Int) - 1) with
  | none=>
   have r3:=pq (G:=G0) (H:=H) (f:=159) (caps:=[qC a]) (p:=iO ((a:Int) - 1)) hl (by kernel_rfl) (fun y _=>qA y a) (Rz ho);rw [i3.2 ⟨hr,by rw [ec];exact ho⟩];refine vF ab [0,1,2,3,4,5,15] Tryz.func105 rfl Tryz.results105 Tryz.ntmps105 ?_;(refine' BC r1 r2)
   refine au.frz 4 rfl ?_;(refine' kW r3)
  | some y=>
   obtain ⟨i,g1,g2,g3⟩:=mp ho;have r3:=nn (G:=G0) (H:=H) (f:=159) (caps:=[qC a]) (p:=iO ((a:Int) - 1)) hl (by kernel_rfl) (fun y _=>qA y a) i y g1 g2 g3;have e0:eY l H (a - 1)=false:=by
    cases hb:eY l H (a - 1) with
    | false=>rfl
    | true=>have:=(i3.1 hb).2;rw [ec,ho] at this;cases this
   rw [e0];refine vF ab [0,1,2,3,4,5,15] Tryz.func105 rfl Tryz.results105 Tryz.ntmps105 ?_;(refine' BC r1 r2)
   refine au.frz 4 rfl ?_;(refine' kW r3)
 ·rw [sF (by rw [hr];intro e;injection e with e;exact h10 e)];refine vF ab [0,1,2,3,4,5,15] Tryz.func105 rfl Tryz.results105 Tryz.ntmps105 ?_;(refine' tJ r1 r2)
set_option maxHeartbeats 1600000 in
theorem O2 (R:Rp l ps t) (n:Int) (x:D) (H:List Sn) (hl:H.length≤1000000) (hr:jp l.length 0 H=true) (a:Nat) (ha:a≤l.length):an Tryz.prog G0 160 [wF t n x H,iv a] [] 0 (iv (aF l H a)) []:=by
 have hlen:=R.len;have r0:=fM R;refine vF ab [0,1,2,4,5,7,8,9,26,35] Tryz.func160 rfl Tryz.results160 Tryz.ntmps160 ?_;(refine' zg)
 refine vL (lv:=[0,1,2,4,5,7,8,9,26,35]) ab (ZE t n x H) (fun i=>i≤l.length∧aF l H i=aF l H a) (fun i=>l.length - i) (a) ((aC.go [1,2] (by exact vT) rfl)) ?_ ?_
 ·exact ⟨ha,rfl⟩
 rintro i ⟨h1,h2⟩;have r2:=yG R i h1;have hk:=l7 l i;have hkl:=gr l;by_cases hb:aT (l.take i)<aT l
 ·have r3:=EX R (aT (l.take i)+1) hb;obtain ⟨g1,g2⟩:=yR l i h1 hb;have g3:=(List.getElem?_eq_some_iff.1 g2).1;rw [g1] at r3;have ec:(i:Int)+(pk (l.drop i):Int)+1 - 1=((i+pk (l.drop i):Nat):Int):=by omega
  have ec2:((i+pk (l.drop i)+1:Nat):Int)=(i:Int)+(pk (l.drop i):Int)+1:=by omega
  have ec1:((aT (l.take i)+1:Nat):Int)=(aT (l.take i):Int)+1:=by omega
  rw [ec1,ec2] at r3;cases ho:cf H ((i+pk (l.drop i):Nat):Int) with
  | none=>
   have r4:=tP (G:=G0) (H:=H) (f:=215) (a:=(i:Int)+(pk (l.drop i):Int)+1) (p:=iO ((i:Int)+(pk (l.drop i):Int)+1 - 1)) hl (by kernel_rfl) (fun y _=>DZ y _) (Rz (by rw [ec];exact ho));rw [←h2,FO h1 hb ho];(refine' BC r2 r3)
   refine Qu 69 r4 ?_;(repeat' (first|(simp -implicitDefEqProofs -dsimp only [ec])|(refine' zq)|fail))
   refine ae.now [] (by decide) ?_;(refine' zg);first|exact aj _|exact ap.cons rfl ap.nil|exact ap.cons rfl (ap.cons rfl ap.nil)|exact ap.nil
  | some y=>
   obtain ⟨j',q1,q2,q3⟩:=mp ho;have r4:=qq (G:=G0) (H:=H) (f:=215) (a:=(i:Int)+(pk (l.drop i):Int)+1) (p:=iO ((i:Int)+(pk (l.drop i):Int)+1 - 1)) hl (by kernel_rfl) (fun y _=>DZ y _) j' y q1 (by rw [ec];exact q2) (by rw [ec];exact q3);have hm:=di ho;have hy:=cW hr y hm.1;obtain ⟨j,hj⟩ : ∃j:Nat,y.2=j:=⟨y.2.toNat,by omega⟩
   have ho':=FQ hr h1 ho hj;have hj':=(List.getElem?_eq_some_iff.1 q1).1;(refine' BC r2 r3)
   refine Qu 69 r4 ?_;(refine' zg)
   refine aI.is j' y (by omega) q1 ?_;(refine' zg)
   rw [hj];refine aG.go (j) [1,2] (by exact vT) ?_ ?_
   ·show l.length - j<l.length - i;omega
   ·exact ⟨by omega,by rw [←ho',h2]⟩
 ·have r3:=BM R ((aT (l.take i):Int)+1) (by omega);rw [←h2,FP h1 hb];(refine' QT r0 r2 r3)
end
abbrev Iy:=Int × Int × Int × Int × ByteArray
abbrev cS (x:Iy):D:= .agg [iD x.1,iD x.2.1,iD x.2.2.1,iD x.2.2.2.1,.lit (.string x.2.2.2.2)]
abbrev Cw (l:List Iy):bF:= .row 5 (l.map cS)
def bO (L:List Iy):D:=match L with
 | []=>aB
 | _=> .sd 5 false (L.map cS)
section
variable {G:Gl}
theorem Ck:an Tryz.prog G 196 [.d aB] [] 0 (.d aB) []:=by
 refine vF ab [0,2,4] Tryz.func196 rfl Tryz.results196 Tryz.ntmps196 ?_;(refine' zo)
theorem F4 (l:List Iy) (hl:0<l.length) (hl2:l.length≤100000):an Tryz.prog G 196 [.d (.sd 5 false (l.map cS))] [] 0 (.so 0 5 0 l.length) [(0,Cw l)]:=by
 rcases l with _|⟨x,r⟩
 ·simp at hl
 simp only [List.map_cons];have hr:r.length≤100000:=by simp at hl2;omega
 refine vF ab [0,2,4] Tryz.func196 rfl Tryz.results196 Tryz.ntmps196 ?_;(refine' zg)
 refine ae.now [20] (by decide) ?_;(refine' zg)
 exact aj _
theorem zB (n:Int):an Tryz.prog G 126 [.d (cg n aB)] [] 0 (.d aB) []:=by
 rw [cg];refine vF ab [0,2,4] Tryz.func126 rfl Tryz.results126 Tryz.ntmps126 ?_;(refine' kW Ck)
theorem Ec (n:Int) (l:List Iy) (hl:0<l.length) (hl2:l.length≤100000):an Tryz.prog G 126 [.d (cg n (.sd 5 false (l.map cS)))] [] 0 (.so 0 5 0 l.length) [(0,Cw l)]:=by
 rw [cg];have r1:=F4 (G:=G) l hl hl2;refine vF ab [0,2,4] Tryz.func126 rfl Tryz.results126 Tryz.ntmps126 ?_;(refine' Qx r1)
 refine ae.now [28] (by decide) ?_;(refine' zg);first|exact aj _|exact ap.cons rfl ap.nil|exact ap.cons rfl (ap.cons rfl ap.nil)|exact ap.nil
def U0 (L:List Iy) (F:D) (i:Nat):St:=⟨[(0,.so 0 5 0 L.length),(1,.d F),(7,iv L.length),(8,iv i)],[(0,Cw L)],1⟩
attribute [push_cast] U0.eq_def
variable {L:List Iy} {f:Nat} {caps:List D} {p:Iy→Bool}
theorem Co (hl:L.length≤1000000) (he:cx Tryz.prog f=true) (hc : ∀x∈L,an Tryz.prog G f (.d (cS x)::caps.map .d) [] 0 (bv (p x)) []) (i:Nat) (x:Iy) (hx:L[i]? = some x) (hp:p x=true) (hn : ∀(k:Nat) y,k<i→L[k]? = some y→p y=false) :
 an Tryz.prog G 274 [.so 0 5 0 L.length,.d (.fn f caps)] [(0,Cw L)] 1 (iv i) [(0,Cw L)]:=by
 have hi:=(List.getElem?_eq_some_iff.1 hx).1;refine vF ab [0,1,4,5,7,8,9,16] Tryz.func274 rfl Tryz.results274 Tryz.ntmps274 ?_;(refine' zg)
 refine vL (lv:=[0,1,4,5,7,8,9,16]) ab (U0 L (.fn f caps)) (fun k=>k≤i) (fun k=>i - k) (0) ((aC.go [0,1,7,8] (by exact vT) rfl)) ?_ ?_
 ·exact Nat.zero_le _
 intro k hk;obtain ⟨y,hy⟩ : ∃y,L[k]? = some y:=⟨_,List.getElem?_eq_getElem (by omega)⟩
 have hcy:=hc y (List.mem_of_getElem? hy);rcases Nat.lt_or_ge k i with hlt|hge
 ·rw [hn k y hlt hy] at hcy;(refine' zg)
  refine aI.is k y (by omega) hy ?_;(repeat' (first|(with_reducible refine vC hcy ?_ he (j1 (cS y::caps)) rfl)|(refine' zq)|fail))
  refine aG.go (k+1) [0,1,7,8] (by exact vT) ?_ ?_
  ·show i - (k+1)<i - k;omega
  ·exact hlt
 ·obtain rfl:k=i:=by omega
  rw [hx] at hy;injection hy with hy;subst hy;rw [hp] at hcy;(refine' zg)
  refine aI.is k x (by omega) hx ?_;(repeat' (first|(with_reducible refine vC hcy ?_ he (j1 (cS x::caps)) rfl)|(refine' zq)|fail))
  refine ae.now [] (by decide) ?_;(refine' zg);first|exact aj _|exact ap.cons rfl ap.nil|exact ap.cons rfl (ap.cons rfl ap.nil)|exact ap.nil
theorem F5 (hl:L.length≤1000000) (he:cx Tryz.prog f=true) (hc : ∀x∈L,an Tryz.prog G f (.d (cS x)::caps.map .d) [] 0 (bv (p x)) []) (hn : ∀x∈L,p x=false) :
 an Tryz.prog G 274 [.so 0 5 0 L.length,.d (.fn f caps)] [(0,Cw L)] 1 (iv (-1)) [(0,Cw L)]:=by
 refine vF ab [0,1,4,5,7,8,9,16] Tryz.func274 rfl Tryz.results274 Tryz.ntmps274 ?_;(refine' zg)
 refine vL (lv:=[0,1,4,5,7,8,9,16]) ab (U0 L (.fn f caps)) (fun k=>k≤L.length) (fun k=>L.length - k) (0) ((aC.go [0,1,7,8] (by exact vT) rfl)) ?_ ?_
 ·exact Nat.zero_le _
 intro k hk;(refine' zg)
 ·refine aI.intro fun y hy =>?_
  have hcy:=hc y (List.mem_of_getElem? hy);rw [hn y (List.mem_of_getElem? hy)] at hcy;(repeat' (first|(with_reducible refine vC hcy ?_ he (j1 (cS y::caps)) rfl)|(refine' zq)|fail))
  refine aG.go (k+1) [0,1,7,8] (by exact vT) ?_ ?_
  ·show L.length - (k+1)<L.length - k;omega
  ·show k+1≤L.length;omega
 ·refine ae.now [] (by decide) ?_;(refine' zg);first|exact aj _|exact ap.cons rfl ap.nil|exact ap.cons rfl (ap.cons rfl ap.nil)|exact ap.nil
end
theorem DB (x:Iy) (a b:Int):an Tryz.prog G0 255 [.d (cS x),.d (qC a),.d (qC b)] [] 0 (bv (decide (x.2.1<a)||decide (b<x.2.1))) []:=by
 refine vF ab [0,1,2,3,4] Tryz.func255 rfl Tryz.results255 Tryz.ntmps255 ?_;(refine' zo)
def XK (N:Nat) (F:D) (x:Nat × Nat × List Iy):St:=⟨[(0,.so 0 5 0 N),(1,.d F),(5,iv x.1),(6,iv x.2.1)],[(0,Cw x.2.2)],1⟩
attribute [push_cast] XK.eq_def
section
variable {G:Gl} {L:List Iy} {f:Nat} {caps:List D} {p:Iy→Bool}
abbrev hU (p:Iy→Bool) (l:List Iy):List Iy:=l.filter fun x=> !p x
theorem zh {L:List Iy} {i:Nat} {x:Iy} (hx:L[i]? = some x) (hp:p x=true) (hn : ∀(k:Nat) y,k<i→L[k]? = some y→p y=false):hU p (L.take (i+1))=L.take i:=by
 rw [hU,ax hx,List.filter_append];have e1:(L.take i).filter (fun x=> !p x)=L.take i:=by
  rw [List.filter_eq_self];intro y hy;obtain ⟨k,hk⟩:=List.getElem?_of_mem hy;rw [List.getElem?_take] at hk;split at hk
  ·rename_i hki;simp [hn k y hki hk]
  ·cases hk
 rw [e1];simp [hp]
set_option maxHeartbeats 1600000 in
theorem Cm (hl:L.length≤1000000) (he:cx Tryz.prog f=true) (hc : ∀x∈L,an Tryz.prog G f (.d (cS x)::caps.map .d) [] 0 (bv (p x)) []) :
 an Tryz.prog G 254 [.so 0 5 0 L.length,.d (.fn f caps)] [(0,Cw L)] 1 (.so 0 5 0 (hU p L).length) [(0,Cw (hU p L))]:=by
 cases hf:L.find? p with
 | none=>
  have hno : ∀x∈L,p x=false:=fun x hx=>by simpa using List.find?_eq_none.1 hf x hx
  have r1:=F5 (G:=G) hl he hc hno;have e:hU p L=L:=List.filter_eq_self.2 fun x hx=>by simp [hno x hx]
  rw [e];refine vF ab [0,1,4,5,6,7,12,19,29] Tryz.func254 rfl Tryz.results254 Tryz.ntmps254 ?_;(refine' zg)
  refine Qu 0 r1 ?_;(refine' zg)
  refine ae.now [] (by decide) ?_;(refine' zg);first|exact aj _|exact ap.cons rfl ap.nil|exact ap.cons rfl (ap.cons rfl ap.nil)|exact ap.nil
 | some x=>
  obtain ⟨i,hx,hp,hn⟩:=mp hf;have r1:=Co (G:=G) hl he hc i x hx hp hn;have hi:=(List.getElem?_eq_some_iff.1 hx).1;have hfh:=zh hx hp hn;refine vF ab [0,1,4,5,6,7,12,19,29] Tryz.func254 rfl Tryz.results254 Tryz.ntmps254 ?_;(refine' zg)
  refine Qu 0 r1 ?_;(refine' zg)
  refine vL (lv:=[0,1,4,5,6,7,12,19,29]) ab (XK L.length (.fn f caps)) (fun x=>x.2.2.length=L.length∧x.1<x.2.1∧x.2.1≤L.length∧x.1=(hU p (L.take x.2.1)).length∧x.2.2.take x.1=hU p (L.take x.2.1)∧x.2.2.drop x.2.1=L.drop x.2.1) (fun x=>L.length - x.2.1) ((i,i+1,L)) ((aC.go [0,1,5,6] (by exact vT) rfl)) ?_ ?_
  ·exact ⟨rfl,Nat.lt_succ_self _,hi,by rw [hfh,List.length_take];omega,hfh.symm,rfl⟩
  rintro ⟨a,b,es⟩ ⟨h1,h2,h3,h4,h5,h6⟩;simp only at h1 h2 h3 h4 h5 h6;rcases Nat.lt_or_ge b L.length with hb|hb
  ·obtain ⟨y,hy⟩ : ∃y,L[b]? = some y:=⟨_,List.getElem?_eq_getElem hb⟩
   have hcy:=hc y (List.mem_of_getElem? hy);have hye:es[b]? = some y:=by
    have g1:(es.drop b)[0]? = es[b]? :=by rw [List.getElem?_drop];rfl
    have g2:(L.drop b)[0]? = L[b]? :=by rw [List.getElem?_drop];rfl
    rw [←g1,h6,g2,hy]
   have hd:es.drop (b+1)=L.drop (b+1):=by rw [←List.drop_drop,h6,List.drop_drop]
   cases hpy:p y with
   | true=>
    rw [hpy] at hcy;have hk:hU p (L.take (b+1))=hU p (L.take b):=by rw [hU,ax hy,List.filter_append];simp [hpy]
    (refine' zg)
    refine aI.is b y (by omega) hye ?_;(repeat' (first|(with_reducible refine vC hcy ?_ he (j1 (cS y::caps)) rfl)|(refine' zq)|fail))
    refine aG.go ((a,b+1,es)) [0,1,5,6] (by exact vT) ?_ ?_
    ·show L.length - (b+1)<L.length - b;omega
    ·exact ⟨h1,by simp only;omega,hb,by simp only;rw [hk];exact h4,by simp only;rw [hk];exact h5,hd⟩
   | false=>
    rw [hpy] at hcy;have hk:hU p (L.take (b+1))=hU p (L.take b)++[y]:=by rw [hU,ax hy,List.filter_append];simp [hpy]
    (refine' zg)
    refine aI.is b y (by omega) hye ?_;(repeat' (first|(with_reducible refine vC hcy ?_ he (j1 (cS y::caps)) rfl)|(refine' zq)|fail))
    rw [show (es.map cS).set a (cS y)=(es.set a y).map cS from List.map_set.symm];refine aG.go ((a+1,b+1,es.set a y)) [0,1,5,6] (by exact vT) ?_ ?_
    ·show L.length - (b+1)<L.length - b;omega
    ·refine ⟨by simp only [List.length_set];exact h1,by simp only;omega,hb,by simp only;rw [hk,List.length_append,←h4];rfl,?_,?_⟩
     ·simp only;rw [hk,←h5];have ha:(es.set a y)[a]? = some y:=by rw [List.getElem?_set_self (by omega)]
      rw [ax ha,List.take_set_of_le (Nat.le_refl _)]
     ·simp only;rw [List.drop_set_of_lt (by omega),hd]
  ·have hbe:b=L.length:=by omega
   rw [hbe,List.take_of_length_le (Nat.le_refl _)] at h4 h5;(refine' zg)
   rw [Nat.sub_zero,h4] at *
   rw [h5];refine ae.now [] (by decide) ?_;(refine' zg);first|exact aj _|exact ap.cons rfl ap.nil|exact ap.cons rfl (ap.cons rfl ap.nil)|exact ap.nil
def XV (F:D):St:=⟨[(0,.d aB),(1,.d F),(7,iv 0),(8,iv 0)],[],0⟩
attribute [push_cast] XV.eq_def
theorem Cn (F:D):an Tryz.prog G 274 [.d aB,.d F] [] 0 (iv (-1)) []:=by
 refine vF ab [0,1,4,5,7,8,9,16] Tryz.func274 rfl Tryz.results274 Tryz.ntmps274 ?_;(refine' zg)
 refine vL (lv:=[0,1,4,5,7,8,9,16]) ab (fun _:Unit=>XV F) (fun _=>True) (fun _=>0) (()) ((aC.go [0,1,7,8] (by exact vT) rfl)) ?_ ?_
 ·trivial
 rintro ⟨⟩ -
 (refine' zo)
theorem zC (F:D):an Tryz.prog G 254 [.d aB,.d F] [] 0 (.d aB) []:=by
 refine vF ab [0,1,4,5,6,7,12,19,29] Tryz.func254 rfl Tryz.results254 Tryz.ntmps254 ?_;(refine' kW (Cn F))
theorem zD (n a b:Int):an Tryz.prog G0 219 [.d (cg n aB),iv a,iv b] [] 0 (.d aB) []:=by
 have r1:=zB (G:=G0) n;refine vF ab [0,1,2,4,5,6] Tryz.func219 rfl Tryz.results219 Tryz.ntmps219 ?_;(refine' fj r1)
 refine au.frz 0 rfl ?_;(refine' zg)
 refine au.frz 4 rfl ?_;(repeat' (first|with_reducible refine vC (zC _) ?_|with_reducible refine ae.out ?_|(refine' zq)|fail))
theorem Cp (n a b:Int) (L:List Iy) (h0:0<L.length) (hl:L.length≤100000):an Tryz.prog G0 219 [.d (cg n (.sd 5 false (L.map cS))),iv a,iv b] [] 0 (.d (.sd 5 false ((L.filter fun x=> !(decide (x.2.1<a)||decide (b<x.2.1))).map cS))) []:=by
 have r1:=Ec (G:=G0) n L h0 hl;have r2:=Cm (G:=G0) (L:=L) (f:=255) (caps:=[qC a,qC b]) (p:=fun x=>decide (x.2.1<a)||decide (b<x.2.1)) (by omega) (by kernel_rfl) (fun x _=>DB x a b);refine vF ab [0,1,2,4,5,6] Tryz.func219 rfl Tryz.results219 Tryz.ntmps219 ?_;(refine' Qx r1)
 refine au.frz 0 rfl ?_;(refine' zg)
 refine au.frz 4 rfl ?_;(refine' zg)
 refine au.put 16 r2 (by kernel_rfl) rfl rfl rfl ?_;(refine' zg)
 refine ae.frz 16 (ae.out ?_);(refine' zg)
end
end Go.Proofs.YtkkanlcjjpoklaaGreatDoor
