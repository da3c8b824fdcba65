/- What the theorem leans on, part 24. -/
import Derived.Test.YtkkanlcjjpoklaaGreatDoorStVPAW
set_option linter.unusedSimpArgs false
set_option linter.unusedVariables false
set_option maxRecDepth 8000
namespace Go.Proofs.YtkkanlcjjpoklaaGreatDoor
abbrev Tl (ps:List Pz) (f t:Int):D:= .agg [.sd 3 false (ps.map iA),iD f,iD t]
theorem Ld (n:Int) (l:List Iy) (hn:0≤n∧n≤1099511627776) (hl2:l.length≤60) (hs : ∀x∈l,x.2.2.2.2.size≤1000000000) (he:cb n [] l=0):ap Tryz.prog G0 23 [iv n,.d (.sd 5 false (l.map cT))] [] 0 (.tup [.d (cW n (ct (aD l))),iv 0]) []:=by
 by_cases h0:l=[]
 ·subst h0;exact RS n hn
 ·obtain ⟨ys,⟨h1,h2⟩,hf⟩:=OI n l hn hl2 hs;rw [BY,aa3 he,Lj he h1 h2] at hf;have hlen:(aD l).length=l.length:=kf l.reverse l (by simp);have:ct (aD l) = .sd 5 false ((aD l).map cT):=by
   cases hi:aD l with
   | nil=>rw [hi] at hlen;exact (h0 (abu hlen.symm)).elim
   | cons x r=>rfl
  rw [this];exact hf
def Kz:Pz→Prop
 | .tx k _ rs=>(k=1∨k=2)∧10∉rs
 | .fo _=>True
abbrev Qz (z:Pz):Prop:=Nw z∧Kz z
theorem R4 {acc:List Pz} {r:Int} {a:Nat} (h : ∀z∈acc,Kz z) (hr:r≠10) : ∀z∈fH acc r a,Kz z:=by
 have hn:Kz (.tx 1 a [r]):=⟨.inl rfl,by simp;exact fun e=>hr e.symm⟩
 rcases ab8 acc with rfl|⟨pre,z,rfl⟩
 ·intro z hz;rw [show fH [] r a=[.tx 1 a [r]] from rfl,abK] at hz;subst hz;exact hn
 ·rw [ab2] at h ⊢;cases z with
  | tx k p rs=>
   have hz:=h (.tx k p rs) (by simp);rw [jf];split
   ·intro y hy;rcases abe.1 hy with hy|hy
    ·exact h y (by simp [hy])
    ·rw [abK.1 hy];exact ⟨.inl rfl,by simp;exact ⟨hz.2,fun e=>hr e.symm⟩⟩
   ·intro y hy;rcases abe.1 hy with hy|hy
    ·exact h y hy
    ·rw [abK.1 hy];exact hn
  | fo p=>
   rw [mQ];intro y hy;rcases abe.1 hy with hy|hy
   ·exact h y hy
   ·rw [abK.1 hy];exact hn
theorem R5 {L:List Iy} {a:Nat} (hL : ∀y∈L,10∉aa y.2.2.2.2 0) : ∀z∈cj L a,Kz z:=by
 intro z hz;obtain ⟨y,hy,rfl⟩:=abY.1 hz;exact ⟨.inr rfl,hL y (acj.1 hy).1⟩
theorem By (L:List Iy) (a:Nat):(cj L a).length≤L.length:=by rw [cj,aa4];exact acp _ _
theorem rV {l:List Int} {L:List Iy} {H:List Sn} (hll:l.length≤20000) (hr:fS l.length 0 H=true) (hL : ∀y∈L,y.2.2.2.2.size≤1000000) (hL2 : ∀y∈L,10∉aa y.2.2.2.2 0) : ∀(d a:Nat) (acc:List Pz),l.length - a≤d→a≤l.length→(∀z∈acc,Qz z) →
 (∀z∈(gx l L H a acc).1,Qz z)∧(gx l L H a acc).1.length≤acc.length+(L.length+1)*(l.length - a+1)
 | d,a,acc,hd,ha,hacc=>by
  have hin : ∀z∈acc++cj L a,Qz z:=fun z hz=>by
   rcases abe.1 hz with hz|hz
   ·exact hacc z hz
   ·exact ⟨Gu hL (by omega) z hz,R5 hL2 z hz⟩
  have hil:=By L a;by_cases h:a<l.length∧gf l H a=false
  ·obtain ⟨h1,h2⟩:=h;obtain ⟨r,hr'⟩ : ∃r,l[a]? = some r:=⟨_,IO h1⟩
   cases hx:bb H a with
   | none=>
    have h10:r≠10:=fun e=>by
     have:gf l H a=true:=fp.2 ⟨by rw [hr',e],hx⟩;rw [h2] at this;cases this
    rw [gz hr' h2 hx];obtain ⟨g1,g2⟩:=rV hll hr hL hL2 (d - 1) (a+1) _ (by omega) (by omega) (fun z hz=>⟨Gt (a:=a) (fun z hz=>(hin z hz).1) (by omega) z hz,R4 (fun z hz=>(hin z hz).2) h10 z hz⟩);refine ⟨g1,ab5 g2 ?_⟩;have:=AJ (acc++cj L a) r a;rw [Or] at this;have e:l.length - a+1=(l.length - (a+1)+1)+1:=by omega
    rw [e,acR (L.length+1) (l.length - (a+1)+1)];generalize (L.length+1)*(l.length - (a+1)+1)=P at *
    generalize (fH (acc++cj L a) r a).length=Q at *
    omega
   | some x=>
    obtain ⟨g1,g2,g3⟩:=bV hx;have g4:=bE hr x g1;obtain ⟨k,hk⟩ : ∃k:Nat,x.2=k:=⟨x.2.toNat,by omega⟩
    rw [iP h1 h2 hx hk (by omega)];obtain ⟨q1,q2⟩:=rV hll hr hL hL2 (d - 1) k (acc++cj L a++[.fo a]) (by omega) (by omega) (fun z hz=>by
     rcases abe.1 hz with hz|hz
     ·exact hin z hz
     ·rw [abK.1 hz];exact ⟨⟨by omega,by omega⟩,trivial⟩)
    refine ⟨q1,ab5 q2 ?_⟩;have hla:(acc++cj L a++[Pz.fo a]).length=acc.length+(cj L a).length+1:=by simp;omega
    rw [hla];have hk2:k≤l.length:=by omega
    have hak:a<k:=by omega
    have e:l.length - a+1=(l.length - k+1)+(k - a):=by omega
    rw [e,Nat.mul_add (L.length+1) (l.length - k+1) (k - a)];have:L.length+1≤(L.length+1)*(k - a):=ad3 _ (by omega);generalize (L.length+1)*(l.length - k+1)=P at *
    generalize (L.length+1)*(k - a)=Q at *
    have hil2:(cj L a).length≤L.length:=By L a;generalize (cj L a).length=R at *
    omega
  ·rw [gy h];refine ⟨hin,?_⟩;show (acc++cj L a).length≤_;rw [Or];have:L.length+1≤(L.length+1)*(l.length - a+1):=ad3 _ (by omega);omega
 termination_by d=>d
 decreasing_by all_goals omega
def oa (l:List Int) (H:List Sn):Nat→Nat→List Int
 | 0,_=>[]
 | d+1,a=>(if (bb H a).isNone=true then l[a]?.toList else [])++oa l H d (a+1)
theorem Dm (l:List Int) (H:List Sn) : ∀d e a:Nat,oa l H (d+e) a=oa l H d a++oa l H e (a+d)
 | 0,e,a=>by rw [acC,oa,abL,abD]
 | d+1,e,a=>by
  rw [Nat.add_right_comm,oa,oa,Dm l H d e (a+1),aba,show a+1+d=a+(d+1) by omega]
theorem Do (l:List Int) (H:List Sn) : ∀d a:Nat,(∀k,a≤k→k<a+d→bb H k≠none)→oa l H d a=[]
 | 0,a,_=>rfl
 | d+1,a,h=>by
  have h0:=h a (aaV _) (by omega);rw [oa,Do l H d (a+1) (fun k h1 h2=>h k (by omega) (by omega)),aaY (by
   cases hx:bb H a with
   | none=>exact (h0 hx).elim
   | some x=>simp)]
  rfl
theorem M5 {l:List Int} {H:List Sn} {a:Nat} {r:Int} (hr:l[a]? = some r) (hx:bb H a=none) (d:Nat):oa l H (d+1) a=r::oa l H d (a+1):=by
 rw [oa,hx,hr];rfl
theorem gm (l:List Int) (H:List Sn) : ∀(d a:Nat),l.length - a≤d→a≤l.length→(a=0∨gf l H (a - 1)=true) → ∀x∈aQ l H a,x.1≤l.length∧x.2=aE l H x.1∧(x.1=0∨gf l H (x.1 - 1)=true)
 | d,a,hd,ha,hb,x,hx=>by
  rw [aQ] at hx;rcases abi.1 hx with rfl|hx
  ·exact ⟨ha,rfl,hb⟩
  ·split at hx
   ·rename_i hlt;exact gm l H (d - 1) (aE l H a+1) (by omega) (by omega) (.inr (eC l H ha hlt.1)) x hx
   ·cases hx
 termination_by d=>d
 decreasing_by all_goals omega
def gq:List Pz→Nat
 | []=>0
 | .tx _ _ rs::t=>rs.length+gq t
 | .fo _::t=>1+gq t
theorem BM (l:List Int) (H:List Sn) : ∀(d a:Nat),l.length - a≤d→a≤l.length → ∀(i:Nat) x,(aQ l H a)[i]? = some x →
 (i=0→x.1=a)∧(∀(j:Nat) y,i=j+1→(aQ l H a)[j]? = some y→x.1=y.2+1)∧(i+1<(aQ l H a).length→x.2<l.length∧l[x.2]? = some 10)∧(i+1=(aQ l H a).length→x.2=l.length)
 | d,a,hd,ha,i,x,hx=>by
  have he:=bM l H ha;by_cases hlt:aE l H a<l.length
  ·have hsh:=eC l H ha hlt;have hL:aQ l H a=(a,aE l H a)::aQ l H (aE l H a+1):=by rw [aQ,acB ⟨hlt,he.1⟩]
   have ih:=BM l H (d - 1) (aE l H a+1) (by omega) (by omega);have hpos:0<(aQ l H (aE l H a+1)).length:=by rw [aQ];simp
   have h0 : ∃e,(aQ l H (aE l H a+1))[0]? = some (aE l H a+1,e):=by rw [aQ];exact ⟨_,rfl⟩
   rw [hL] at hx ⊢;cases i with
   | zero=>
    simp only [abq,aa5] at hx;subst hx;exact ⟨fun _=>rfl,fun j y h=>by omega,fun _=>⟨hlt,(fp.1 hsh).1⟩,fun h=>by rw [aa6] at h;omega⟩
   | succ i=>
    rw [abB] at hx;obtain ⟨q1,q2,q3,q4⟩:=ih i x hx;refine ⟨fun h=>by omega,fun j y h hy =>?_,fun h=>q3 (by rw [aa6] at h;omega),fun h=>q4 (by rw [aa6] at h;omega)⟩;obtain rfl:j=i:=by omega
    cases j with
    | zero=>
     simp only [abq,aa5] at hy;subst hy;exact q1 rfl
    | succ j=>
     rw [abB] at hy;exact q2 j y rfl hy
  ·have hL:aQ l H a=[(a,aE l H a)]:=by rw [aQ,acX (by omega)]
   rw [hL] at hx ⊢;cases i with
   | zero=>
    simp only [abq,aa5] at hx;subst hx;exact ⟨fun _=>rfl,fun j y h=>by omega,fun h=>by simp at h,fun _=>by show aE l H a=l.length;omega⟩
   | succ i=>simp at hx
 termination_by d=>d
 decreasing_by all_goals omega
end Go.Proofs.YtkkanlcjjpoklaaGreatDoor
