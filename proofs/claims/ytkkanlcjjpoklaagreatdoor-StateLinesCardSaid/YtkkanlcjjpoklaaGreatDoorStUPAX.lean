/- What the theorem leans on, part 24. -/
import Derived.Test.YtkkanlcjjpoklaaGreatDoorStUPAW
set_option linter.unusedSimpArgs false
set_option linter.unusedVariables false
set_option maxRecDepth 8000
namespace Go.Proofs.YtkkanlcjjpoklaaGreatDoor
abbrev QH (ps:List Pz) (f t:Int):D:= .agg [.sd 3 false (ps.map fF),iD f,iD t]
theorem Jf (n:Int) (l:List Iy) (hn:0≤n∧n≤1099511627776) (hl2:l.length≤60) (hs : ∀x∈l,x.2.2.2.2.size≤1000000000) (he:bW n [] l=0):an Tryz.prog G0 23 [iv n,.d (.sd 5 false (l.map cS))] [] 0 (.tup [.d (cg n (bO (aS l))),iv 0]) []:=by
 by_cases h0:l=[]
 ·subst h0;exact Pi n hn
 ·obtain ⟨ys,⟨h1,h2⟩,hf⟩:=Ml n l hn hl2 hs;rw [Ad,if_pos he,Jn he h1 h2] at hf;have hlen:(aS l).length=l.length:=jE l.reverse l (by simp);have:bO (aS l) = .sd 5 false ((aS l).map cS):=by
   cases hi:aS l with
   | nil=>rw [hi] at hlen;exact (h0 (List.eq_nil_of_length_eq_zero hlen.symm)).elim
   | cons x r=>rfl
  rw [this];exact hf
def Kz:Pz→Prop
 | .tx k _ rs=>(k=1∨k=2)∧10∉rs
 | .fo _=>True
abbrev Qz (z:Pz):Prop:=Lk z∧Kz z
theorem Pv {acc:List Pz} {r:Int} {a:Nat} (h : ∀z∈acc,Kz z) (hr:r≠10) : ∀z∈e8 acc r a,Kz z:=by
 have hn:Kz (.tx 1 a [r]):=⟨.inl rfl,by simp;exact fun e=>hr e.symm⟩
 rcases List.eq_nil_or_concat acc with rfl|⟨pre,z,rfl⟩
 ·intro z hz;rw [show e8 [] r a=[.tx 1 a [r]] from rfl,List.mem_singleton] at hz;subst hz;exact hn
 ·rw [List.concat_eq_append] at h ⊢;cases z with
  | tx k p rs=>
   have hz:=h (.tx k p rs) (by simp);rw [iy];split
   ·intro y hy;rcases List.mem_append.1 hy with hy|hy
    ·exact h y (by simp [hy])
    ·rw [List.mem_singleton.1 hy];exact ⟨.inl rfl,by simp;exact ⟨hz.2,fun e=>hr e.symm⟩⟩
   ·intro y hy;rcases List.mem_append.1 hy with hy|hy
    ·exact h y hy
    ·rw [List.mem_singleton.1 hy];exact hn
  | fo p=>
   rw [lY];intro y hy;rcases List.mem_append.1 hy with hy|hy
   ·exact h y hy
   ·rw [List.mem_singleton.1 hy];exact hn
theorem Pw {L:List Iy} {a:Nat} (hL : ∀y∈L,10∉aa y.2.2.2.2 0) : ∀z∈b5 L a,Kz z:=by
 intro z hz;obtain ⟨y,hy,rfl⟩:=List.mem_map.1 hz;exact ⟨.inr rfl,hL y (List.mem_filter.1 hy).1⟩
theorem zF (L:List Iy) (a:Nat):(b5 L a).length≤L.length:=by rw [b5,List.length_map];exact List.length_filter_le _ _
theorem qT {l:List Int} {L:List Iy} {H:List Sn} (hll:l.length≤20000) (hr:jp l.length 0 H=true) (hL : ∀y∈L,y.2.2.2.2.size≤1000000) (hL2 : ∀y∈L,10∉aa y.2.2.2.2 0) : ∀(d a:Nat) (acc:List Pz),l.length - a≤d→a≤l.length→(∀z∈acc,Qz z) →
 (∀z∈(fQ l L H a acc).1,Qz z)∧(fQ l L H a acc).1.length≤acc.length+(L.length+1)*(l.length - a+1)
 | d,a,acc,hd,ha,hacc=>by
  have hin : ∀z∈acc++b5 L a,Qz z:=fun z hz=>by
   rcases List.mem_append.1 hz with hz|hz
   ·exact hacc z hz
   ·exact ⟨Ex hL (by omega) z hz,Pw hL2 z hz⟩
  have hil:=zF L a;by_cases h:a<l.length∧eY l H a=false
  ·obtain ⟨h1,h2⟩:=h;obtain ⟨r,hr'⟩ : ∃r,l[a]? = some r:=⟨_,List.getElem?_eq_getElem h1⟩
   cases hx:cf H a with
   | none=>
    have h10:r≠10:=fun e=>by
     have:eY l H a=true:=i3.2 ⟨by rw [hr',e],hx⟩;rw [h2] at this;cases this
    rw [fS hr' h2 hx];obtain ⟨g1,g2⟩:=qT hll hr hL hL2 (d - 1) (a+1) _ (by omega) (by omega) (fun z hz=>⟨Ew (a:=a) (fun z hz=>(hin z hz).1) (by omega) z hz,Pv (fun z hz=>(hin z hz).2) h10 z hz⟩);refine ⟨g1,Nat.le_trans g2 ?_⟩;have:=yN (acc++b5 L a) r a;rw [List.length_append] at this;have e:l.length - a+1=(l.length - (a+1)+1)+1:=by omega
    rw [e,Nat.mul_succ (L.length+1) (l.length - (a+1)+1)];generalize (L.length+1)*(l.length - (a+1)+1)=P at *
    generalize (e8 (acc++b5 L a) r a).length=Q at *
    omega
   | some x=>
    obtain ⟨g1,g2,g3⟩:=di hx;have g4:=cW hr x g1;obtain ⟨k,hk⟩ : ∃k:Nat,x.2=k:=⟨x.2.toNat,by omega⟩
    rw [gY h1 h2 hx hk (by omega)];obtain ⟨q1,q2⟩:=qT hll hr hL hL2 (d - 1) k (acc++b5 L a++[.fo a]) (by omega) (by omega) (fun z hz=>by
     rcases List.mem_append.1 hz with hz|hz
     ·exact hin z hz
     ·rw [List.mem_singleton.1 hz];exact ⟨⟨by omega,by omega⟩,trivial⟩)
    refine ⟨q1,Nat.le_trans q2 ?_⟩;have hla:(acc++b5 L a++[Pz.fo a]).length=acc.length+(b5 L a).length+1:=by simp;omega
    rw [hla];have hk2:k≤l.length:=by omega
    have hak:a<k:=by omega
    have e:l.length - a+1=(l.length - k+1)+(k - a):=by omega
    rw [e,Nat.mul_add (L.length+1) (l.length - k+1) (k - a)];have:L.length+1≤(L.length+1)*(k - a):=Nat.le_mul_of_pos_right _ (by omega);generalize (L.length+1)*(l.length - k+1)=P at *
    generalize (L.length+1)*(k - a)=Q at *
    have hil2:(b5 L a).length≤L.length:=zF L a;generalize (b5 L a).length=R at *
    omega
  ·rw [fR h];refine ⟨hin,?_⟩;show (acc++b5 L a).length≤_;rw [List.length_append];have:L.length+1≤(L.length+1)*(l.length - a+1):=Nat.le_mul_of_pos_right _ (by omega);omega
 termination_by d=>d
 decreasing_by all_goals omega
def nh (l:List Int) (H:List Sn):Nat→Nat→List Int
 | 0,_=>[]
 | d+1,a=>(if (cf H a).isNone=true then l[a]?.toList else [])++nh l H d (a+1)
theorem Bx (l:List Int) (H:List Sn) : ∀d e a:Nat,nh l H (d+e) a=nh l H d a++nh l H e (a+d)
 | 0,e,a=>by rw [Nat.zero_add,nh,List.nil_append,Nat.add_zero]
 | d+1,e,a=>by
  rw [Nat.add_right_comm,nh,nh,Bx l H d e (a+1),List.append_assoc,show a+1+d=a+(d+1) by omega]
theorem By (l:List Int) (H:List Sn) : ∀d a:Nat,(∀k,a≤k→k<a+d→cf H k≠none)→nh l H d a=[]
 | 0,a,_=>rfl
 | d+1,a,h=>by
  have h0:=h a (Nat.le_refl _) (by omega);rw [nh,By l H d (a+1) (fun k h1 h2=>h k (by omega) (by omega)),if_neg (by
   cases hx:cf H a with
   | none=>exact (h0 hx).elim
   | some x=>simp)]
  rfl
theorem K3 {l:List Int} {H:List Sn} {a:Nat} {r:Int} (hr:l[a]? = some r) (hx:cf H a=none) (d:Nat):nh l H (d+1) a=r::nh l H d (a+1):=by
 rw [nh,hx,hr];rfl
theorem fE (l:List Int) (H:List Sn) : ∀(d a:Nat),l.length - a≤d→a≤l.length→(a=0∨eY l H (a - 1)=true) → ∀x∈aW l H a,x.1≤l.length∧x.2=aF l H x.1∧(x.1=0∨eY l H (x.1 - 1)=true)
 | d,a,hd,ha,hb,x,hx=>by
  rw [aW] at hx;rcases List.mem_cons.1 hx with rfl|hx
  ·exact ⟨ha,rfl,hb⟩
  ·split at hx
   ·rename_i hlt;exact fE l H (d - 1) (aF l H a+1) (by omega) (by omega) (.inr (gu l H ha hlt.1)) x hx
   ·cases hx
 termination_by d=>d
 decreasing_by all_goals omega
def i8:List Pz→Nat
 | []=>0
 | .tx _ _ rs::t=>rs.length+i8 t
 | .fo _::t=>1+i8 t
end Go.Proofs.YtkkanlcjjpoklaaGreatDoor
