/- What the theorem leans on, part 26. -/
import Derived.Test.YtkkanlcjjpoklaaGreatDoorSpTPAY
set_option linter.unusedSimpArgs false
set_option linter.unusedVariables false
set_option maxRecDepth 8000
namespace Go.Proofs.YtkkanlcjjpoklaaGreatDoor
abbrev PH (ps:List Pz) (f t:Int):D:= .agg [.sd 3 false (ps.map nq),iD f,iD t]
def Kz:Pz→Prop
 | .tx k _ rs=>(k=1∨k=2)∧10∉rs
 | .fo _=>True
abbrev Qz (z:Pz):Prop:=Ka z∧Kz z
theorem Jl {acc:List Pz} {r:Int} {a:Nat} (h : ∀z∈acc,Kz z) (hr:r≠10) : ∀z∈fW acc r a,Kz z:=by
 have hn:Kz (.tx 1 a [r]):=⟨.inl rfl,by simp;exact fun e=>hr e.symm⟩
 rcases List.eq_nil_or_concat acc with rfl|⟨pre,z,rfl⟩
 ·intro z hz;rw [show fW [] r a=[.tx 1 a [r]] from rfl,List.mem_singleton] at hz;subst hz;exact hn
 ·rw [List.concat_eq_append] at h ⊢;cases z with
  | tx k p rs=>
   have hz:=h (.tx k p rs) (by simp);rw [nd];split
   ·intro y hy;rcases List.mem_append.1 hy with hy|hy
    ·exact h y (by simp [hy])
    ·rw [List.mem_singleton.1 hy];exact ⟨.inl rfl,by simp;exact ⟨hz.2,fun e=>hr e.symm⟩⟩
   ·intro y hy;rcases List.mem_append.1 hy with hy|hy
    ·exact h y hy
    ·rw [List.mem_singleton.1 hy];exact hn
  | fo p=>
   rw [nc];intro y hy;rcases List.mem_append.1 hy with hy|hy
   ·exact h y hy
   ·rw [List.mem_singleton.1 hy];exact hn
theorem Jm {L:List Iy} {a:Nat} (hL : ∀y∈L,10∉aa y.2.2.2.2 0) : ∀z∈bC L a,Kz z:=by
 intro z hz;obtain ⟨y,hy,rfl⟩:=List.mem_map.1 hz;exact ⟨.inr rfl,hL y (List.mem_filter.1 hy).1⟩
theorem uW (L:List Iy) (a:Nat):(bC L a).length≤L.length:=by rw [bC,List.length_map];exact List.length_filter_le _ _
theorem nZ {l:List Int} {L:List Iy} {H:List Sn} (hll:l.length≤20000) (hr:iZ l.length 0 H=true) (hL : ∀y∈L,y.2.2.2.2.size≤1000000) (hL2 : ∀y∈L,10∉aa y.2.2.2.2 0) : ∀(d a:Nat) (acc:List Pz),l.length - a≤d→a≤l.length→(∀z∈acc,Qz z) →
 (∀z∈(gb l L H a acc).1,Qz z)∧(gb l L H a acc).1.length≤acc.length+(L.length+1)*(l.length - a+1)
 | d,a,acc,hd,ha,hacc=>by
  have hin : ∀z∈acc++bC L a,Qz z:=fun z hz=>by
   rcases List.mem_append.1 hz with hz|hz
   ·exact hacc z hz
   ·exact ⟨GL hL (by omega) z hz,Jm hL2 z hz⟩
  have hil:=uW L a;by_cases h:a<l.length∧fS l H a=false
  ·obtain ⟨h1,h2⟩:=h;obtain ⟨r,hr'⟩ : ∃r,l[a]? = some r:=⟨_,List.getElem?_eq_getElem h1⟩
   cases hx:cN H a with
   | none=>
    have h10:r≠10:=fun e=>by
     have:fS l H a=true:=i2.2 ⟨by rw [hr',e],hx⟩;rw [h2] at this;cases this
    rw [gc hr' h2 hx];obtain ⟨g1,g2⟩:=nZ hll hr hL hL2 (d - 1) (a+1) _ (by omega) (by omega) (fun z hz=>⟨GK (a:=a) (fun z hz=>(hin z hz).1) (by omega) z hz,Jl (fun z hz=>(hin z hz).2) h10 z hz⟩);refine ⟨g1,Nat.le_trans g2 ?_⟩;have:=CE (acc++bC L a) r a;rw [List.length_append] at this;have e:l.length - a+1=(l.length - (a+1)+1)+1:=by omega
    rw [e,Nat.mul_succ (L.length+1) (l.length - (a+1)+1)];generalize (L.length+1)*(l.length - (a+1)+1)=P at *
    generalize (fW (acc++bC L a) r a).length=Q at *
    omega
   | some x=>
    obtain ⟨g1,g2,g3⟩:=dx hx;have g4:=ct hr x g1;obtain ⟨k,hk⟩ : ∃k:Nat,x.2=k:=⟨x.2.toNat,by omega⟩
    rw [gY h1 h2 hx hk (by omega)];obtain ⟨q1,q2⟩:=nZ hll hr hL hL2 (d - 1) k (acc++bC L a++[.fo a]) (by omega) (by omega) (fun z hz=>by
     rcases List.mem_append.1 hz with hz|hz
     ·exact hin z hz
     ·rw [List.mem_singleton.1 hz];exact ⟨⟨by omega,by omega⟩,trivial⟩)
    refine ⟨q1,Nat.le_trans q2 ?_⟩;have hla:(acc++bC L a++[Pz.fo a]).length=acc.length+(bC L a).length+1:=by simp;omega
    rw [hla];have hk2:k≤l.length:=by omega
    have hak:a<k:=by omega
    have e:l.length - a+1=(l.length - k+1)+(k - a):=by omega
    rw [e,Nat.mul_add (L.length+1) (l.length - k+1) (k - a)];have:L.length+1≤(L.length+1)*(k - a):=Nat.le_mul_of_pos_right _ (by omega);generalize (L.length+1)*(l.length - k+1)=P at *
    generalize (L.length+1)*(k - a)=Q at *
    have hil2:(bC L a).length≤L.length:=uW L a;generalize (bC L a).length=R at *
    omega
  ·rw [fz h];refine ⟨hin,?_⟩;show (acc++bC L a).length≤_;rw [List.length_append];have:L.length+1≤(L.length+1)*(l.length - a+1):=Nat.le_mul_of_pos_right _ (by omega);omega
 termination_by d=>d
 decreasing_by all_goals omega
def kV (l:List Int) (H:List Sn):Nat→Nat→List Int
 | 0,_=>[]
 | d+1,a=>(if (cN H a).isNone=true then l[a]?.toList else [])++kV l H d (a+1)
theorem w7 (l:List Int) (H:List Sn) : ∀d e a:Nat,kV l H (d+e) a=kV l H d a++kV l H e (a+d)
 | 0,e,a=>by rw [Nat.zero_add,kV,List.nil_append,Nat.add_zero]
 | d+1,e,a=>by
  rw [Nat.add_right_comm,kV,kV,w7 l H d e (a+1),List.append_assoc,show a+1+d=a+(d+1) by omega]
theorem w8 (l:List Int) (H:List Sn) : ∀d a:Nat,(∀k,a≤k→k<a+d→cN H k≠none)→kV l H d a=[]
 | 0,a,_=>rfl
 | d+1,a,h=>by
  have h0:=h a (Nat.le_refl _) (by omega);rw [kV,w8 l H d (a+1) (fun k h1 h2=>h k (by omega) (by omega)),if_neg (by
   cases hx:cN H a with
   | none=>exact (h0 hx).elim
   | some x=>simp)]
  rfl
theorem E0 {l:List Int} {H:List Sn} {a:Nat} {r:Int} (hr:l[a]? = some r) (hx:cN H a=none) (d:Nat):kV l H (d+1) a=r::kV l H d (a+1):=by
 rw [kV,hx,hr];rfl
theorem lE (l:List Int) (H:List Sn) : ∀(d a:Nat),l.length - a≤d→a≤l.length→(a=0∨fS l H (a - 1)=true) → ∀x∈bG l H a,x.1≤l.length∧x.2=aQ l H x.1∧(x.1=0∨fS l H (x.1 - 1)=true)
 | d,a,hd,ha,hb,x,hx=>by
  rw [bG] at hx;rcases List.mem_cons.1 hx with rfl|hx
  ·exact ⟨ha,rfl,hb⟩
  ·split at hx
   ·rename_i hlt;exact lE l H (d - 1) (aQ l H a+1) (by omega) (by omega) (.inr (ge l H ha hlt.1)) x hx
   ·cases hx
 termination_by d=>d
 decreasing_by all_goals omega
def jM:List Pz→Nat
 | []=>0
 | .tx _ _ rs::t=>rs.length+jM t
 | .fo _::t=>1+jM t
end Go.Proofs.YtkkanlcjjpoklaaGreatDoor
