/- What the theorem leans on, part 26. -/
import Derived.Test.YtkhonlnajdfhfaaGreatDoorLtYPAY
set_option linter.unusedSimpArgs false
set_option linter.unusedVariables false
set_option maxRecDepth 8000
namespace Go.Proofs.YtkhonlnajdfhfaaGreatDoor
theorem iNew_all (n:Int) (l:List Iy) (hn:0≤n∧n≤1099511627776) (hl2:l.length≤60) (hs : ∀x∈l,x.2.2.2.2.size≤1000000000) (he:inlErr n [] l=0):OFn Tryz.prog G0 16 [iv n,.d (.sd 5 false (l.map iyD))] [] 0 (.tup [.d (inlD n (inlL (insA l))),iv 0]) []:=by
 by_cases h0:l=[]
 ·subst h0
  exact iNew_0 n hn
 ·obtain ⟨ys,⟨h1,h2⟩,hf⟩:=iNew_ex n l hn hl2 hs
  rw [newIV,if_pos he,ins_uniq he h1 h2] at hf
  have hlen:(insA l).length=l.length:=insA_len l.reverse l (by simp)
  have:inlL (insA l) = .sd 5 false ((insA l).map iyD):=by
   cases hi:insA l with
   | nil=>rw [hi] at hlen;exact (h0 (List.eq_nil_of_length_eq_zero hlen.symm)).elim
   | cons x r=>rfl
  rw [this]
  exact hf
def Kz:Pz→Prop
 | .tx k _ rs=>(k=1∨k=2)∧10∉rs
 | .fo _=>True
abbrev Qz (z:Pz):Prop:=OkZ z∧Kz z
theorem kz_add {acc:List Pz} {r:Int} {a:Nat} (h : ∀z∈acc,Kz z) (hr:r≠10) : ∀z∈addP acc r a,Kz z:=by
 have hn:Kz (.tx 1 a [r]):=⟨.inl rfl,by simp;exact fun e=>hr e.symm⟩
 rcases List.eq_nil_or_concat acc with rfl|⟨pre,z,rfl⟩
 ·intro z hz
  rw [show addP [] r a=[.tx 1 a [r]] from rfl,List.mem_singleton] at hz
  subst hz;exact hn
 ·rw [List.concat_eq_append] at h ⊢
  cases z with
  | tx k p rs=>
   have hz:=h (.tx k p rs) (by simp)
   rw [addP_tx]
   split
   ·intro y hy
    rcases List.mem_append.1 hy with hy|hy
    ·exact h y (by simp [hy])
    ·rw [List.mem_singleton.1 hy]
     exact ⟨.inl rfl,by simp;exact ⟨hz.2,fun e=>hr e.symm⟩⟩
   ·intro y hy
    rcases List.mem_append.1 hy with hy|hy
    ·exact h y hy
    ·rw [List.mem_singleton.1 hy];exact hn
  | fo p=>
   rw [addP_fo]
   intro y hy
   rcases List.mem_append.1 hy with hy|hy
   ·exact h y hy
   ·rw [List.mem_singleton.1 hy];exact hn
theorem kz_inl {L:List Iy} {a:Nat} (hL : ∀y∈L,10∉runesAt y.2.2.2.2 0) : ∀z∈inlP L a,Kz z:=by
 intro z hz
 obtain ⟨y,hy,rfl⟩:=List.mem_map.1 hz
 exact ⟨.inr rfl,hL y (List.mem_filter.1 hy).1⟩
theorem inlP_len (L:List Iy) (a:Nat):(inlP L a).length≤L.length:=by rw [inlP,List.length_map];exact List.length_filter_le _ _
theorem docA_all {l:List Int} {L:List Iy} {H:List Sn} (hll:l.length≤20000) (hr:rgt l.length 0 H=true) (hL : ∀y∈L,y.2.2.2.2.size≤1000000) (hL2 : ∀y∈L,10∉runesAt y.2.2.2.2 0) : ∀(d a:Nat) (acc:List Pz),l.length - a≤d→a≤l.length→(∀z∈acc,Qz z) →
 (∀z∈(docA l L H a acc).1,Qz z)∧(docA l L H a acc).1.length≤acc.length+(L.length+1)*(l.length - a+1)
 | d,a,acc,hd,ha,hacc=>by
  have hin : ∀z∈acc++inlP L a,Qz z:=fun z hz=>by
   rcases List.mem_append.1 hz with hz|hz
   ·exact hacc z hz
   ·exact ⟨okZ_inl hL (by omega) z hz,kz_inl hL2 z hz⟩
  have hil:=inlP_len L a
  by_cases h:a<l.length∧shB l H a=false
  ·obtain ⟨h1,h2⟩:=h
   obtain ⟨r,hr'⟩ : ∃r,l[a]? = some r:=⟨_,List.getElem?_eq_getElem h1⟩
   cases hx:hidO H a with
   | none=>
    have h10:r≠10:=fun e=>by
     have:shB l H a=true:=shB_iff.2 ⟨by rw [hr',e],hx⟩
     rw [h2] at this;cases this
    rw [docA_plain hr' h2 hx]
    obtain ⟨g1,g2⟩:=docA_all hll hr hL hL2 (d - 1) (a+1) _ (by omega) (by omega) (fun z hz=>⟨okZ_add (a:=a) (fun z hz=>(hin z hz).1) (by omega) z hz,kz_add (fun z hz=>(hin z hz).2) h10 z hz⟩)
    refine ⟨g1,Nat.le_trans g2 ?_⟩
    have:=addP_len (acc++inlP L a) r a
    rw [List.length_append] at this
    have e:l.length - a+1=(l.length - (a+1)+1)+1:=by omega
    rw [e,Nat.mul_succ (L.length+1) (l.length - (a+1)+1)]
    generalize (L.length+1)*(l.length - (a+1)+1)=P at *
    generalize (addP (acc++inlP L a) r a).length=Q at *
    omega
   | some x=>
    obtain ⟨g1,g2,g3⟩:=hidO_some hx
    have g4:=rgt_mem hr x g1
    obtain ⟨k,hk⟩ : ∃k:Nat,x.2=k:=⟨x.2.toNat,by omega⟩
    rw [docA_hid h1 h2 hx hk (by omega)]
    obtain ⟨q1,q2⟩:=docA_all hll hr hL hL2 (d - 1) k (acc++inlP L a++[.fo a]) (by omega) (by omega) (fun z hz=>by
     rcases List.mem_append.1 hz with hz|hz
     ·exact hin z hz
     ·rw [List.mem_singleton.1 hz];exact ⟨⟨by omega,by omega⟩,trivial⟩)
    refine ⟨q1,Nat.le_trans q2 ?_⟩
    have hla:(acc++inlP L a++[Pz.fo a]).length=acc.length+(inlP L a).length+1:=by simp;omega
    rw [hla]
    have hk2:k≤l.length:=by omega
    have hak:a<k:=by omega
    have e:l.length - a+1=(l.length - k+1)+(k - a):=by omega
    rw [e,Nat.mul_add (L.length+1) (l.length - k+1) (k - a)]
    have:L.length+1≤(L.length+1)*(k - a):=Nat.le_mul_of_pos_right _ (by omega)
    generalize (L.length+1)*(l.length - k+1)=P at *
    generalize (L.length+1)*(k - a)=Q at *
    have hil2:(inlP L a).length≤L.length:=inlP_len L a
    generalize (inlP L a).length=R at *
    omega
  ·rw [docA_end h]
   refine ⟨hin,?_⟩
   show (acc++inlP L a).length≤_
   rw [List.length_append]
   have:L.length+1≤(L.length+1)*(l.length - a+1):=Nat.le_mul_of_pos_right _ (by omega)
   omega
 termination_by d=>d
 decreasing_by all_goals omega
def visR (l:List Int) (H:List Sn):Nat→Nat→List Int
 | 0,_=>[]
 | d+1,a=>(if (hidO H a).isNone=true then l[a]?.toList else [])++visR l H d (a+1)
theorem visR_app (l:List Int) (H:List Sn) : ∀d e a:Nat,visR l H (d+e) a=visR l H d a++visR l H e (a+d)
 | 0,e,a=>by rw [Nat.zero_add,visR,List.nil_append,Nat.add_zero]
 | d+1,e,a=>by
  rw [Nat.add_right_comm,visR,visR,visR_app l H d e (a+1),List.append_assoc,show a+1+d=a+(d+1) by omega]
theorem visR_hid (l:List Int) (H:List Sn) : ∀d a:Nat,(∀k,a≤k→k<a+d→hidO H k≠none)→visR l H d a=[]
 | 0,a,_=>rfl
 | d+1,a,h=>by
  have h0:=h a (Nat.le_refl _) (by omega)
  rw [visR,visR_hid l H d (a+1) (fun k h1 h2=>h k (by omega) (by omega)),if_neg (by
   cases hx:hidO H a with
   | none=>exact (h0 hx).elim
   | some x=>simp)]
  rfl
theorem visR_one {l:List Int} {H:List Sn} {a:Nat} {r:Int} (hr:l[a]? = some r) (hx:hidO H a=none) (d:Nat):visR l H (d+1) a=r::visR l H d (a+1):=by
 rw [visR,hx,hr];rfl
theorem lines_beg (l:List Int) (H:List Sn) : ∀(d a:Nat),l.length - a≤d→a≤l.length→(a=0∨shB l H (a - 1)=true) → ∀x∈linesP l H a,x.1≤l.length∧x.2=endP l H x.1∧(x.1=0∨shB l H (x.1 - 1)=true)
 | d,a,hd,ha,hb,x,hx=>by
  rw [linesP] at hx
  rcases List.mem_cons.1 hx with rfl|hx
  ·exact ⟨ha,rfl,hb⟩
  ·split at hx
   ·rename_i hlt
    exact lines_beg l H (d - 1) (endP l H a+1) (by omega) (by omega) (.inr (endP_sh l H ha hlt.1)) x hx
   ·cases hx
 termination_by d=>d
 decreasing_by all_goals omega
end Go.Proofs.YtkhonlnajdfhfaaGreatDoor
