/- What the theorem leans on, part 21. -/
import Derived.Test.YtihghiojmhegoaaGreatDoorLtUPAT
set_option linter.unusedSimpArgs false
set_option linter.unusedVariables false
set_option maxRecDepth 8000
namespace Go.Proofs.YtihghiojmhegoaaGreatDoor
def addP (l:List Pz) (r:Int) (a:Nat):List Pz:=
  match l.getLast? with
  | some (.tx k p rs)=>if k=1∧p+rs.length=a then l.dropLast++[.tx 1 p (rs++[r])] else l++[.tx 1 a [r]]
  | _=>l++[.tx 1 a [r]]
def inlP (L:List Iy) (a:Nat):List Pz:=(inWi L a a).map fun y=> .tx 2 a (runesAt y.2.2.2.2 0)
def docA (l:List Int) (L:List Iy) (H:List Sn) (a:Nat) (acc:List Pz):List Pz × Nat:=
  if h:a<l.length∧shB l H a=false then
    match hidO H a with
    | some x=>if h2:a<x.2.toNat then docA l L H x.2.toNat (acc++inlP L a++[.fo a]) else (acc++inlP L a,a)
    | none=>docA l L H (a+1) (addP (acc++inlP L a) (l[a]'h.1) a)
  else (acc++inlP L a,a)
termination_by l.length - a
theorem docA_end {l:List Int} {L:List Iy} {H:List Sn} {a:Nat} {acc:List Pz} (h : ¬(a<l.length∧shB l H a=false)):docA l L H a acc=(acc++inlP L a,a):=by rw [docA,dif_neg h]
theorem docA_hid {l:List Int} {L:List Iy} {H:List Sn} {a k:Nat} {acc:List Pz} {x:Sn} (h:a<l.length) (hs:shB l H a=false) (hx:hidO H a=some x) (hk:x.2=k) (hak:a<k):docA l L H a acc=docA l L H k (acc++inlP L a++[.fo a]):=by
  rw [docA,dif_pos ⟨h,hs⟩]
  simp only [hx]
  rw [hk,Int.toNat_natCast,dif_pos hak]
theorem docA_plain {l:List Int} {L:List Iy} {H:List Sn} {a:Nat} {acc:List Pz} {r:Int} (hr:l[a]? = some r) (hs:shB l H a=false) (hx:hidO H a=none):docA l L H a acc=docA l L H (a+1) (addP (acc++inlP L a) r a):=by
  obtain ⟨h,rfl⟩:=List.getElem?_eq_some_iff.1 hr
  rw [docA,dif_pos ⟨h,hs⟩]
  simp only [hx]
def NoE (acc:List Pz) (a:Nat):Prop:= ∀p rs,acc.getLast? = some (.tx 1 p rs)→p+rs.length≠a
def openP (l:List Int) (acc:List Pz) (c a:Nat):List Pz:=if c<a then acc++[.tx 1 c (cutR l c a)] else acc
theorem cutR_len (l:List Int) {a b:Nat} (h:b≤l.length):(cutR l a b).length=b - a:=by simp [cutR];omega
theorem cutR_snoc {l:List Int} {a b:Nat} {r:Int} (h:a≤b) (hr:l[b]? = some r):cutR l a (b+1)=cutR l a b++[r]:=by
  have hb:=(List.getElem?_eq_some_iff.1 hr).1
  unfold cutR
  rw [take_snoc' hr,List.drop_append_of_le_length (by rw [List.length_take];omega)]
theorem cutR_self (l:List Int) (a:Nat):cutR l a a=[]:=by
  unfold cutR
  rw [List.drop_eq_nil_of_le]
  rw [List.length_take];omega
theorem addP_no {acc:List Pz} {r:Int} {a:Nat} (h:NoE acc a):addP acc r a=acc++[.tx 1 a [r]]:=by
  unfold addP
  split
  · rename_i k p rs hg
    split
    · rename_i hk
      obtain ⟨rfl,h2⟩:=hk
      exact (h p rs hg h2).elim
    · rfl
  · rfl
theorem addP_open {l:List Int} {acc:List Pz} {c a:Nat} {r:Int} (hca:c≤a) (hr:l[a]? = some r) (hn:c=a→NoE acc a):addP (openP l acc c a) r a=openP l acc c (a+1):=by
  have hb:=(List.getElem?_eq_some_iff.1 hr).1
  rw [openP,openP,if_pos (show c<a+1 by omega),cutR_snoc hca hr]
  by_cases hc:c<a
  · rw [if_pos hc,addP]
    simp only [List.getLast?_append,List.getLast?_singleton,Option.some_or]
    rw [if_pos ⟨by trivial,by rw [cutR_len l (by omega)];omega⟩,List.dropLast_concat]
  · obtain rfl:c=a:=by omega
    rw [if_neg hc,addP_no (hn rfl),cutR_self,List.nil_append]
def SoI (L:List Iy):Prop:=L.Pairwise fun x y=>x.2.1≤y.2.1
theorem inWi_split {L:List Iy} (h:SoI L) (a b:Int) (hab:a<b):inWi L a b=inWi L a a++inWi L (a+1) b:=by
  induction L with
  | nil=>rfl
  | cons x r ih=>
    have h1:=(List.pairwise_cons.1 h).1
    have h2:=ih (List.pairwise_cons.1 h).2
    simp only [inWi] at h2 ⊢
    by_cases q1:x.2.1<a
    · rw [List.filter_cons_of_neg (by simp;omega),List.filter_cons_of_neg (by simp;omega),List.filter_cons_of_neg (by simp;omega),h2]
    · by_cases q2:x.2.1=a
      · rw [List.filter_cons_of_pos (by simp;omega),List.filter_cons_of_pos (by simp;omega),List.filter_cons_of_neg (by simp;omega),h2,List.cons_append]
      · have e1:r.filter (fun x=> !(decide (x.2.1<a)||decide (a<x.2.1)))=[]:=List.filter_eq_nil_iff.2 fun y hy=>by
          have:=h1 y hy
          simp;omega
        rw [e1] at h2
        by_cases q3:b<x.2.1
        · rw [List.filter_cons_of_neg (by simp;omega),List.filter_cons_of_neg (by simp;omega),List.filter_cons_of_neg (by simp;omega),e1,h2]
        · rw [List.filter_cons_of_pos (by simp;omega),List.filter_cons_of_neg (by simp;omega),List.filter_cons_of_pos (by simp;omega),e1,h2];rfl
theorem showP_here (l:List Int) (b c a:Nat) (hca:c≤a) : ∀(M R:List Iy),(∀y∈M,y.2.1=a)→M≠[]→showP l b c (M++R)=openP l [] c a++(M.map fun y=> .tx 2 a (runesAt y.2.2.2.2 0))++showP l b a R
  | [],R,_,hne=>(hne rfl).elim
  | y::M,R,h,_=>by
    have hy:=h y (by simp)
    rw [List.cons_append,showP,hy,Int.toNat_natCast,show max c a=a by omega,openP]
    have ht:showP l b a (M++R)=(M.map fun y=>Pz.tx 2 a (runesAt y.2.2.2.2 0))++showP l b a R:=by
      by_cases hm:M=[]
      · subst hm;rfl
      · rw [showP_here l b a a (Nat.le_refl _) M R (fun z hz=>h z (by simp [hz])) hm,openP,if_neg (by omega),List.nil_append]
    rw [ht]
    split<;>simp
theorem NoE_inl {acc:List Pz} {L:List Iy} {a:Nat} (h:inlP L a≠[]) (b:Nat):NoE (acc++inlP L a) b:=by
  intro p rs hg
  rw [List.getLast?_append] at hg
  unfold inlP at h hg
  rw [List.getLast?_map] at hg
  cases hl:(inWi L a a).getLast? with
  | none=>exact (h (by rw [List.getLast?_eq_none_iff.1 hl];rfl)).elim
  | some y=>rw [hl] at hg;simp at hg
theorem docA_run {l:List Int} {L:List Iy} {H:List Sn} (hL:SoI L) (b:Nat) (hb:b≤l.length) : ∀(d a c:Nat) (acc:List Pz),b - a=d→c≤a→a≤b→(c=a→NoE acc a)→(∀k,a≤k→k<b→shB l H k=false∧hidO H k=none) →
    ∃acc',docA l L H a (openP l acc c a)=docA l L H b acc'∧acc'++inlP L b=acc++showP l b c (inWi L a b)
  | 0,a,c,acc,hd,hca,hab,hn,hk=>by
    obtain rfl:a=b:=by omega
    refine ⟨_,rfl,?_⟩
    by_cases hm:inWi L a a=[]
    · rw [inlP,hm,List.map_nil,List.append_nil,showP,openP]
      split<;>simp
    · have:=showP_here l a c a hca (inWi L a a) [] (fun y hy=>by have:=(List.mem_filter.1 hy).2;simp at this;omega) hm
      rw [List.append_nil] at this
      rw [this,showP,if_neg (by omega),List.append_nil,openP,openP,inlP]
      split<;>simp
  | d+1,a,c,acc,hd,hca,hab,hn,hk=>by
    obtain ⟨h1,h2⟩:=hk a (Nat.le_refl _) (by omega)
    obtain ⟨r,hr⟩ : ∃r,l[a]? = some r:=⟨_,List.getElem?_eq_getElem (by omega)⟩
    rw [docA_plain hr h1 h2]
    have hsp:=inWi_split hL a b (by omega)
    have ec:((a+1:Nat):Int)=(a:Int)+1:=by omega
    by_cases hm:inWi L a a=[]
    · have e:inlP L a=[]:=by rw [inlP,hm];rfl
      rw [e,List.append_nil,addP_open hca hr hn]
      obtain ⟨acc',g1,g2⟩:=docA_run hL b hb d (a+1) c acc (by omega) (by omega) (by omega) (fun h=>by omega) (fun k q1 q2=>hk k (by omega) q2)
      refine ⟨acc',g1,?_⟩
      rw [g2,hsp,hm,List.nil_append,ec]
    · have hne:inlP L a≠[]:=by rw [inlP];simpa using hm
      have h3:=addP_open (l:=l) (acc:=openP l acc c a++inlP L a) (c:=a) (a:=a) (Nat.le_refl _) hr (fun _=>NoE_inl hne a)
      rw [openP,if_neg (by omega)] at h3
      rw [h3]
      obtain ⟨acc',g1,g2⟩:=docA_run hL b hb d (a+1) a (openP l acc c a++inlP L a) (by omega) (by omega) (by omega) (fun h=>by omega) (fun k q1 q2=>hk k (by omega) q2)
      refine ⟨acc',g1,?_⟩
      rw [g2,hsp,showP_here l b c a hca _ _ (fun y hy=>by have:=(List.mem_filter.1 hy).2;simp at this;omega) hm,ec,openP,openP,inlP]
      split<;>simp
theorem docA_line {l:List Int} {L:List Iy} (hL:SoI L) (H0:List Sn) {e:Nat} (he:e≤l.length) : ∀(H pre:List Sn) (a:Nat) (acc:List Pz) (last:Int),H0=pre++H→rgt l.length 0 H0=true→rgt l.length last H=true→(∀x∈pre,x.2≤a)→last≤a→a≤e→endP l H0 a=e→NoE acc a→(∀x∈H,x.1<a→x.2≤a) →
    docA l L H0 a acc=(acc++runP l L e a H,e)
  | [],pre,a,acc,last,e0,hr,_,hp,hla,hae,hend,hn,hin=>by
    have hk : ∀k,a≤k→k<e→shB l H0 k=false∧hidO H0 k=none:=fun k q1 q2=>by
      refine ⟨endP_no l H0 (by omega) q1 (by omega),?_⟩
      cases hx:hidO H0 k with
      | none=>rfl
      | some x=>
        obtain ⟨g1,g2,g3⟩:=hidO_some hx
        rw [e0,List.append_nil] at g1
        have:=hp x g1
        omega
    obtain ⟨acc',g1,g2⟩:=docA_run hL e he (e - a) a a acc rfl (Nat.le_refl _) hae (fun _=>hn) hk
    rw [openP,if_neg (by omega)] at g1
    rw [g1,docA_end,g2]
    · rfl
    · rintro ⟨q1,q2⟩
      have:=endP_sh l H0 (i:=a) (by omega) (by omega)
      rw [hend,q2] at this
      cases this
  | x::H,pre,a,acc,last,e0,hr,hr2,hp,hla,hae,hend,hn,hin=>by
    have hxin:=hin x (by simp)
    obtain ⟨⟨q1,q2,q3⟩,q4⟩:=rgt_cons.1 hr2
    have hxm:x∈H0:=by rw [e0];simp
    have hx0:=rgt_mem hr x hxm
    by_cases hc:x.1<a∨(e:Int)<x.2
    · rw [runP,if_pos hc]
      by_cases hxa:x.2≤a
      · exact docA_line hL H0 he H (pre++[x]) a acc x.2 (by rw [e0];simp) hr q4 (fun y hy=>by
          rcases List.mem_append.1 hy with hy|hy
          · exact hp y hy
          · rw [List.mem_singleton.1 hy];exact hxa) hxa hae hend hn (fun y hy=>hin y (by simp [hy]))
      ·
        have hxe:(e:Int)<x.1:=by
          rcases Int.lt_or_le (e:Int) x.1 with h|h
          · exact h
          exfalso
          rcases hc with hc|hc
          · omega
          · by_cases hel:e<l.length
            · have h1:=endP_sh l H0 (i:=a) (by omega) (by omega)
              rw [hend,shB_hid hr hxm h hc] at h1
              cases h1
            · omega
        have hrun : ∀(K:List Sn) (lst:Int),rgt l.length lst K=true→(e:Int)<lst→runP l L e a K=showP l e a (inWi L a e):=by
          intro K
          induction K with
          | nil=>intro lst _ _;rfl
          | cons y K ih=>
            intro lst h1 h2
            obtain ⟨⟨k1,k2,k3⟩,k4⟩:=rgt_cons.1 h1
            rw [runP,if_pos (.inr (by omega))]
            exact ih y.2 k4 (by omega)
        rw [hrun H x.2 q4 (by omega)]
        have hk : ∀k,a≤k→k<e→shB l H0 k=false∧hidO H0 k=none:=fun k r1 r2=>by
          refine ⟨endP_no l H0 (by omega) r1 (by omega),?_⟩
          cases hy:hidO H0 k with
          | none=>rfl
          | some y=>
            obtain ⟨g1,g2,g3⟩:=hidO_some hy
            rw [e0] at g1
            rcases List.mem_append.1 g1 with g1|g1
            · have:=hp y g1;omega
            · rcases List.mem_cons.1 g1 with rfl|g1
              · omega
              · have:=rgt_mem q4 y g1;omega
        obtain ⟨acc',g1,g2⟩:=docA_run hL e he (e - a) a a acc rfl (Nat.le_refl _) hae (fun _=>hn) hk
        rw [openP,if_neg (by omega)] at g1
        rw [g1,docA_end,g2]
        rintro ⟨r1,r2⟩
        have:=endP_sh l H0 (i:=a) (by omega) (by omega)
        rw [hend,r2] at this
        cases this
    · rw [runP,if_neg hc]
      obtain ⟨j,hj⟩ : ∃j:Nat,x.1=j:=⟨x.1.toNat,by omega⟩
      obtain ⟨m,hm⟩ : ∃m:Nat,x.2=m:=⟨x.2.toNat,by omega⟩
      rw [hj,hm,Int.toNat_natCast,Int.toNat_natCast]
      have hk : ∀k,a≤k→k<j→shB l H0 k=false∧hidO H0 k=none:=fun k r1 r2=>by
        refine ⟨endP_no l H0 (by omega) r1 (by omega),?_⟩
        cases hy:hidO H0 k with
        | none=>rfl
        | some y=>
          obtain ⟨g1,g2,g3⟩:=hidO_some hy
          rw [e0] at g1
          rcases List.mem_append.1 g1 with g1|g1
          · have:=hp y g1;omega
          · rcases List.mem_cons.1 g1 with rfl|g1
            · omega
            · have:=rgt_mem q4 y g1;omega
      obtain ⟨acc',g1,g2⟩:=docA_run hL j (by omega) (j - a) a a acc rfl (Nat.le_refl _) (by omega) (fun _=>hn) hk
      rw [openP,if_neg (by omega)] at g1
      have hx:hidO H0 (j:Nat)=some x:=hidO_is hr x hxm _ (by omega) (by omega)
      have hend2:endP l H0 m=e:=by
        rw [←hend]
        have e1:endP l H0 a=endP l H0 j:=seekUp_to _ _ _ _ (by omega) (by omega) fun k r1 r2=>(hk k r1 r2).1
        rw [e1]
        exact (seekUp_to _ _ _ _ (by omega) (by omega) fun k r1 r2=>shB_hid hr hxm (by omega) (by omega)).symm
      rw [g1,docA_hid (by omega) (shB_hid hr hxm (by omega) (by omega)) hx hm (by omega),g2,
        docA_line hL H0 he H (pre++[x]) m _ x.2 (by rw [e0];simp) hr q4 (fun y hy=>by
          rcases List.mem_append.1 hy with hy|hy
          · have:=hp y hy;omega
          · rw [List.mem_singleton.1 hy];omega) (by omega) (by omega) hend2 (fun p rs hg=>by simp at hg) (fun y hy h=>by have:=rgt_mem q4 y hy;omega)]
      simp
theorem docA_is {l:List Int} {L:List Iy} {H:List Sn} (hL:SoI L) (hr:rgt l.length 0 H=true) {a:Nat} (ha:a≤l.length) (hin : ∀x∈H,x.1<a→x.2≤a):docA l L H a []=(runP l L (endP l H a) a H,endP l H a):=by
  have he:=endP_in l H ha
  have:=docA_line hL H he.2 H [] a [] 0 rfl hr hr (fun _ h=>by cases h) (by omega) he.1 rfl (fun p rs h=>by cases h) hin
  rwa [List.nil_append] at this
theorem beg_in {l:List Int} {H:List Sn} {a:Nat} (h:a=0∨shB l H (a - 1)=true) (hr:rgt l.length 0 H=true) : ∀x∈H,x.1<a→x.2≤a:=by
  intro x hx hlt
  have h0:=rgt_mem hr x hx
  rcases h with rfl|h
  · omega
  · have h1:=hidO_none (shB_iff.1 h).2 x hx
    omega
abbrev dtV (l:List Int) (n:Int) (L:List Iy) (H:List Sn):V:= .d (.agg [.sd 1 false (l.map ruD),iD n,.sd 5 false (L.map iyD),iD 0,.sd 2 false (H.map snD)])
abbrev dtC (l:List Int) (n:Int) (L:List Iy) (H:List Sn):Blk:= .cell [ruL l,iv n,.d (.sd 5 false (L.map iyD)),iv 0,.d (.sd 2 false (H.map snD))]
section
variable (l:List Int) (n:Int) (L:List Iy) (H:List Sn)
theorem snoc_iy (es:List Iy) (x:Iy):es.map iyD++[iyD x]=(es++[x]).map iyD:=by rw [List.map_append];rfl
end
section
variable (l:List Int) (n:Int) (L:List Iy) (H:List Sn)
end
def OkZ:Pz→Prop
  | .tx _ p rs=>0≤p∧p≤1000000∧rs.length≤1000000
  | .fo p=>0≤p∧p≤1000000
theorem addP_tx {pre:List Pz} {k p:Int} {rs:List Int} {r:Int} {a:Nat} : addP (pre++[.tx k p rs]) r a=if k=1∧p+rs.length=a then pre++[.tx 1 p (rs++[r])] else pre++[.tx k p rs]++[.tx 1 a [r]]:=by
  unfold addP
  simp only [List.getLast?_append,List.getLast?_singleton,Option.some_or,List.dropLast_concat]
theorem addP_fo {pre:List Pz} {p:Int} {r:Int} {a:Nat} : addP (pre++[.fo p]) r a=pre++[.fo p]++[.tx 1 a [r]]:=by
  unfold addP
  simp only [List.getLast?_append,List.getLast?_singleton,Option.some_or]
theorem okZ_inl {L:List Iy} {a:Nat} (hL : ∀y∈L,y.2.2.2.2.size≤1000000) (ha:a≤1000000) : ∀z∈inlP L a,OkZ z:=by
  intro z hz
  obtain ⟨y,hy,rfl⟩:=List.mem_map.1 hz
  have h1:=hL y (List.mem_filter.1 hy).1
  have h2:=runesAt_len y.2.2.2.2 _ 0 (Nat.le_refl _)
  exact ⟨by omega,by omega,by omega⟩
theorem okZ_add {acc:List Pz} {r:Int} {a:Nat} (h : ∀z∈acc,OkZ z) (ha:a<20000) : ∀z∈addP acc r a,OkZ z:=by
  rcases List.eq_nil_or_concat acc with rfl|⟨pre,z,rfl⟩
  · intro z hz
    rw [show addP [] r a=[.tx 1 a [r]] from rfl,List.mem_singleton] at hz
    subst hz
    exact ⟨by omega,by omega,by simp⟩
  · rw [List.concat_eq_append] at h ⊢
    have hn:OkZ (.tx 1 a [r]):=⟨by omega,by omega,by simp⟩
    cases z with
    | tx k p rs=>
      have hz:=h (.tx k p rs) (by simp)
      rw [addP_tx]
      split
      · rename_i hc
        intro y hy
        rcases List.mem_append.1 hy with hy|hy
        · exact h y (by simp [hy])
        · rw [List.mem_singleton.1 hy]
          have:=hz.1
          exact ⟨hz.1,hz.2.1,by simp;omega⟩
      · intro y hy
        rcases List.mem_append.1 hy with hy|hy
        · exact h y hy
        · rw [List.mem_singleton.1 hy];exact hn
    | fo p=>
      rw [addP_fo]
      intro y hy
      rcases List.mem_append.1 hy with hy|hy
      · exact h y hy
      · rw [List.mem_singleton.1 hy];exact hn
theorem addP_len (acc:List Pz) (r:Int) (a:Nat):(addP acc r a).length≤acc.length+1:=by
  rcases List.eq_nil_or_concat acc with rfl|⟨pre,z,rfl⟩
  · exact Nat.le_refl _
  · rw [List.concat_eq_append]
    cases z with
    | tx k p rs=>rw [addP_tx];split<;>simp
    | fo p=>rw [addP_fo];simp
section
variable (l:List Int) (n:Int) (L:List Iy) (H:List Sn)
end
section
variable (l:List Int) (n:Int) (L:List Iy) (H:List Sn)
theorem linesP_len (i:Nat) (hi:i≤l.length):(linesP l H i).length≤l.length+1 - i:=by
  have he:=endP_in l H hi
  rw [linesP,List.length_cons]
  split
  · rename_i hlt
    have:=linesP_len (endP l H i+1) (by omega)
    omega
  · simp;omega
termination_by l.length - i
decreasing_by omega
end
end Go.Proofs.YtihghiojmhegoaaGreatDoor
