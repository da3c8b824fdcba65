/- What the theorem leans on, part 21. -/
import Derived.Test.YtkhonlnajdfhfaaGreatDoorLtYPAT
set_option linter.unusedSimpArgs false
set_option linter.unusedVariables false
set_option maxRecDepth 8000
namespace Go.Proofs.YtkhonlnajdfhfaaGreatDoor
def addP (l:List Pz) (r:Int) (a:Nat):List Pz:=
 match l.getLast? with
 | some (.tx k p rs)=>if k=1∧p+rs.length=a then l.dropLast++[.tx 1 p (rs++[r])] else l++[.tx 1 a [r]]
 | _=>l++[.tx 1 a [r]]
def inlP (L:List Iy) (a:Nat):List Pz:=(inWi L a a).map fun y=> .tx 2 a (runesAt y.2.2.2.2 0)
def docA (l:List Int) (L:List Iy) (H:List Sn) (a:Nat) (acc:List Pz):List Pz × Nat:=
 if h:a<l.length∧shB l H a=false then
  match hidO H a with
  | some x=>if h2:a<x.2.toNat then docA l L H x.2.toNat (acc++inlP L a++[.fo a]) else (acc++inlP L a,a)
  | none=>docA l L H (a+1) (addP (acc++inlP L a) (l[a]'h.1) a)
 else (acc++inlP L a,a)
termination_by l.length - a
theorem docA_end {l:List Int} {L:List Iy} {H:List Sn} {a:Nat} {acc:List Pz} (h : ¬(a<l.length∧shB l H a=false)):docA l L H a acc=(acc++inlP L a,a):=by rw [docA,dif_neg h]
theorem docA_hid {l:List Int} {L:List Iy} {H:List Sn} {a k:Nat} {acc:List Pz} {x:Sn} (h:a<l.length) (hs:shB l H a=false) (hx:hidO H a=some x) (hk:x.2=k) (hak:a<k):docA l L H a acc=docA l L H k (acc++inlP L a++[.fo a]):=by
 rw [docA,dif_pos ⟨h,hs⟩]
 simp only [hx]
 rw [hk,Int.toNat_natCast,dif_pos hak]
theorem docA_plain {l:List Int} {L:List Iy} {H:List Sn} {a:Nat} {acc:List Pz} {r:Int} (hr:l[a]? = some r) (hs:shB l H a=false) (hx:hidO H a=none):docA l L H a acc=docA l L H (a+1) (addP (acc++inlP L a) r a):=by
 obtain ⟨h,rfl⟩:=List.getElem?_eq_some_iff.1 hr
 rw [docA,dif_pos ⟨h,hs⟩]
 simp only [hx]
def NoE (acc:List Pz) (a:Nat):Prop:= ∀p rs,acc.getLast? = some (.tx 1 p rs)→p+rs.length≠a
def openP (l:List Int) (acc:List Pz) (c a:Nat):List Pz:=if c<a then acc++[.tx 1 c (cutR l c a)] else acc
theorem cutR_len (l:List Int) {a b:Nat} (h:b≤l.length):(cutR l a b).length=b - a:=by simp [cutR];omega
theorem cutR_snoc {l:List Int} {a b:Nat} {r:Int} (h:a≤b) (hr:l[b]? = some r):cutR l a (b+1)=cutR l a b++[r]:=by
 have hb:=(List.getElem?_eq_some_iff.1 hr).1
 unfold cutR
 rw [take_snoc' hr,List.drop_append_of_le_length (by rw [List.length_take];omega)]
theorem cutR_self (l:List Int) (a:Nat):cutR l a a=[]:=by
 unfold cutR
 rw [List.drop_eq_nil_of_le]
 rw [List.length_take];omega
theorem addP_no {acc:List Pz} {r:Int} {a:Nat} (h:NoE acc a):addP acc r a=acc++[.tx 1 a [r]]:=by
 unfold addP
 split
 ·rename_i k p rs hg
  split
  ·rename_i hk
   obtain ⟨rfl,h2⟩:=hk
   exact (h p rs hg h2).elim
  ·rfl
 ·rfl
theorem addP_open {l:List Int} {acc:List Pz} {c a:Nat} {r:Int} (hca:c≤a) (hr:l[a]? = some r) (hn:c=a→NoE acc a):addP (openP l acc c a) r a=openP l acc c (a+1):=by
 have hb:=(List.getElem?_eq_some_iff.1 hr).1
 rw [openP,openP,if_pos (show c<a+1 by omega),cutR_snoc hca hr]
 by_cases hc:c<a
 ·rw [if_pos hc,addP]
  simp only [List.getLast?_append,List.getLast?_singleton,Option.some_or]
  rw [if_pos ⟨by trivial,by rw [cutR_len l (by omega)];omega⟩,List.dropLast_concat]
 ·obtain rfl:c=a:=by omega
  rw [if_neg hc,addP_no (hn rfl),cutR_self,List.nil_append]
def SoI (L:List Iy):Prop:=L.Pairwise fun x y=>x.2.1≤y.2.1
theorem inWi_split {L:List Iy} (h:SoI L) (a b:Int) (hab:a<b):inWi L a b=inWi L a a++inWi L (a+1) b:=by
 induction L with
 | nil=>rfl
 | cons x r ih=>
  have h1:=(List.pairwise_cons.1 h).1
  have h2:=ih (List.pairwise_cons.1 h).2
  simp only [inWi] at h2 ⊢
  by_cases q1:x.2.1<a
  ·rw [List.filter_cons_of_neg (by simp;omega),List.filter_cons_of_neg (by simp;omega),List.filter_cons_of_neg (by simp;omega),h2]
  ·by_cases q2:x.2.1=a
   ·rw [List.filter_cons_of_pos (by simp;omega),List.filter_cons_of_pos (by simp;omega),List.filter_cons_of_neg (by simp;omega),h2,List.cons_append]
   ·have e1:r.filter (fun x=> !(decide (x.2.1<a)||decide (a<x.2.1)))=[]:=List.filter_eq_nil_iff.2 fun y hy=>by
     have:=h1 y hy
     simp;omega
    rw [e1] at h2
    by_cases q3:b<x.2.1
    ·rw [List.filter_cons_of_neg (by simp;omega),List.filter_cons_of_neg (by simp;omega),List.filter_cons_of_neg (by simp;omega),e1,h2]
    ·rw [List.filter_cons_of_pos (by simp;omega),List.filter_cons_of_neg (by simp;omega),List.filter_cons_of_pos (by simp;omega),e1,h2];rfl
theorem showP_here (l:List Int) (b c a:Nat) (hca:c≤a) : ∀(M R:List Iy),(∀y∈M,y.2.1=a)→M≠[]→showP l b c (M++R)=openP l [] c a++(M.map fun y=> .tx 2 a (runesAt y.2.2.2.2 0))++showP l b a R
 | [],R,_,hne=>(hne rfl).elim
 | y::M,R,h,_=>by
  have hy:=h y (by simp)
  rw [List.cons_append,showP,hy,Int.toNat_natCast,show max c a=a by omega,openP]
  have ht:showP l b a (M++R)=(M.map fun y=>Pz.tx 2 a (runesAt y.2.2.2.2 0))++showP l b a R:=by
   by_cases hm:M=[]
   ·subst hm;rfl
   ·rw [showP_here l b a a (Nat.le_refl _) M R (fun z hz=>h z (by simp [hz])) hm,openP,if_neg (by omega),List.nil_append]
  rw [ht]
  split<;>simp
theorem NoE_inl {acc:List Pz} {L:List Iy} {a:Nat} (h:inlP L a≠[]) (b:Nat):NoE (acc++inlP L a) b:=by
 intro p rs hg
 rw [List.getLast?_append] at hg
 unfold inlP at h hg
 rw [List.getLast?_map] at hg
 cases hl:(inWi L a a).getLast? with
 | none=>exact (h (by rw [List.getLast?_eq_none_iff.1 hl];rfl)).elim
 | some y=>rw [hl] at hg;simp at hg
theorem docA_run {l:List Int} {L:List Iy} {H:List Sn} (hL:SoI L) (b:Nat) (hb:b≤l.length) : ∀(d a c:Nat) (acc:List Pz),b - a=d→c≤a→a≤b→(c=a→NoE acc a)→(∀k,a≤k→k<b→shB l H k=false∧hidO H k=none) →
 ∃acc',docA l L H a (openP l acc c a)=docA l L H b acc'∧acc'++inlP L b=acc++showP l b c (inWi L a b)
 | 0,a,c,acc,hd,hca,hab,hn,hk=>by
  obtain rfl:a=b:=by omega
  refine ⟨_,rfl,?_⟩
  by_cases hm:inWi L a a=[]
  ·rw [inlP,hm,List.map_nil,List.append_nil,showP,openP]
   split<;>simp
  ·have:=showP_here l a c a hca (inWi L a a) [] (fun y hy=>by have:=(List.mem_filter.1 hy).2;simp at this;omega) hm
   rw [List.append_nil] at this
   rw [this,showP,if_neg (by omega),List.append_nil,openP,openP,inlP]
   split<;>simp
 | d+1,a,c,acc,hd,hca,hab,hn,hk=>by
  obtain ⟨h1,h2⟩:=hk a (Nat.le_refl _) (by omega)
  obtain ⟨r,hr⟩ : ∃r,l[a]? = some r:=⟨_,List.getElem?_eq_getElem (by omega)⟩
  rw [docA_plain hr h1 h2]
  have hsp:=inWi_split hL a b (by omega)
  have ec:((a+1:Nat):Int)=(a:Int)+1:=by omega
  by_cases hm:inWi L a a=[]
  ·have e:inlP L a=[]:=by rw [inlP,hm];rfl
   rw [e,List.append_nil,addP_open hca hr hn]
   obtain ⟨acc',g1,g2⟩:=docA_run hL b hb d (a+1) c acc (by omega) (by omega) (by omega) (fun h=>by omega) (fun k q1 q2=>hk k (by omega) q2)
   refine ⟨acc',g1,?_⟩
   rw [g2,hsp,hm,List.nil_append,ec]
  ·have hne:inlP L a≠[]:=by rw [inlP];simpa using hm
   have h3:=addP_open (l:=l) (acc:=openP l acc c a++inlP L a) (c:=a) (a:=a) (Nat.le_refl _) hr (fun _=>NoE_inl hne a)
   rw [openP,if_neg (by omega)] at h3
   rw [h3]
   obtain ⟨acc',g1,g2⟩:=docA_run hL b hb d (a+1) a (openP l acc c a++inlP L a) (by omega) (by omega) (by omega) (fun h=>by omega) (fun k q1 q2=>hk k (by omega) q2)
   refine ⟨acc',g1,?_⟩
   rw [g2,hsp,showP_here l b c a hca _ _ (fun y hy=>by have:=(List.mem_filter.1 hy).2;simp at this;omega) hm,ec,openP,openP,inlP]
   split<;>simp
theorem docA_line {l:List Int} {L:List Iy} (hL:SoI L) (H0:List Sn) {e:Nat} (he:e≤l.length) : ∀(H pre:List Sn) (a:Nat) (acc:List Pz) (last:Int),H0=pre++H→rgt l.length 0 H0=true→rgt l.length last H=true→(∀x∈pre,x.2≤a)→last≤a→a≤e→endP l H0 a=e→NoE acc a→(∀x∈H,x.1<a→x.2≤a) →
 docA l L H0 a acc=(acc++runP l L e a H,e)
 | [],pre,a,acc,last,e0,hr,_,hp,hla,hae,hend,hn,hin=>by
  have hk : ∀k,a≤k→k<e→shB l H0 k=false∧hidO H0 k=none:=fun k q1 q2=>by
   refine ⟨endP_no l H0 (by omega) q1 (by omega),?_⟩
   cases hx:hidO H0 k with
   | none=>rfl
   | some x=>
    obtain ⟨g1,g2,g3⟩:=hidO_some hx
    rw [e0,List.append_nil] at g1
    have:=hp x g1
    omega
  obtain ⟨acc',g1,g2⟩:=docA_run hL e he (e - a) a a acc rfl (Nat.le_refl _) hae (fun _=>hn) hk
  rw [openP,if_neg (by omega)] at g1
  rw [g1,docA_end,g2]
  ·rfl
  ·rintro ⟨q1,q2⟩
   have:=endP_sh l H0 (i:=a) (by omega) (by omega)
   rw [hend,q2] at this
   cases this
 | x::H,pre,a,acc,last,e0,hr,hr2,hp,hla,hae,hend,hn,hin=>by
  have hxin:=hin x (by simp)
  obtain ⟨⟨q1,q2,q3⟩,q4⟩:=rgt_cons.1 hr2
  have hxm:x∈H0:=by rw [e0];simp
  have hx0:=rgt_mem hr x hxm
  by_cases hc:x.1<a∨(e:Int)<x.2
  ·rw [runP,if_pos hc]
   by_cases hxa:x.2≤a
   ·exact docA_line hL H0 he H (pre++[x]) a acc x.2 (by rw [e0];simp) hr q4 (fun y hy=>by
     rcases List.mem_append.1 hy with hy|hy
     ·exact hp y hy
     ·rw [List.mem_singleton.1 hy];exact hxa) hxa hae hend hn (fun y hy=>hin y (by simp [hy]))
   ·-- x begins behind e: nothing more is hidden
    have hxe:(e:Int)<x.1:=by
     rcases Int.lt_or_le (e:Int) x.1 with h|h
     ·exact h
     exfalso
     rcases hc with hc|hc
     ·omega
     ·by_cases hel:e<l.length
      ·have h1:=endP_sh l H0 (i:=a) (by omega) (by omega)
       rw [hend,shB_hid hr hxm h hc] at h1
       cases h1
      ·omega
    have hrun : ∀(K:List Sn) (lst:Int),rgt l.length lst K=true→(e:Int)<lst→runP l L e a K=showP l e a (inWi L a e):=by
     intro K
     induction K with
     | nil=>intro lst _ _;rfl
     | cons y K ih=>
      intro lst h1 h2
      obtain ⟨⟨k1,k2,k3⟩,k4⟩:=rgt_cons.1 h1
      rw [runP,if_pos (.inr (by omega))]
      exact ih y.2 k4 (by omega)
    rw [hrun H x.2 q4 (by omega)]
    have hk : ∀k,a≤k→k<e→shB l H0 k=false∧hidO H0 k=none:=fun k r1 r2=>by
     refine ⟨endP_no l H0 (by omega) r1 (by omega),?_⟩
     cases hy:hidO H0 k with
     | none=>rfl
     | some y=>
      obtain ⟨g1,g2,g3⟩:=hidO_some hy
      rw [e0] at g1
      rcases List.mem_append.1 g1 with g1|g1
      ·have:=hp y g1;omega
      ·rcases List.mem_cons.1 g1 with rfl|g1
       ·omega
       ·have:=rgt_mem q4 y g1;omega
    obtain ⟨acc',g1,g2⟩:=docA_run hL e he (e - a) a a acc rfl (Nat.le_refl _) hae (fun _=>hn) hk
    rw [openP,if_neg (by omega)] at g1
    rw [g1,docA_end,g2]
    rintro ⟨r1,r2⟩
    have:=endP_sh l H0 (i:=a) (by omega) (by omega)
    rw [hend,r2] at this
    cases this
  ·rw [runP,if_neg hc]
   obtain ⟨j,hj⟩ : ∃j:Nat,x.1=j:=⟨x.1.toNat,by omega⟩
   obtain ⟨m,hm⟩ : ∃m:Nat,x.2=m:=⟨x.2.toNat,by omega⟩
   rw [hj,hm,Int.toNat_natCast,Int.toNat_natCast]
   have hk : ∀k,a≤k→k<j→shB l H0 k=false∧hidO H0 k=none:=fun k r1 r2=>by
    refine ⟨endP_no l H0 (by omega) r1 (by omega),?_⟩
    cases hy:hidO H0 k with
    | none=>rfl
    | some y=>
     obtain ⟨g1,g2,g3⟩:=hidO_some hy
     rw [e0] at g1
     rcases List.mem_append.1 g1 with g1|g1
     ·have:=hp y g1;omega
     ·rcases List.mem_cons.1 g1 with rfl|g1
      ·omega
      ·have:=rgt_mem q4 y g1;omega
   obtain ⟨acc',g1,g2⟩:=docA_run hL j (by omega) (j - a) a a acc rfl (Nat.le_refl _) (by omega) (fun _=>hn) hk
   rw [openP,if_neg (by omega)] at g1
   have hx:hidO H0 (j:Nat)=some x:=hidO_is hr x hxm _ (by omega) (by omega)
   have hend2:endP l H0 m=e:=by
    rw [←hend]
    have e1:endP l H0 a=endP l H0 j:=seekUp_to _ _ _ _ (by omega) (by omega) fun k r1 r2=>(hk k r1 r2).1
    rw [e1]
    exact (seekUp_to _ _ _ _ (by omega) (by omega) fun k r1 r2=>shB_hid hr hxm (by omega) (by omega)).symm
   rw [g1,docA_hid (by omega) (shB_hid hr hxm (by omega) (by omega)) hx hm (by omega),g2,
    docA_line hL H0 he H (pre++[x]) m _ x.2 (by rw [e0];simp) hr q4 (fun y hy=>by
     rcases List.mem_append.1 hy with hy|hy
     ·have:=hp y hy;omega
     ·rw [List.mem_singleton.1 hy];omega) (by omega) (by omega) hend2 (fun p rs hg=>by simp at hg) (fun y hy h=>by have:=rgt_mem q4 y hy;omega)]
   simp
theorem docA_is {l:List Int} {L:List Iy} {H:List Sn} (hL:SoI L) (hr:rgt l.length 0 H=true) {a:Nat} (ha:a≤l.length) (hin : ∀x∈H,x.1<a→x.2≤a):docA l L H a []=(runP l L (endP l H a) a H,endP l H a):=by
 have he:=endP_in l H ha
 have:=docA_line hL H he.2 H [] a [] 0 rfl hr hr (fun _ h=>by cases h) (by omega) he.1 rfl (fun p rs h=>by cases h) hin
 rwa [List.nil_append] at this
theorem beg_in {l:List Int} {H:List Sn} {a:Nat} (h:a=0∨shB l H (a - 1)=true) (hr:rgt l.length 0 H=true) : ∀x∈H,x.1<a→x.2≤a:=by
 intro x hx hlt
 have h0:=rgt_mem hr x hx
 rcases h with rfl|h
 ·omega
 ·have h1:=hidO_none (shB_iff.1 h).2 x hx
  omega
abbrev dtV (l:List Int) (n:Int) (L:List Iy) (H:List Sn):V:= .d (.agg [.sd 1 false (l.map ruD),iD n,.sd 5 false (L.map iyD),iD 0,.sd 2 false (H.map snD)])
abbrev dtC (l:List Int) (n:Int) (L:List Iy) (H:List Sn):Blk:= .cell [ruL l,iv n,.d (.sd 5 false (L.map iyD)),iv 0,.d (.sd 2 false (H.map snD))]
section
variable (l:List Int) (n:Int) (L:List Iy) (H:List Sn)
def hidV (H:List Sn) (a:Int):Sn:=(hidO H a).getD (0,-1)
theorem hidV_here {H:List Sn} {i:Nat} {y:Sn} {a:Int} (h:hidO (y::H.drop (i+1)) a=hidO H a) (hy:y.1≤a∧a<y.2):hidV H a=y:=by
 rw [hidV,←h]
 unfold hidO
 rw [List.find?_cons,inSp_iff.2 hy];rfl
theorem hidO_on {r:List Sn} {y:Sn} {a:Int} (hy : ¬(y.1≤a∧a<y.2)):hidO (y::r) a=hidO r a:=by
 have e:inSp a y=false:=by
  cases hb:inSp a y with
  | false=>rfl
  | true=>exact (hy (inSp_iff.1 hb)).elim
 unfold hidO
 rw [List.find?_cons,e]
def dhS (l:List Int) (n:Int) (L:List Iy) (H:List Sn) (a:Int) (i:Nat):St:=⟨[(1,iv a),(4,.po 0 0),(8,snL H),(9,iv H.length),(10,iv i)],[(0,.cell [iv 0,iv 0])],1⟩
attribute [push_cast] dhS.eq_def
set_option maxHeartbeats 1600000 in
theorem dHidden_fn (hl:H.length≤1000000) (a:Int):OFn Tryz.prog G0 92 [dtV l n L H,iv a] [] 0 (.d (snD (hidV H a))) []:=by
 refine vF mixed [0,1,2,4,6,8,9,10,11,23] Tryz.func92 rfl Tryz.results92 Tryz.ntmps92 ?_
 (refine' zg)
 refine vL (lv:=[0,1,2,4,6,8,9,10,11,23]) mixed (dhS l n L H a) (fun i=>i≤H.length∧hidO (H.drop i) a=hidO H a) (fun i=>H.length - i) (0) ((GhW.go [1,4,8,9,10] (by exact vT) rfl)) ?_ ?_
 ·exact ⟨Nat.zero_le _,rfl⟩
 rintro i ⟨h1,h2⟩
 (refine' zg)
 ·refine elX.intro fun y hy =>?_
  rw [drop_is hy] at h2
  (refine' zg)
  ·rw [hidV_here h2 (by omega)]
   refine DoneW.out ?_
   (refine' zg)
  ·refine AgW.go (i+1) [1,4,8,9,10] (by exact vT) ?_ ?_
   ·show H.length - (i+1)<H.length - i
    omega
   ·exact ⟨by omega,by rw [←h2,hidO_on (by omega)]⟩
 ·rw [List.drop_of_length_le (by omega)] at h2
  have e:hidV H a=(0,-1):=by rw [hidV,←h2];rfl
  rw [e]
  refine DoneW.out ?_
  (refine' zg)
def dwS (L:List Iy) (a b:Int) (y:Nat × List Iy):St:=⟨[(1,iv a),(2,iv b),(7,.so 0 5 0 y.2.length),(11,.d (.sd 5 false (L.map iyD))),(12,iv L.length),(13,iv y.1)],[(0,iyR y.2)],1⟩
attribute [push_cast] dwS.eq_def
theorem snoc_iy (es:List Iy) (x:Iy):es.map iyD++[iyD x]=(es++[x]).map iyD:=by rw [List.map_append];rfl
set_option maxHeartbeats 1600000 in
theorem dWithin_fn (e:Int) (hl:L.length≤1000000) (a b:Int):OFn Tryz.prog G0 90 [.d (.agg [iD n,.sd 5 false (L.map iyD),iD e]),iv a,iv b] [] 0 (.d (.sd 5 false ((inWi L a b).map iyD))) []:=by
 refine vF mixed [0,1,2,3,6,7,9,11,12,13,14,26] Tryz.func90 rfl Tryz.results90 Tryz.ntmps90 ?_
 (refine' zg)
 refine vL (lv:=[0,1,2,3,6,7,9,11,12,13,14,26]) mixed (dwS L a b) (fun y=>y.1≤L.length∧y.2=inWi (L.take y.1) a b) (fun y=>L.length - y.1) ((0,[])) (GhW.nil 7 5<|(GhW.go [1,2,7,11,12,13] (by exact vT) rfl)) ?_ ?_
 ·exact ⟨Nat.zero_le _,rfl⟩
 rintro ⟨i,es⟩ ⟨h1,h2⟩
 simp only at h1 h2
 have hel:es.length≤i:=by
  have:=List.length_filter_le (fun x:Iy=> !(decide (x.2.1<a)||decide (b<x.2.1))) (L.take i)
  rw [List.length_take] at this
  rw [h2]
  exact Nat.le_trans this (by omega)
 (refine' zg)
 ·refine elX.intro fun y hy =>?_
  have ht:inWi (L.take (i+1)) a b=inWi (L.take i) a b++inWi [y] a b:=by rw [take_snoc' hy,inWi,List.filter_append]
  obtain ⟨y1,y2,y3,y4,y5⟩:=y
  (refine' zg)
  ·have e2:inWi [(y1,y2,y3,y4,y5)] a b=[(y1,y2,y3,y4,y5)]:=List.filter_cons_of_pos (by simp;omega)
   rw [e2,←h2] at ht
   rw [show es.map iyD++[D.agg [iD y1,iD y2,iD y3,iD y4,D.lit (Value.string y5)]]=(es++[(y1,y2,y3,y4,y5)]).map iyD from snoc_iy es (y1,y2,y3,y4,y5)]
   refine AgW.go ((i+1,es++[(y1,y2,y3,y4,y5)])) [1,2,7,11,12,13] (by exact vT) ?_ ?_
   ·show L.length - (i+1)<L.length - i
    omega
   ·exact ⟨by simp only;omega,ht.symm⟩
  ·have e2:inWi [(y1,y2,y3,y4,y5)] a b=[]:=List.filter_cons_of_neg (by simp;omega)
   rw [e2,←h2,List.append_nil] at ht
   refine AgW.go ((i+1,es)) [1,2,7,11,12,13] (by exact vT) ?_ ?_
   ·show L.length - (i+1)<L.length - i
    omega
   ·exact ⟨by simp only;omega,ht.symm⟩
 ·rw [List.take_of_length_le (by omega)] at h2
  rw [←h2]
  refine DoneW.frz 0 (DoneW.out ?_)
  (refine' zg)
end
section
variable (l:List Int) (n:Int) (L:List Iy) (H:List Sn)
theorem hidV_neg {H:List Sn} {a:Nat} : (hidV H a).2<0↔hidO H a=none:=by
 unfold hidV
 cases h:hidO H a with
 | none=>simp
 | some x=>have:=hidO_some h;simp;omega
set_option maxHeartbeats 1600000 in
theorem dShown_fn (hl:H.length≤1000000) (hll:l.length≤1000000) (a:Nat):OFn Tryz.prog G0 91 [dtV l n L H,iv a] [] 0 (bv (shB l H a)) []:=by
 have r1:=dHidden_fn l n L H hl a
 rcases Nat.lt_or_ge a l.length with hlt|hge
 ·obtain ⟨r,hr⟩ : ∃r,l[a]? = some r:=⟨_,List.getElem?_eq_getElem hlt⟩
  by_cases h10:r=10
  ·subst h10
   have e:shB l H a=decide ((hidV H a).2<0):=by
    rw [Bool.eq_iff_iff,decide_eq_true_eq,hidV_neg,shB_iff];simp [hr]
   rw [e]
   refine vF mixed [0,1,2,4] Tryz.func91 rfl Tryz.results91 Tryz.ntmps91 ?_
   (refine' zm11o r1 hr)
  ·rw [shB_no (by rw [hr];intro e;injection e with e;exact h10 e)]
   refine vF mixed [0,1,2,4] Tryz.func91 rfl Tryz.results91 Tryz.ntmps91 ?_
   (refine' zm11o r1 hr)
 ·rw [shB_no (by rw [List.getElem?_eq_none hge];simp)]
  refine vF mixed [0,1,2,4] Tryz.func91 rfl Tryz.results91 Tryz.ntmps91 ?_
  (refine' zo1 r1)
end
theorem dPlain_nil (r:Int) (a:Nat) (ha:a≤1000000):OFn Tryz.prog G0 93 [.so 0 3 0 0,rv r,iv a] [(0,pzR [])] 1 (.so 1 3 0 1) [(1,pzR [.tx 1 a [r]])]:=by
 refine vF mixed [0,1,2,6,7,8,9,38] Tryz.func93 rfl Tryz.results93 Tryz.ntmps93 ?_
 (refine' zg)
 refine DoneW.now [169] (by decide) ?_
 (refine' zg)
 exact Sub.cons rfl Sub.nil
def OkZ:Pz→Prop
 | .tx _ p rs=>0≤p∧p≤1000000∧rs.length≤1000000
 | .fo p=>0≤p∧p≤1000000
theorem addP_tx {pre:List Pz} {k p:Int} {rs:List Int} {r:Int} {a:Nat} : addP (pre++[.tx k p rs]) r a=if k=1∧p+rs.length=a then pre++[.tx 1 p (rs++[r])] else pre++[.tx k p rs]++[.tx 1 a [r]]:=by
 unfold addP
 simp only [List.getLast?_append,List.getLast?_singleton,Option.some_or,List.dropLast_concat]
theorem addP_fo {pre:List Pz} {p:Int} {r:Int} {a:Nat} : addP (pre++[.fo p]) r a=pre++[.fo p]++[.tx 1 a [r]]:=by
 unfold addP
 simp only [List.getLast?_append,List.getLast?_singleton,Option.some_or]
theorem pl_e1 (pre:List Pz) (z x:Pz):List.map pzD (List.take (pre.length+1) (pre++[z]))++[pzD x]=(pre++[z]++[x]).map pzD:=by
 rw [List.take_of_length_le (by simp),snoc_pz]
theorem pl_e2 (pre:List Pz) (z x:Pz):List.map pzD (List.take (((pre.length:Int)+1 - 1).toNat - 0) (pre++[z]))++[pzD x]=(pre++[x]).map pzD:=by
 rw [show ((pre.length:Int)+1 - 1).toNat - 0=pre.length by omega,List.take_left',snoc_pz];rfl
theorem dPlain_fo (pre:List Pz) (p:Int) (hl:pre.length≤100000000) (r:Int) (a:Nat) (ha:a≤1000000):OFn Tryz.prog G0 93 [.so 0 3 0 (pre.length+1),rv r,iv a] [(0,pzR (pre++[.fo p]))] 1 (.so 1 3 0 (pre.length+2)) [(1,pzR (pre++[.fo p]++[.tx 1 a [r]]))]:=by
 have hz:(pre++[Pz.fo p])[pre.length]? = some (.fo p):=by simp
 have hlen:(pre++[Pz.fo p]).length=pre.length+1:=by simp
 refine vF mixed [0,1,2,6,7,8,9,38] Tryz.func93 rfl Tryz.results93 Tryz.ntmps93 ?_
 (refine' zgE hz)
 rw [show List.map pzD (List.take (pre.length+1) (pre++[Pz.fo p]))++[D.agg [D.lit (Value.int IntKind.i64 1),D.lit (Value.int IntKind.i64 a),D.sd 1 false [D.lit (Value.int IntKind.i32 r)]]]=_ from pl_e1 pre (.fo p) (.tx 1 a [r]),List.length_map,show (pre++[Pz.fo p]++[Pz.tx 1 a [r]]).length=pre.length+2 by simp]
 refine DoneW.now [169] (by decide) ?_;(refine' zg);first|exact Sub_refl _|exact Sub.cons rfl Sub.nil|exact Sub.cons rfl (Sub.cons rfl Sub.nil)|exact Sub.nil
theorem dPlain_tx (pre:List Pz) (k p:Int) (rs:List Int) (hp:0≤p∧p≤1000000) (hrs:rs.length≤1000000) (hl:pre.length≤100000000) (r:Int) (a:Nat) (ha:a≤1000000) :
 OFn Tryz.prog G0 93 [.so 0 3 0 (pre.length+1),rv r,iv a] [(0,pzR (pre++[.tx k p rs]))] 1 (.so 1 3 0 (addP (pre++[.tx k p rs]) r a).length) [(1,pzR (addP (pre++[.tx k p rs]) r a))]:=by
 have hz:(pre++[Pz.tx k p rs])[pre.length]? = some (.tx k p rs):=by simp
 have hlen:(pre++[Pz.tx k p rs]).length=pre.length+1:=by simp
 refine vF mixed [0,1,2,6,7,8,9,38] Tryz.func93 rfl Tryz.results93 Tryz.ntmps93 ?_
 (refine' zgE hz)
 ·rw [addP_tx,if_pos ⟨by assumption,h⟩,snoc_ru,show List.map pzD (List.take (((pre.length:Int)+1 - 1).toNat - 0) (pre++[Pz.tx k p rs]))++[D.agg [D.lit (Value.int IntKind.i64 1),iD p,D.sd 1 false (List.map ruD (rs++[r]))]]=_ from pl_e2 pre (.tx k p rs) (.tx 1 p (rs++[r])),List.length_map]
  refine DoneW.now [245] (by decide) ?_;(refine' zg);first|exact Sub_refl _|exact Sub.cons rfl Sub.nil|exact Sub.cons rfl (Sub.cons rfl Sub.nil)|exact Sub.nil
 ·rw [addP_tx,if_neg (fun e=>h e.2),show List.map pzD (List.take (pre.length+1) (pre++[Pz.tx k p rs]))++[D.agg [D.lit (Value.int IntKind.i64 1),D.lit (Value.int IntKind.i64 a),D.sd 1 false [D.lit (Value.int IntKind.i32 r)]]]=_ from pl_e1 pre (.tx k p rs) (.tx 1 a [r]),List.length_map]
  refine DoneW.now [169] (by decide) ?_;(refine' zg);first|exact Sub_refl _|exact Sub.cons rfl Sub.nil|exact Sub.cons rfl (Sub.cons rfl Sub.nil)|exact Sub.nil
 ·rw [addP_tx,if_neg (fun e=>h e.1),show List.map pzD (List.take (pre.length+1) (pre++[Pz.tx k p rs]))++[D.agg [D.lit (Value.int IntKind.i64 1),D.lit (Value.int IntKind.i64 a),D.sd 1 false [D.lit (Value.int IntKind.i32 r)]]]=_ from pl_e1 pre (.tx k p rs) (.tx 1 a [r]),List.length_map]
  refine DoneW.now [169] (by decide) ?_;(refine' zg);first|exact Sub_refl _|exact Sub.cons rfl Sub.nil|exact Sub.cons rfl (Sub.cons rfl Sub.nil)|exact Sub.nil
theorem dPlain_fn (acc:List Pz) (hok : ∀z∈acc,OkZ z) (hl:acc.length≤100000000) (r:Int) (a:Nat) (ha:a≤1000000) :
 OFn Tryz.prog G0 93 [.so 0 3 0 acc.length,rv r,iv a] [(0,pzR acc)] 1 (.so 1 3 0 (addP acc r a).length) [(1,pzR (addP acc r a))]:=by
 rcases List.eq_nil_or_concat acc with rfl|⟨pre,z,rfl⟩
 ·exact dPlain_nil r a ha
 ·rw [List.concat_eq_append] at hok hl ⊢
  have hz:=hok z (by simp)
  have hpl:(pre++[z]).length=pre.length+1:=by simp
  have hpl2:pre.length≤100000000:=by omega
  cases z with
  | tx k p rs=>
   have:=dPlain_tx pre k p rs ⟨hz.1,hz.2.1⟩ hz.2.2 hpl2 r a ha
   rw [←hpl] at this
   exact this
  | fo p=>
   have:=dPlain_fo pre p hpl2 r a ha
   rw [show pre.length+2=(pre++[Pz.fo p]++[Pz.tx 1 a [r]]).length by simp,←hpl] at this
   rw [addP_fo]
   exact this
def daS (l:List Int) (n:Int) (L:List Iy) (H:List Sn) (a0:Nat) (x:Nat × List Pz):St:=
 ⟨[(1,iv a0),(2,.po 0 0),(4,.po 1 0),(5,.so 2 3 0 x.2.length),(6,iv x.1)],[(0,dtC l n L H),(1,.cell [.d nilSD,iv 0,iv 0]),(2,pzR x.2)],3⟩
def daI (l:List Int) (n:Int) (L:List Iy) (H:List Sn) (a0 a:Nat) (M:List Iy) (x:Nat × List Pz):St:=
 ⟨[(1,iv a0),(2,.po 0 0),(4,.po 1 0),(5,.so 2 3 0 x.2.length),(6,iv a),(15,.d (.sd 5 false (M.map iyD))),(16,iv M.length),(17,iv x.1)],[(0,dtC l n L H),(1,.cell [.d nilSD,iv 0,iv 0]),(2,pzR x.2)],3⟩
attribute [push_cast] daS.eq_def daI.eq_def
structure DaP (l:List Int) (L:List Iy) (H:List Sn) (a0:Nat) (x:Nat × List Pz):Prop where
 le:x.1≤l.length
 ok : ∀z∈x.2,OkZ z
 len:x.2.length≤2000*x.1
 fin:docA l L H x.1 x.2=docA l L H a0 []
theorem okZ_inl {L:List Iy} {a:Nat} (hL : ∀y∈L,y.2.2.2.2.size≤1000000) (ha:a≤1000000) : ∀z∈inlP L a,OkZ z:=by
 intro z hz
 obtain ⟨y,hy,rfl⟩:=List.mem_map.1 hz
 have h1:=hL y (List.mem_filter.1 hy).1
 have h2:=runesAt_len y.2.2.2.2 _ 0 (Nat.le_refl _)
 exact ⟨by omega,by omega,by omega⟩
theorem okZ_add {acc:List Pz} {r:Int} {a:Nat} (h : ∀z∈acc,OkZ z) (ha:a<20000) : ∀z∈addP acc r a,OkZ z:=by
 rcases List.eq_nil_or_concat acc with rfl|⟨pre,z,rfl⟩
 ·intro z hz
  rw [show addP [] r a=[.tx 1 a [r]] from rfl,List.mem_singleton] at hz
  subst hz
  exact ⟨by omega,by omega,by simp⟩
 ·rw [List.concat_eq_append] at h ⊢
  have hn:OkZ (.tx 1 a [r]):=⟨by omega,by omega,by simp⟩
  cases z with
  | tx k p rs=>
   have hz:=h (.tx k p rs) (by simp)
   rw [addP_tx]
   split
   ·rename_i hc
    intro y hy
    rcases List.mem_append.1 hy with hy|hy
    ·exact h y (by simp [hy])
    ·rw [List.mem_singleton.1 hy]
     have:=hz.1
     exact ⟨hz.1,hz.2.1,by simp;omega⟩
   ·intro y hy
    rcases List.mem_append.1 hy with hy|hy
    ·exact h y hy
    ·rw [List.mem_singleton.1 hy];exact hn
  | fo p=>
   rw [addP_fo]
   intro y hy
   rcases List.mem_append.1 hy with hy|hy
   ·exact h y hy
   ·rw [List.mem_singleton.1 hy];exact hn
theorem addP_len (acc:List Pz) (r:Int) (a:Nat):(addP acc r a).length≤acc.length+1:=by
 rcases List.eq_nil_or_concat acc with rfl|⟨pre,z,rfl⟩
 ·exact Nat.le_refl _
 ·rw [List.concat_eq_append]
  cases z with
  | tx k p rs=>rw [addP_tx];split<;>simp
  | fo p=>rw [addP_fo];simp
set_option maxHeartbeats 6400000 in
theorem dAt_fn (l:List Int) (n:Int) (L:List Iy) (H:List Sn) (hl:H.length≤1000000) (hll:l.length≤20000) (hLl:L.length≤1000) (hL : ∀y∈L,y.2.2.2.2.size≤1000000) (hr:rgt l.length 0 H=true) (a0:Nat) (ha0:a0≤l.length) :
 OFn Tryz.prog G0 57 [dtV l n L H,iv a0] [] 0 (.d (.agg [.sd 3 false ((docA l L H a0 []).1.map pzD),iD a0,iD (docA l L H a0 []).2])) []:=by
 refine vF mixed [0,1,2,4,5,6,8,9,15,16,17,18,39,49] Tryz.func57 rfl Tryz.results57 Tryz.ntmps57 ?_
 (refine' zg)
 refine vL (lv:=[0,1,2,4,5,6,8,9,15,16,17,18,39,49]) mixed (daS l n L H a0) (DaP l L H a0) (fun x=>l.length - x.1) ((a0,[])) (GhW.nil 5 3<|(GhW.go [1,2,4,5,6] (by exact vT) rfl)) ?_ ?_
 ·exact ⟨ha0,fun z hz=>by simp at hz,Nat.zero_le _,rfl⟩
 rintro ⟨a,acc⟩ ⟨h1,h2,h3,h4⟩
 simp only at h1 h2 h3 h4
 have w1:=dWithin_fn n L 0 (by omega) a a
 have r1:=dShown_fn l n L H hl (by omega) a
 have r2:=dHidden_fn l n L H hl a
 (refine' zg1 w1)
 have hML:(inWi L a a).length≤L.length:=List.length_filter_le _ _
 refine vL (lv:=[0,1,2,4,5,6,8,9,15,16,17,18,39,49]) mixed (daI l n L H a0 a (inWi L a a)) (fun x=>x.1≤(inWi L a a).length∧x.2=acc++((inWi L a a).take x.1).map fun y=> .tx 2 a (runesAt y.2.2.2.2 0)) (fun x=>(inWi L a a).length - x.1) ((0,acc)) ((GhW.go [1,2,4,5,6,15,16,17] (by exact vT) rfl)) ?_ ?_
 ·exact ⟨Nat.zero_le _,by simp⟩
 rintro ⟨i,out⟩ ⟨g1,g2⟩
 simp only at g1 g2
 have hol:out.length=acc.length+i:=by rw [g2,List.length_append,List.length_map,List.length_take];omega
 rcases Nat.lt_or_ge i (inWi L a a).length with hi|hi
 ·obtain ⟨y,hy⟩ : ∃y,(inWi L a a)[i]? = some y:=⟨_,List.getElem?_eq_getElem hi⟩
  have hys:=hL y (List.mem_filter.1 (List.mem_of_getElem? hy)).1
  have ht:acc++((inWi L a a).take (i+1)).map (fun y=>Pz.tx 2 a (runesAt y.2.2.2.2 0))=out++[.tx 2 a (runesAt y.2.2.2.2 0)]:=by
   rw [take_snoc' hy,List.map_append,←List.append_assoc,←g2];rfl
  obtain ⟨y1,y2,y3,y4,y5⟩:=y
  have r3:=RDecode_fn y5 (by simp only at hys;omega)
  (refine' zg1 r3)
  refine elX.is i _ (by omega) hy ?_
  (refine' zg1 r3)
  rw [show out.map pzD++[D.agg [D.lit (Value.int IntKind.i64 2),D.lit (Value.int IntKind.i64 a),D.sd 1 false ((runesAt y5 0).map ruD)]]=(out++[Pz.tx 2 a (runesAt y5 0)]).map pzD from snoc_pz out (Pz.tx 2 a (runesAt y5 0)),List.length_map]
  refine AgW.go ((i+1,out++[Pz.tx 2 a (runesAt y5 0)])) [1,2,4,5,6,15,16,17] (by exact vT) ?_ ?_
  ·show (inWi L a a).length - (i+1)<(inWi L a a).length - i
   omega
  ·exact ⟨hi,ht.symm⟩
 ·have ho:out=acc++inlP L a:=by rw [g2,List.take_of_length_le hi];rfl
  have hok : ∀z∈out,OkZ z:=by
   rw [ho]
   intro z hz
   rcases List.mem_append.1 hz with hz|hz
   ·exact h2 z hz
   ·exact okZ_inl hL (by omega) z hz
  by_cases hc:a<l.length∧shB l H a=false
  ·obtain ⟨c1,c2⟩:=hc
   obtain ⟨r,hra⟩ : ∃r,l[a]? = some r:=⟨_,List.getElem?_eq_getElem c1⟩
   rw [c2] at r1
   cases hx:hidO H a with
   | none=>
    rw [docA_plain hra c2 hx,←ho] at h4
    have e:hidV H a=(0,-1):=by rw [hidV,hx];rfl
    rw [e] at r2
    have r3:=dPlain_fn out hok (by omega) r a (by omega)
    have hpl:=addP_len out r a
    (refine' zm21 r1 r2 hra)
    refine CallW.ofN [2] r3 ?_
    (refine' zg)
    refine AgW.go ((a+1,addP out r a)) [1,2,4,5,6] (by exact vT) ?_ ?_
    ·show l.length - (a+1)<l.length - a
     omega
    ·exact ⟨c1,okZ_add hok (by omega),by show (addP out r a).length≤2000*(a+1);omega,h4⟩
   | some x=>
    obtain ⟨k1,k2,k3⟩:=hidO_some hx
    have k4:=rgt_mem hr x k1
    obtain ⟨k,hk⟩ : ∃k:Nat,x.2=k:=⟨x.2.toNat,by omega⟩
    rw [docA_hid c1 c2 hx hk (by omega),←ho] at h4
    have e:hidV H a=x:=by rw [hidV,hx];rfl
    rw [e] at r2
    (refine' zg2 r1 r2)
    rw [show out.map pzD++[D.agg [D.lit (Value.int IntKind.i64 3),D.lit (Value.int IntKind.i64 a),D.lit (Value.slice none 0 0)]]=(out++[Pz.fo a]).map pzD from snoc_pz out (Pz.fo a),List.length_map,hk]
    refine AgW.go ((k,out++[Pz.fo a])) [1,2,4,5,6] (by exact vT) ?_ ?_
    ·show l.length - k<l.length - a
     omega
    ·refine ⟨by show k≤l.length;omega,fun z hz =>?_,by simp only [List.length_append,List.length_cons,List.length_nil];omega,h4⟩
     rcases List.mem_append.1 hz with hz|hz
     ·exact hok z hz
     ·rw [List.mem_singleton.1 hz];exact ⟨by omega,by omega⟩
  ·rw [docA_end hc,←ho] at h4
   rw [←h4]
   by_cases hal:a=l.length
   ·(refine' zg2 r1 r2)
    refine DoneW.frz 2 (DoneW.out ?_)
    (refine' zg)
   ·have c2:shB l H a=true:=by
     cases hb:shB l H a with
     | true=>rfl
     | false=>exact (hc ⟨by omega,hb⟩).elim
    rw [c2] at r1
    (refine' zg2 r1 r2)
    refine DoneW.frz 2 (DoneW.out ?_)
    (refine' zg)
section
variable (l:List Int) (n:Int) (L:List Iy) (H:List Sn)
theorem dAt_is (hl:H.length≤1000000) (hll:l.length≤20000) (hLl:L.length≤1000) (hL : ∀y∈L,y.2.2.2.2.size≤1000000) (hso:SoI L) (hr:rgt l.length 0 H=true) (a:Nat) (ha:a≤l.length) (hb:a=0∨shB l H (a - 1)=true) :
 OFn Tryz.prog G0 57 [dtV l n L H,iv a] [] 0 (.d (lnD l L H (a,endP l H a))) []:=by
 have:=dAt_fn l n L H hl hll hLl hL hr a ha
 rw [docA_is hso hr ha (beg_in hb hr)] at this
 exact this
def dlS (y:List (Nat × Nat)):St:=⟨[(1,.po 0 0),(3,.so 1 3 0 y.length)],[(0,dtC l n L H),(1,.row 3 (y.map (lnD l L H)))],2⟩
attribute [push_cast] dlS.eq_def
end
structure DlP (l:List Int) (H:List Sn) (y:List (Nat × Nat)):Prop where
 ex : ∃pre a,y=pre++[(a,endP l H a)]∧a≤l.length∧pre++linesP l H a=linesP l H 0∧pre.length≤a∧(a=0∨shB l H (a - 1)=true)
section
variable (l:List Int) (n:Int) (L:List Iy) (H:List Sn)
set_option maxHeartbeats 3200000 in
theorem dAll_fn (hl:H.length≤1000000) (hll:l.length≤20000) (hLl:L.length≤1000) (hL : ∀y∈L,y.2.2.2.2.size≤1000000) (hso:SoI L) (hr:rgt l.length 0 H=true) :
 OFn Tryz.prog G0 29 [dtV l n L H] [] 0 (.d (.sd 3 false ((linesP l H 0).map (lnD l L H)))) []:=by
 have r2:OFn Tryz.prog G0 57 [dtV l n L H,iv 0] [] 0 (.d (lnD l L H (0,endP l H 0))) []:=dAt_is l n L H hl hll hLl hL hso hr 0 (Nat.zero_le _) (.inl rfl)
 refine vF mixed [0,1,2,3,17] Tryz.func29 rfl Tryz.results29 Tryz.ntmps29 ?_
 (refine' zg1 r2)
 refine vL (lv:=[0,1,2,3,17]) mixed (dlS l n L H) (DlP l H) (fun y=>l.length+1 - y.length) ([(0,endP l H 0)]) ((GhW.go [1,3] (by exact vT) rfl)) ?_ ?_
 ·exact ⟨[],0,rfl,Nat.zero_le _,rfl,Nat.le_refl _,.inl rfl⟩
 rintro y ⟨pre,a,rfl,ha,hp,hpl,hb⟩
 have he:=endP_in l H ha
 have hy:(pre++[(a,endP l H a)])[pre.length]? = some (a,endP l H a):=by simp
 have hyl:(pre++[(a,endP l H a)]).length=pre.length+1:=by simp
 by_cases hc:endP l H a<l.length
 ·have hsh:=endP_sh l H ha hc
  have r4:=dAt_is l n L H hl hll hLl hL hso hr (endP l H a+1) hc (.inr hsh)
  have ec:((endP l H a+1:Nat):Int)=(endP l H a:Int)+1:=by omega
  rw [ec] at r4
  (refine' zg)
  refine elX.is pre.length _ (by omega) hy ?_
  (refine' zg)
  refine elX.is pre.length _ (by omega) hy ?_
  (refine' zg1 r4)
  have e2:=snoc_map (lnD l L H) (pre++[(a,endP l H a)]) (endP l H a+1,endP l H (endP l H a+1))
  simp only [lnD,ec] at e2
  change (pre++[(a,endP l H a)]).map (lnD l L H)++_=_ at e2
  rw [e2,List.length_map]
  refine AgW.go (pre++[(a,endP l H a)]++[(endP l H a+1,endP l H (endP l H a+1))]) [1,3] (by exact vT) ?_ ?_
  ·show l.length+1 - (pre++[(a,endP l H a)]++[(endP l H a+1,endP l H (endP l H a+1))]).length<l.length+1 - (pre++[(a,endP l H a)]).length
   simp only [List.length_append,List.length_cons,List.length_nil]
   omega
  ·refine ⟨pre++[(a,endP l H a)],endP l H a+1,rfl,hc,?_,by simp only [List.length_append,List.length_cons,List.length_nil];omega,.inr hsh⟩
   rw [←hp]
   conv=>rhs;rw [linesP,dif_pos ⟨hc,he.1⟩]
   simp only [List.append_assoc,List.cons_append,List.nil_append]
 ·have hfin:pre++[(a,endP l H a)]=linesP l H 0:=by
   rw [←hp,linesP,dif_neg (by omega)]
  (refine' zg)
  refine elX.is pre.length _ (by omega) hy ?_
  (refine' zg)
  rw [hfin]
  refine DoneW.frz 1 (DoneW.out ?_)
  (refine' zg)
theorem linesP_len (i:Nat) (hi:i≤l.length):(linesP l H i).length≤l.length+1 - i:=by
 have he:=endP_in l H hi
 rw [linesP,List.length_cons]
 split
 ·rename_i hlt
  have:=linesP_len (endP l H i+1) (by omega)
  omega
 ·simp;omega
termination_by l.length - i
decreasing_by omega
end
end Go.Proofs.YtkhonlnajdfhfaaGreatDoor
