/- What the theorem leans on, part 20. -/
import Derived.Test.YtkkanlcjjpoklaaGreatDoorStUPAS
set_option linter.unusedSimpArgs false
set_option linter.unusedVariables false
set_option maxRecDepth 8000
namespace Go.Proofs.YtkkanlcjjpoklaaGreatDoor
def e8 (l:List Pz) (r:Int) (a:Nat):List Pz:=
 match l.getLast? with
 | some (.tx k p rs)=>if k=1∧p+rs.length=a then l.dropLast++[.tx 1 p (rs++[r])] else l++[.tx 1 a [r]]
 | _=>l++[.tx 1 a [r]]
def b5 (L:List Iy) (a:Nat):List Pz:=(co L a a).map fun y=> .tx 2 a (aa y.2.2.2.2 0)
def fQ (l:List Int) (L:List Iy) (H:List Sn) (a:Nat) (acc:List Pz):List Pz × Nat:=
 if h:a<l.length∧eY l H a=false then
  match cf H a with
  | some x=>if h2:a<x.2.toNat then fQ l L H x.2.toNat (acc++b5 L a++[.fo a]) else (acc++b5 L a,a)
  | none=>fQ l L H (a+1) (e8 (acc++b5 L a) (l[a]'h.1) a)
 else (acc++b5 L a,a)
termination_by l.length - a
theorem fR {l:List Int} {L:List Iy} {H:List Sn} {a:Nat} {acc:List Pz} (h : ¬(a<l.length∧eY l H a=false)):fQ l L H a acc=(acc++b5 L a,a):=by rw [fQ,dif_neg h]
theorem gY {l:List Int} {L:List Iy} {H:List Sn} {a k:Nat} {acc:List Pz} {x:Sn} (h:a<l.length) (hs:eY l H a=false) (hx:cf H a=some x) (hk:x.2=k) (hak:a<k):fQ l L H a acc=fQ l L H k (acc++b5 L a++[.fo a]):=by
 rw [fQ,dif_pos ⟨h,hs⟩];simp only [hx];rw [hk,Int.toNat_natCast,dif_pos hak]
theorem fS {l:List Int} {L:List Iy} {H:List Sn} {a:Nat} {acc:List Pz} {r:Int} (hr:l[a]? = some r) (hs:eY l H a=false) (hx:cf H a=none):fQ l L H a acc=fQ l L H (a+1) (e8 (acc++b5 L a) r a):=by
 obtain ⟨h,rfl⟩:=List.getElem?_eq_some_iff.1 hr;rw [fQ,dif_pos ⟨h,hs⟩];simp only [hx]
def QW (acc:List Pz) (a:Nat):Prop:= ∀p rs,acc.getLast? = some (.tx 1 p rs)→p+rs.length≠a
def ef (l:List Int) (acc:List Pz) (c a:Nat):List Pz:=if c<a then acc++[.tx 1 c (gF l c a)] else acc
theorem Iq (l:List Int) {a b:Nat} (h:b≤l.length):(gF l a b).length=b - a:=by simp [gF];omega
theorem FF {l:List Int} {a b:Nat} {r:Int} (h:a≤b) (hr:l[b]? = some r):gF l a (b+1)=gF l a b++[r]:=by
 have hb:=(List.getElem?_eq_some_iff.1 hr).1;unfold gF;rw [ax hr,List.drop_append_of_le_length (by rw [List.length_take];omega)]
theorem FE (l:List Int) (a:Nat):gF l a a=[]:=by
 unfold gF;rw [List.drop_eq_nil_of_le];rw [List.length_take];omega
theorem Lr {acc:List Pz} {r:Int} {a:Nat} (h:QW acc a):e8 acc r a=acc++[.tx 1 a [r]]:=by
 unfold e8;split
 ·rename_i k p rs hg;split
  ·rename_i hk;obtain ⟨rfl,h2⟩:=hk;exact (h p rs hg h2).elim
  ·rfl
 ·rfl
theorem uN {l:List Int} {acc:List Pz} {c a:Nat} {r:Int} (hca:c≤a) (hr:l[a]? = some r) (hn:c=a→QW acc a):e8 (ef l acc c a) r a=ef l acc c (a+1):=by
 have hb:=(List.getElem?_eq_some_iff.1 hr).1;rw [ef,ef,if_pos (show c<a+1 by omega),FF hca hr];by_cases hc:c<a
 ·rw [if_pos hc,e8];simp only [List.getLast?_append,List.getLast?_singleton,Option.some_or];rw [if_pos ⟨by trivial,by rw [Iq l (by omega)];omega⟩,List.dropLast_concat]
 ·obtain rfl:c=a:=by omega
  rw [if_neg hc,Lr (hn rfl),FE,List.nil_append]
def HD (L:List Iy):Prop:=L.Pairwise fun x y=>x.2.1≤y.2.1
theorem Cr {L:List Iy} (h:HD L) (a b:Int) (hab:a<b):co L a b=co L a a++co L (a+1) b:=by
 induction L with
 | nil=>rfl
 | cons x r ih=>
  have h1:=(List.pairwise_cons.1 h).1;have h2:=ih (List.pairwise_cons.1 h).2;simp only [co] at h2 ⊢;by_cases q1:x.2.1<a
  ·rw [List.filter_cons_of_neg (by simp;omega),List.filter_cons_of_neg (by simp;omega),List.filter_cons_of_neg (by simp;omega),h2]
  ·by_cases q2:x.2.1=a
   ·rw [List.filter_cons_of_pos (by simp;omega),List.filter_cons_of_pos (by simp;omega),List.filter_cons_of_neg (by simp;omega),h2,List.cons_append]
   ·have e1:r.filter (fun x=> !(decide (x.2.1<a)||decide (a<x.2.1)))=[]:=List.filter_eq_nil_iff.2 fun y hy=>by
     have:=h1 y hy;simp;omega
    rw [e1] at h2;by_cases q3:b<x.2.1
    ·rw [List.filter_cons_of_neg (by simp;omega),List.filter_cons_of_neg (by simp;omega),List.filter_cons_of_neg (by simp;omega),e1,h2]
    ·rw [List.filter_cons_of_pos (by simp;omega),List.filter_cons_of_neg (by simp;omega),List.filter_cons_of_pos (by simp;omega),e1,h2];rfl
theorem lO (l:List Int) (b c a:Nat) (hca:c≤a) : ∀(M R:List Iy),(∀y∈M,y.2.1=a)→M≠[]→dt l b c (M++R)=ef l [] c a++(M.map fun y=> .tx 2 a (aa y.2.2.2.2 0))++dt l b a R
 | [],R,_,hne=>(hne rfl).elim
 | y::M,R,h,_=>by
  have hy:=h y (by simp);rw [List.cons_append,dt,hy,Int.toNat_natCast,show max c a=a by omega,ef];have ht:dt l b a (M++R)=(M.map fun y=>Pz.tx 2 a (aa y.2.2.2.2 0))++dt l b a R:=by
   by_cases hm:M=[]
   ·subst hm;rfl
   ·rw [lO l b a a (Nat.le_refl _) M R (fun z hz=>h z (by simp [hz])) hm,ef,if_neg (by omega),List.nil_append]
  rw [ht];split<;>simp
theorem Lj {acc:List Pz} {L:List Iy} {a:Nat} (h:b5 L a≠[]) (b:Nat):QW (acc++b5 L a) b:=by
 intro p rs hg;rw [List.getLast?_append] at hg;unfold b5 at h hg;rw [List.getLast?_map] at hg;cases hl:(co L a a).getLast? with
 | none=>exact (h (by rw [List.getLast?_eq_none_iff.1 hl];rfl)).elim
 | some y=>rw [hl] at hg;simp at hg
theorem jz {l:List Int} {L:List Iy} {H:List Sn} (hL:HD L) (b:Nat) (hb:b≤l.length) : ∀(d a c:Nat) (acc:List Pz),b - a=d→c≤a→a≤b→(c=a→QW acc a)→(∀k,a≤k→k<b→eY l H k=false∧cf H k=none) →
 ∃acc',fQ l L H a (ef l acc c a)=fQ l L H b acc'∧acc'++b5 L b=acc++dt l b c (co L a b)
 | 0,a,c,acc,hd,hca,hab,hn,hk=>by
  obtain rfl:a=b:=by omega
  refine ⟨_,rfl,?_⟩;by_cases hm:co L a a=[]
  ·rw [b5,hm,List.map_nil,List.append_nil,dt,ef];split<;>simp
  ·have:=lO l a c a hca (co L a a) [] (fun y hy=>by have:=(List.mem_filter.1 hy).2;simp at this;omega) hm;rw [List.append_nil] at this;rw [this,dt,if_neg (by omega),List.append_nil,ef,ef,b5];split<;>simp
 | d+1,a,c,acc,hd,hca,hab,hn,hk=>by
  obtain ⟨h1,h2⟩:=hk a (Nat.le_refl _) (by omega);obtain ⟨r,hr⟩ : ∃r,l[a]? = some r:=⟨_,List.getElem?_eq_getElem (by omega)⟩
  rw [fS hr h1 h2];have hsp:=Cr hL a b (by omega);have ec:((a+1:Nat):Int)=(a:Int)+1:=by omega
  by_cases hm:co L a a=[]
  ·have e:b5 L a=[]:=by rw [b5,hm];rfl
   rw [e,List.append_nil,uN hca hr hn];obtain ⟨acc',g1,g2⟩:=jz hL b hb d (a+1) c acc (by omega) (by omega) (by omega) (fun h=>by omega) (fun k q1 q2=>hk k (by omega) q2);refine ⟨acc',g1,?_⟩;rw [g2,hsp,hm,List.nil_append,ec]
  ·have hne:b5 L a≠[]:=by rw [b5];simpa using hm
   have h3:=uN (l:=l) (acc:=ef l acc c a++b5 L a) (c:=a) (a:=a) (Nat.le_refl _) hr (fun _=>Lj hne a);rw [ef,if_neg (by omega)] at h3;rw [h3];obtain ⟨acc',g1,g2⟩:=jz hL b hb d (a+1) a (ef l acc c a++b5 L a) (by omega) (by omega) (by omega) (fun h=>by omega) (fun k q1 q2=>hk k (by omega) q2);refine ⟨acc',g1,?_⟩;rw [g2,hsp,lO l b c a hca _ _ (fun y hy=>by have:=(List.mem_filter.1 hy).2;simp at this;omega) hm,ec,ef,ef,b5];split<;>simp
theorem nC {l:List Int} {L:List Iy} (hL:HD L) (H0:List Sn) {e:Nat} (he:e≤l.length) : ∀(H pre:List Sn) (a:Nat) (acc:List Pz) (last:Int),H0=pre++H→jp l.length 0 H0=true→jp l.length last H=true→(∀x∈pre,x.2≤a)→last≤a→a≤e→aF l H0 a=e→QW acc a→(∀x∈H,x.1<a→x.2≤a) →
 fQ l L H0 a acc=(acc++b4 l L e a H,e)
 | [],pre,a,acc,last,e0,hr,_,hp,hla,hae,hend,hn,hin=>by
  have hk : ∀k,a≤k→k<e→eY l H0 k=false∧cf H0 k=none:=fun k q1 q2=>by
   refine ⟨pV l H0 (by omega) q1 (by omega),?_⟩;cases hx:cf H0 k with
   | none=>rfl
   | some x=>
    obtain ⟨g1,g2,g3⟩:=di hx;rw [e0,List.append_nil] at g1;have:=hp x g1;omega
  obtain ⟨acc',g1,g2⟩:=jz hL e he (e - a) a a acc rfl (Nat.le_refl _) hae (fun _=>hn) hk;rw [ef,if_neg (by omega)] at g1;rw [g1,fR,g2]
  ·rfl
  ·rintro ⟨q1,q2⟩;have:=gu l H0 (i:=a) (by omega) (by omega);rw [hend,q2] at this;cases this
 | x::H,pre,a,acc,last,e0,hr,hr2,hp,hla,hae,hend,hn,hin=>by
  have hxin:=hin x (by simp);obtain ⟨⟨q1,q2,q3⟩,q4⟩:=eh.1 hr2;have hxm:x∈H0:=by rw [e0];simp
  have hx0:=cW hr x hxm;by_cases hc:x.1<a∨(e:Int)<x.2
  ·rw [b4,if_pos hc];by_cases hxa:x.2≤a
   ·exact nC hL H0 he H (pre++[x]) a acc x.2 (by rw [e0];simp) hr q4 (fun y hy=>by
     rcases List.mem_append.1 hy with hy|hy
     ·exact hp y hy
     ·rw [List.mem_singleton.1 hy];exact hxa) hxa hae hend hn (fun y hy=>hin y (by simp [hy]))
   ·-- x begins behind e: nothing more is hidden
    have hxe:(e:Int)<x.1:=by
     rcases Int.lt_or_le (e:Int) x.1 with h|h
     ·exact h
     exfalso;rcases hc with hc|hc
     ·omega
     ·by_cases hel:e<l.length
      ·have h1:=gu l H0 (i:=a) (by omega) (by omega);rw [hend,mX hr hxm h hc] at h1;cases h1
      ·omega
    have hrun : ∀(K:List Sn) (dF:Int),jp l.length dF K=true→(e:Int)<dF→b4 l L e a K=dt l e a (co L a e):=by
     intro K;induction K with
     | nil=>intro dF _ _;rfl
     | cons y K ih=>
      intro dF h1 h2;obtain ⟨⟨k1,k2,k3⟩,k4⟩:=eh.1 h1;rw [b4,if_pos (.inr (by omega))];exact ih y.2 k4 (by omega)
    rw [hrun H x.2 q4 (by omega)];have hk : ∀k,a≤k→k<e→eY l H0 k=false∧cf H0 k=none:=fun k r1 r2=>by
     refine ⟨pV l H0 (by omega) r1 (by omega),?_⟩;cases hy:cf H0 k with
     | none=>rfl
     | some y=>
      obtain ⟨g1,g2,g3⟩:=di hy;rw [e0] at g1;rcases List.mem_append.1 g1 with g1|g1
      ·have:=hp y g1;omega
      ·rcases List.mem_cons.1 g1 with rfl|g1
       ·omega
       ·have:=cW q4 y g1;omega
    obtain ⟨acc',g1,g2⟩:=jz hL e he (e - a) a a acc rfl (Nat.le_refl _) hae (fun _=>hn) hk;rw [ef,if_neg (by omega)] at g1;rw [g1,fR,g2];rintro ⟨r1,r2⟩;have:=gu l H0 (i:=a) (by omega) (by omega);rw [hend,r2] at this;cases this
  ·rw [b4,if_neg hc];obtain ⟨j,hj⟩ : ∃j:Nat,x.1=j:=⟨x.1.toNat,by omega⟩
   obtain ⟨m,hm⟩ : ∃m:Nat,x.2=m:=⟨x.2.toNat,by omega⟩
   rw [hj,hm,Int.toNat_natCast,Int.toNat_natCast];have hk : ∀k,a≤k→k<j→eY l H0 k=false∧cf H0 k=none:=fun k r1 r2=>by
    refine ⟨pV l H0 (by omega) r1 (by omega),?_⟩;cases hy:cf H0 k with
    | none=>rfl
    | some y=>
     obtain ⟨g1,g2,g3⟩:=di hy;rw [e0] at g1;rcases List.mem_append.1 g1 with g1|g1
     ·have:=hp y g1;omega
     ·rcases List.mem_cons.1 g1 with rfl|g1
      ·omega
      ·have:=cW q4 y g1;omega
   obtain ⟨acc',g1,g2⟩:=jz hL j (by omega) (j - a) a a acc rfl (Nat.le_refl _) (by omega) (fun _=>hn) hk;rw [ef,if_neg (by omega)] at g1;have hx:cf H0 (j:Nat)=some x:=p9 hr x hxm _ (by omega) (by omega);have hend2:aF l H0 m=e:=by
    rw [←hend];have e1:aF l H0 a=aF l H0 j:=fG _ _ _ _ (by omega) (by omega) fun k r1 r2=>(hk k r1 r2).1
    rw [e1];exact (fG _ _ _ _ (by omega) (by omega) fun k r1 r2=>mX hr hxm (by omega) (by omega)).symm
   rw [g1,gY (by omega) (mX hr hxm (by omega) (by omega)) hx hm (by omega),g2,
    nC hL H0 he H (pre++[x]) m _ x.2 (by rw [e0];simp) hr q4 (fun y hy=>by
     rcases List.mem_append.1 hy with hy|hy
     ·have:=hp y hy;omega
     ·rw [List.mem_singleton.1 hy];omega) (by omega) (by omega) hend2 (fun p rs hg=>by simp at hg) (fun y hy h=>by have:=cW q4 y hy;omega)]
   simp
theorem pU {l:List Int} {L:List Iy} {H:List Sn} (hL:HD L) (hr:jp l.length 0 H=true) {a:Nat} (ha:a≤l.length) (hin : ∀x∈H,x.1<a→x.2≤a):fQ l L H a []=(b4 l L (aF l H a) a H,aF l H a):=by
 have he:=bU l H ha;have:=nC hL H he.2 H [] a [] 0 rfl hr hr (fun _ h=>by cases h) (by omega) he.1 rfl (fun p rs h=>by cases h) hin;rwa [List.nil_append] at this
theorem wU {l:List Int} {H:List Sn} {a:Nat} (h:a=0∨eY l H (a - 1)=true) (hr:jp l.length 0 H=true) : ∀x∈H,x.1<a→x.2≤a:=by
 intro x hx hlt;have h0:=cW hr x hx;rcases h with rfl|h
 ·omega
 ·have h1:=vk (i3.1 h).2 x hx;omega
abbrev QF (l:List Int) (n:Int) (L:List Iy) (H:List Sn):V:= .d (.agg [.sd 1 false (l.map dy),iD n,.sd 5 false (L.map cS),iD 0,.sd 2 false (H.map bA)])
abbrev UW (l:List Int) (n:Int) (L:List Iy) (H:List Sn):bF:= .cell [yE l,iv n,.d (.sd 5 false (L.map cS)),iv 0,.d (.sd 2 false (H.map bA))]
section
variable (l:List Int) (n:Int) (L:List Iy) (H:List Sn)
def pE (H:List Sn) (a:Int):Sn:=(cf H a).getD (0,-1)
theorem F3 {H:List Sn} {i:Nat} {y:Sn} {a:Int} (h:cf (y::H.drop (i+1)) a=cf H a) (hy:y.1≤a∧a<y.2):pE H a=y:=by
 rw [pE,←h];unfold cf;rw [List.find?_cons,fW.2 hy];rfl
theorem Mj {r:List Sn} {y:Sn} {a:Int} (hy : ¬(y.1≤a∧a<y.2)):cf (y::r) a=cf r a:=by
 have e:iO a y=false:=by
  cases hb:iO a y with
  | false=>rfl
  | true=>exact (hy (fW.1 hb)).elim
 unfold cf;rw [List.find?_cons,e]
def XL (l:List Int) (n:Int) (L:List Iy) (H:List Sn) (a:Int) (i:Nat):St:=⟨[(1,iv a),(4,.po 0 0),(8,xX H),(9,iv H.length),(10,iv i)],[(0,.cell [iv 0,iv 0])],1⟩
attribute [push_cast] XL.eq_def
set_option maxHeartbeats 1600000 in
theorem qQ (hl:H.length≤1000000) (a:Int):an Tryz.prog G0 112 [QF l n L H,iv a] [] 0 (.d (bA (pE H a))) []:=by
 refine vF ab [0,1,2,4,6,8,9,10,11,23] Tryz.func112 rfl Tryz.results112 Tryz.ntmps112 ?_;(refine' zg)
 refine vL (lv:=[0,1,2,4,6,8,9,10,11,23]) ab (XL l n L H a) (fun i=>i≤H.length∧cf (H.drop i) a=cf H a) (fun i=>H.length - i) (0) ((aC.go [1,4,8,9,10] (by exact vT) rfl)) ?_ ?_
 ·exact ⟨Nat.zero_le _,rfl⟩
 rintro i ⟨h1,h2⟩;(refine' zg)
 ·refine aI.intro fun y hy =>?_
  rw [cV hy] at h2;(refine' zg)
  ·rw [F3 h2 (by omega)];refine ae.out ?_;(refine' zg)
  ·refine aG.go (i+1) [1,4,8,9,10] (by exact vT) ?_ ?_
   ·show H.length - (i+1)<H.length - i;omega
   ·exact ⟨by omega,by rw [←h2,Mj (by omega)]⟩
 ·rw [List.drop_of_length_le (by omega)] at h2;have e:pE H a=(0,-1):=by rw [pE,←h2];rfl
  rw [e];refine ae.out ?_;(refine' zg)
def XN (L:List Iy) (a b:Int) (y:Nat × List Iy):St:=⟨[(1,iv a),(2,iv b),(7,.so 0 5 0 y.2.length),(11,.d (.sd 5 false (L.map cS))),(12,iv L.length),(13,iv y.1)],[(0,Cw y.2)],1⟩
attribute [push_cast] XN.eq_def
theorem qh (es:List Iy) (x:Iy):es.map cS++[cS x]=(es++[x]).map cS:=by rw [List.map_append];rfl
set_option maxHeartbeats 1600000 in
theorem B6 (e:Int) (hl:L.length≤1000000) (a b:Int):an Tryz.prog G0 110 [.d (.agg [iD n,.sd 5 false (L.map cS),iD e]),iv a,iv b] [] 0 (.d (.sd 5 false ((co L a b).map cS))) []:=by
 refine vF ab [0,1,2,3,6,7,9,11,12,13,14,26] Tryz.func110 rfl Tryz.results110 Tryz.ntmps110 ?_;(refine' zg)
 refine vL (lv:=[0,1,2,3,6,7,9,11,12,13,14,26]) ab (XN L a b) (fun y=>y.1≤L.length∧y.2=co (L.take y.1) a b) (fun y=>L.length - y.1) ((0,[])) (aC.nil 7 5<|(aC.go [1,2,7,11,12,13] (by exact vT) rfl)) ?_ ?_
 ·exact ⟨Nat.zero_le _,rfl⟩
 rintro ⟨i,es⟩ ⟨h1,h2⟩;simp only at h1 h2;have hel:es.length≤i:=by
  have:=List.length_filter_le (fun x:Iy=> !(decide (x.2.1<a)||decide (b<x.2.1))) (L.take i);rw [List.length_take] at this;rw [h2];exact Nat.le_trans this (by omega)
 (refine' zg)
 ·refine aI.intro fun y hy =>?_
  have ht:co (L.take (i+1)) a b=co (L.take i) a b++co [y] a b:=by rw [ax hy,co,List.filter_append]
  obtain ⟨y1,y2,y3,y4,y5⟩:=y;(refine' zg)
  ·have e2:co [(y1,y2,y3,y4,y5)] a b=[(y1,y2,y3,y4,y5)]:=List.filter_cons_of_pos (by simp;omega);rw [e2,←h2] at ht;rw [show es.map cS++[D.agg [iD y1,iD y2,iD y3,iD y4,D.lit (Value.string y5)]]=(es++[(y1,y2,y3,y4,y5)]).map cS from qh es (y1,y2,y3,y4,y5)];refine aG.go ((i+1,es++[(y1,y2,y3,y4,y5)])) [1,2,7,11,12,13] (by exact vT) ?_ ?_
   ·show L.length - (i+1)<L.length - i;omega
   ·exact ⟨by simp only;omega,ht.symm⟩
  ·have e2:co [(y1,y2,y3,y4,y5)] a b=[]:=List.filter_cons_of_neg (by simp;omega);rw [e2,←h2,List.append_nil] at ht;refine aG.go ((i+1,es)) [1,2,7,11,12,13] (by exact vT) ?_ ?_
   ·show L.length - (i+1)<L.length - i;omega
   ·exact ⟨by simp only;omega,ht.symm⟩
 ·rw [List.take_of_length_le (by omega)] at h2;rw [←h2];refine ae.frz 0 (ae.out ?_);(refine' zg)
end
section
variable (l:List Int) (n:Int) (L:List Iy) (H:List Sn)
theorem Jc {H:List Sn} {a:Nat} : (pE H a).2<0↔cf H a=none:=by
 unfold pE;cases h:cf H a with
 | none=>simp
 | some x=>have:=di h;simp;omega
set_option maxHeartbeats 1600000 in
theorem FJ (hl:H.length≤1000000) (hll:l.length≤1000000) (a:Nat):an Tryz.prog G0 111 [QF l n L H,iv a] [] 0 (bv (eY l H a)) []:=by
 have r1:=qQ l n L H hl a;rcases Nat.lt_or_ge a l.length with hlt|hge
 ·obtain ⟨r,hr⟩ : ∃r,l[a]? = some r:=⟨_,List.getElem?_eq_getElem hlt⟩
  by_cases h10:r=10
  ·subst h10;have e:eY l H a=decide ((pE H a).2<0):=by
    rw [Bool.eq_iff_iff,decide_eq_true_eq,Jc,i3];simp [hr]
   rw [e];refine vF ab [0,1,2,4] Tryz.func111 rfl Tryz.results111 Tryz.ntmps111 ?_;(refine' ni r1 hr)
  ·rw [sF (by rw [hr];intro e;injection e with e;exact h10 e)];refine vF ab [0,1,2,4] Tryz.func111 rfl Tryz.results111 Tryz.ntmps111 ?_;(refine' ni r1 hr)
 ·rw [sF (by rw [List.getElem?_eq_none hge];simp)];refine vF ab [0,1,2,4] Tryz.func111 rfl Tryz.results111 Tryz.ntmps111 ?_;(refine' kW r1)
end
theorem B5 (r:Int) (a:Nat) (ha:a≤1000000):an Tryz.prog G0 113 [.so 0 3 0 0,rv r,iv a] [(0,xK [])] 1 (.so 1 3 0 1) [(1,xK [.tx 1 a [r]])]:=by
 refine vF ab [0,1,2,6,7,8,9,38] Tryz.func113 rfl Tryz.results113 Tryz.ntmps113 ?_;(refine' zg)
 refine ae.now [169] (by decide) ?_;(refine' zg)
 exact ap.cons rfl ap.nil
def Lk:Pz→Prop
 | .tx _ p rs=>0≤p∧p≤1000000∧rs.length≤1000000
 | .fo p=>0≤p∧p≤1000000
theorem iy {pre:List Pz} {k p:Int} {rs:List Int} {r:Int} {a:Nat} : e8 (pre++[.tx k p rs]) r a=if k=1∧p+rs.length=a then pre++[.tx 1 p (rs++[r])] else pre++[.tx k p rs]++[.tx 1 a [r]]:=by
 unfold e8;simp only [List.getLast?_append,List.getLast?_singleton,Option.some_or,List.dropLast_concat]
theorem lY {pre:List Pz} {p:Int} {r:Int} {a:Nat} : e8 (pre++[.fo p]) r a=pre++[.fo p]++[.tx 1 a [r]]:=by
 unfold e8;simp only [List.getLast?_append,List.getLast?_singleton,Option.some_or]
theorem J1 (pre:List Pz) (z x:Pz):List.map fF (List.take (pre.length+1) (pre++[z]))++[fF x]=(pre++[z]++[x]).map fF:=by
 rw [List.take_of_length_le (by simp),i5]
theorem RU (pre:List Pz) (z x:Pz):List.map fF (List.take (((pre.length:Int)+1 - 1).toNat - 0) (pre++[z]))++[fF x]=(pre++[x]).map fF:=by
 rw [show ((pre.length:Int)+1 - 1).toNat - 0=pre.length by omega,List.take_left',i5];rfl
theorem FH (pre:List Pz) (p:Int) (hl:pre.length≤100000000) (r:Int) (a:Nat) (ha:a≤1000000):an Tryz.prog G0 113 [.so 0 3 0 (pre.length+1),rv r,iv a] [(0,xK (pre++[.fo p]))] 1 (.so 1 3 0 (pre.length+2)) [(1,xK (pre++[.fo p]++[.tx 1 a [r]]))]:=by
 have hz:(pre++[Pz.fo p])[pre.length]? = some (.fo p):=by simp
 have hlen:(pre++[Pz.fo p]).length=pre.length+1:=by simp
 refine vF ab [0,1,2,6,7,8,9,38] Tryz.func113 rfl Tryz.results113 Tryz.ntmps113 ?_;(refine' pp hz)
 rw [show List.map fF (List.take (pre.length+1) (pre++[Pz.fo p]))++[D.agg [D.lit (Value.int IntKind.i64 1),D.lit (Value.int IntKind.i64 a),D.sd 1 false [D.lit (Value.int IntKind.i32 r)]]]=_ from J1 pre (.fo p) (.tx 1 a [r]),List.length_map,show (pre++[Pz.fo p]++[Pz.tx 1 a [r]]).length=pre.length+2 by simp];refine ae.now [169] (by decide) ?_;(refine' zg);first|exact aj _|exact ap.cons rfl ap.nil|exact ap.cons rfl (ap.cons rfl ap.nil)|exact ap.nil
theorem FI (pre:List Pz) (k p:Int) (rs:List Int) (hp:0≤p∧p≤1000000) (hrs:rs.length≤1000000) (hl:pre.length≤100000000) (r:Int) (a:Nat) (ha:a≤1000000) :
 an Tryz.prog G0 113 [.so 0 3 0 (pre.length+1),rv r,iv a] [(0,xK (pre++[.tx k p rs]))] 1 (.so 1 3 0 (e8 (pre++[.tx k p rs]) r a).length) [(1,xK (e8 (pre++[.tx k p rs]) r a))]:=by
 have hz:(pre++[Pz.tx k p rs])[pre.length]? = some (.tx k p rs):=by simp
 have hlen:(pre++[Pz.tx k p rs]).length=pre.length+1:=by simp
 refine vF ab [0,1,2,6,7,8,9,38] Tryz.func113 rfl Tryz.results113 Tryz.ntmps113 ?_;(refine' pp hz)
 ·rw [iy,if_pos ⟨by assumption,h⟩,x8,show List.map fF (List.take (((pre.length:Int)+1 - 1).toNat - 0) (pre++[Pz.tx k p rs]))++[D.agg [D.lit (Value.int IntKind.i64 1),iD p,D.sd 1 false (List.map dy (rs++[r]))]]=_ from RU pre (.tx k p rs) (.tx 1 p (rs++[r])),List.length_map];refine ae.now [245] (by decide) ?_;(refine' zg);first|exact aj _|exact ap.cons rfl ap.nil|exact ap.cons rfl (ap.cons rfl ap.nil)|exact ap.nil
 ·rw [iy,if_neg (fun e=>h e.2),show List.map fF (List.take (pre.length+1) (pre++[Pz.tx k p rs]))++[D.agg [D.lit (Value.int IntKind.i64 1),D.lit (Value.int IntKind.i64 a),D.sd 1 false [D.lit (Value.int IntKind.i32 r)]]]=_ from J1 pre (.tx k p rs) (.tx 1 a [r]),List.length_map];refine ae.now [169] (by decide) ?_;(refine' zg);first|exact aj _|exact ap.cons rfl ap.nil|exact ap.cons rfl (ap.cons rfl ap.nil)|exact ap.nil
 ·rw [iy,if_neg (fun e=>h e.1),show List.map fF (List.take (pre.length+1) (pre++[Pz.tx k p rs]))++[D.agg [D.lit (Value.int IntKind.i64 1),D.lit (Value.int IntKind.i64 a),D.sd 1 false [D.lit (Value.int IntKind.i32 r)]]]=_ from J1 pre (.tx k p rs) (.tx 1 a [r]),List.length_map];refine ae.now [169] (by decide) ?_;(refine' zg);first|exact aj _|exact ap.cons rfl ap.nil|exact ap.cons rfl (ap.cons rfl ap.nil)|exact ap.nil
theorem FG (acc:List Pz) (hok : ∀z∈acc,Lk z) (hl:acc.length≤100000000) (r:Int) (a:Nat) (ha:a≤1000000) :
 an Tryz.prog G0 113 [.so 0 3 0 acc.length,rv r,iv a] [(0,xK acc)] 1 (.so 1 3 0 (e8 acc r a).length) [(1,xK (e8 acc r a))]:=by
 rcases List.eq_nil_or_concat acc with rfl|⟨pre,z,rfl⟩
 ·exact B5 r a ha
 ·rw [List.concat_eq_append] at hok hl ⊢;have hz:=hok z (by simp);have hpl:(pre++[z]).length=pre.length+1:=by simp
  have hpl2:pre.length≤100000000:=by omega
  cases z with
  | tx k p rs=>
   have:=FI pre k p rs ⟨hz.1,hz.2.1⟩ hz.2.2 hpl2 r a ha;rw [←hpl] at this;exact this
  | fo p=>
   have:=FH pre p hpl2 r a ha;rw [show pre.length+2=(pre++[Pz.fo p]++[Pz.tx 1 a [r]]).length by simp,←hpl] at this;rw [lY];exact this
def XJ (l:List Int) (n:Int) (L:List Iy) (H:List Sn) (a0:Nat) (x:Nat × List Pz):St:=
 ⟨[(1,iv a0),(2,.po 0 0),(4,.po 1 0),(5,.so 2 3 0 x.2.length),(6,iv x.1)],[(0,UW l n L H),(1,.cell [.d aB,iv 0,iv 0]),(2,xK x.2)],3⟩
def XI (l:List Int) (n:Int) (L:List Iy) (H:List Sn) (a0 a:Nat) (M:List Iy) (x:Nat × List Pz):St:=
 ⟨[(1,iv a0),(2,.po 0 0),(4,.po 1 0),(5,.so 2 3 0 x.2.length),(6,iv a),(15,.d (.sd 5 false (M.map cS))),(16,iv M.length),(17,iv x.1)],[(0,UW l n L H),(1,.cell [.d aB,iv 0,iv 0]),(2,xK x.2)],3⟩
attribute [push_cast] XJ.eq_def XI.eq_def
structure ZK (l:List Int) (L:List Iy) (H:List Sn) (a0:Nat) (x:Nat × List Pz):Prop where
 le:x.1≤l.length
 ok : ∀z∈x.2,Lk z
 len:x.2.length≤2000*x.1
 fin:fQ l L H x.1 x.2=fQ l L H a0 []
theorem Ex {L:List Iy} {a:Nat} (hL : ∀y∈L,y.2.2.2.2.size≤1000000) (ha:a≤1000000) : ∀z∈b5 L a,Lk z:=by
 intro z hz;obtain ⟨y,hy,rfl⟩:=List.mem_map.1 hz;have h1:=hL y (List.mem_filter.1 hy).1;have h2:=bx y.2.2.2.2 _ 0 (Nat.le_refl _);exact ⟨by omega,by omega,by omega⟩
theorem Ew {acc:List Pz} {r:Int} {a:Nat} (h : ∀z∈acc,Lk z) (ha:a<20000) : ∀z∈e8 acc r a,Lk z:=by
 rcases List.eq_nil_or_concat acc with rfl|⟨pre,z,rfl⟩
 ·intro z hz;rw [show e8 [] r a=[.tx 1 a [r]] from rfl,List.mem_singleton] at hz;subst hz;exact ⟨by omega,by omega,by simp⟩
 ·rw [List.concat_eq_append] at h ⊢;have hn:Lk (.tx 1 a [r]):=⟨by omega,by omega,by simp⟩
  cases z with
  | tx k p rs=>
   have hz:=h (.tx k p rs) (by simp);rw [iy];split
   ·rename_i hc;intro y hy;rcases List.mem_append.1 hy with hy|hy
    ·exact h y (by simp [hy])
    ·rw [List.mem_singleton.1 hy];have:=hz.1;exact ⟨hz.1,hz.2.1,by simp;omega⟩
   ·intro y hy;rcases List.mem_append.1 hy with hy|hy
    ·exact h y hy
    ·rw [List.mem_singleton.1 hy];exact hn
  | fo p=>
   rw [lY];intro y hy;rcases List.mem_append.1 hy with hy|hy
   ·exact h y hy
   ·rw [List.mem_singleton.1 hy];exact hn
theorem yN (acc:List Pz) (r:Int) (a:Nat):(e8 acc r a).length≤acc.length+1:=by
 rcases List.eq_nil_or_concat acc with rfl|⟨pre,z,rfl⟩
 ·exact Nat.le_refl _
 ·rw [List.concat_eq_append];cases z with
  | tx k p rs=>rw [iy];split<;>simp
  | fo p=>rw [lY];simp
set_option maxHeartbeats 6400000 in
theorem O0 (l:List Int) (n:Int) (L:List Iy) (H:List Sn) (hl:H.length≤1000000) (hll:l.length≤20000) (hLl:L.length≤1000) (hL : ∀y∈L,y.2.2.2.2.size≤1000000) (hr:jp l.length 0 H=true) (a0:Nat) (ha0:a0≤l.length) :
 an Tryz.prog G0 55 [QF l n L H,iv a0] [] 0 (.d (.agg [.sd 3 false ((fQ l L H a0 []).1.map fF),iD a0,iD (fQ l L H a0 []).2])) []:=by
 refine vF ab [0,1,2,4,5,6,8,9,15,16,17,18,39,49] Tryz.func55 rfl Tryz.results55 Tryz.ntmps55 ?_;(refine' zg)
 refine vL (lv:=[0,1,2,4,5,6,8,9,15,16,17,18,39,49]) ab (XJ l n L H a0) (ZK l L H a0) (fun x=>l.length - x.1) ((a0,[])) (aC.nil 5 3<|(aC.go [1,2,4,5,6] (by exact vT) rfl)) ?_ ?_
 ·exact ⟨ha0,fun z hz=>by simp at hz,Nat.zero_le _,rfl⟩
 rintro ⟨a,acc⟩ ⟨h1,h2,h3,h4⟩;simp only at h1 h2 h3 h4;have w1:=B6 n L 0 (by omega) a a;have r1:=FJ l n L H hl (by omega) a;have r2:=qQ l n L H hl a;(refine' fj w1)
 have hML:(co L a a).length≤L.length:=List.length_filter_le _ _;refine vL (lv:=[0,1,2,4,5,6,8,9,15,16,17,18,39,49]) ab (XI l n L H a0 a (co L a a)) (fun x=>x.1≤(co L a a).length∧x.2=acc++((co L a a).take x.1).map fun y=> .tx 2 a (aa y.2.2.2.2 0)) (fun x=>(co L a a).length - x.1) ((0,acc)) ((aC.go [1,2,4,5,6,15,16,17] (by exact vT) rfl)) ?_ ?_
 ·exact ⟨Nat.zero_le _,by simp⟩
 rintro ⟨i,out⟩ ⟨g1,g2⟩;simp only at g1 g2;have hol:out.length=acc.length+i:=by rw [g2,List.length_append,List.length_map,List.length_take];omega
 rcases Nat.lt_or_ge i (co L a a).length with hi|hi
 ·obtain ⟨y,hy⟩ : ∃y,(co L a a)[i]? = some y:=⟨_,List.getElem?_eq_getElem hi⟩
  have hys:=hL y (List.mem_filter.1 (List.mem_of_getElem? hy)).1;have ht:acc++((co L a a).take (i+1)).map (fun y=>Pz.tx 2 a (aa y.2.2.2.2 0))=out++[.tx 2 a (aa y.2.2.2.2 0)]:=by
   rw [ax hy,List.map_append,←List.append_assoc,←g2];rfl
  obtain ⟨y1,y2,y3,y4,y5⟩:=y;have r3:=fK y5 (by simp only at hys;omega);(refine' fj r3)
  refine aI.is i _ (by omega) hy ?_;(refine' fj r3)
  rw [show out.map fF++[D.agg [D.lit (Value.int IntKind.i64 2),D.lit (Value.int IntKind.i64 a),D.sd 1 false ((aa y5 0).map dy)]]=(out++[Pz.tx 2 a (aa y5 0)]).map fF from i5 out (Pz.tx 2 a (aa y5 0)),List.length_map];refine aG.go ((i+1,out++[Pz.tx 2 a (aa y5 0)])) [1,2,4,5,6,15,16,17] (by exact vT) ?_ ?_
  ·show (co L a a).length - (i+1)<(co L a a).length - i;omega
  ·exact ⟨hi,ht.symm⟩
 ·have ho:out=acc++b5 L a:=by rw [g2,List.take_of_length_le hi];rfl
  have hok : ∀z∈out,Lk z:=by
   rw [ho];intro z hz;rcases List.mem_append.1 hz with hz|hz
   ·exact h2 z hz
   ·exact Ex hL (by omega) z hz
  by_cases hc:a<l.length∧eY l H a=false
  ·obtain ⟨c1,c2⟩:=hc;obtain ⟨r,hra⟩ : ∃r,l[a]? = some r:=⟨_,List.getElem?_eq_getElem c1⟩
   rw [c2] at r1;cases hx:cf H a with
   | none=>
    rw [fS hra c2 hx,←ho] at h4;have e:pE H a=(0,-1):=by rw [pE,hx];rfl
    rw [e] at r2;have r3:=FG out hok (by omega) r a (by omega);have hpl:=yN out r a;(refine' NH r1 r2 hra)
    refine au.ofN [2] r3 ?_;(refine' zg)
    refine aG.go ((a+1,e8 out r a)) [1,2,4,5,6] (by exact vT) ?_ ?_
    ·show l.length - (a+1)<l.length - a;omega
    ·exact ⟨c1,Ew hok (by omega),by show (e8 out r a).length≤2000*(a+1);omega,h4⟩
   | some x=>
    obtain ⟨k1,k2,k3⟩:=di hx;have k4:=cW hr x k1;obtain ⟨k,hk⟩ : ∃k:Nat,x.2=k:=⟨x.2.toNat,by omega⟩
    rw [gY c1 c2 hx hk (by omega),←ho] at h4;have e:pE H a=x:=by rw [pE,hx];rfl
    rw [e] at r2;(refine' BC r1 r2)
    rw [show out.map fF++[D.agg [D.lit (Value.int IntKind.i64 3),D.lit (Value.int IntKind.i64 a),D.lit (Value.slice none 0 0)]]=(out++[Pz.fo a]).map fF from i5 out (Pz.fo a),List.length_map,hk];refine aG.go ((k,out++[Pz.fo a])) [1,2,4,5,6] (by exact vT) ?_ ?_
    ·show l.length - k<l.length - a;omega
    ·refine ⟨by show k≤l.length;omega,fun z hz =>?_,by simp only [List.length_append,List.length_cons,List.length_nil];omega,h4⟩;rcases List.mem_append.1 hz with hz|hz
     ·exact hok z hz
     ·rw [List.mem_singleton.1 hz];exact ⟨by omega,by omega⟩
  ·rw [fR hc,←ho] at h4;rw [←h4];by_cases hal:a=l.length
   ·(refine' BC r1 r2)
    refine ae.frz 2 (ae.out ?_);(refine' zg)
   ·have c2:eY l H a=true:=by
     cases hb:eY l H a with
     | true=>rfl
     | false=>exact (hc ⟨by omega,hb⟩).elim
    rw [c2] at r1;(refine' BC r1 r2)
    refine ae.frz 2 (ae.out ?_);(refine' zg)
section
variable (l:List Int) (n:Int) (L:List Iy) (H:List Sn)
theorem Iv (hl:H.length≤1000000) (hll:l.length≤20000) (hLl:L.length≤1000) (hL : ∀y∈L,y.2.2.2.2.size≤1000000) (hso:HD L) (hr:jp l.length 0 H=true) (a:Nat) (ha:a≤l.length) (hb:a=0∨eY l H (a - 1)=true) :
 an Tryz.prog G0 55 [QF l n L H,iv a] [] 0 (.d (nS l L H (a,aF l H a))) []:=by
 have:=O0 l n L H hl hll hLl hL hr a ha;rw [pU hso hr ha (wU hb hr)] at this;exact this
def XM (y:List (Nat × Nat)):St:=⟨[(1,.po 0 0),(3,.so 1 3 0 y.length)],[(0,UW l n L H),(1,.row 3 (y.map (nS l L H)))],2⟩
attribute [push_cast] XM.eq_def
end
structure ZL (l:List Int) (H:List Sn) (y:List (Nat × Nat)):Prop where
 ex : ∃pre a,y=pre++[(a,aF l H a)]∧a≤l.length∧pre++aW l H a=aW l H 0∧pre.length≤a∧(a=0∨eY l H (a - 1)=true)
section
variable (l:List Int) (n:Int) (L:List Iy) (H:List Sn)
set_option maxHeartbeats 3200000 in
theorem DO (hl:H.length≤1000000) (hll:l.length≤20000) (hLl:L.length≤1000) (hL : ∀y∈L,y.2.2.2.2.size≤1000000) (hso:HD L) (hr:jp l.length 0 H=true) :
 an Tryz.prog G0 17 [QF l n L H] [] 0 (.d (.sd 3 false ((aW l H 0).map (nS l L H)))) []:=by
 have r2:an Tryz.prog G0 55 [QF l n L H,iv 0] [] 0 (.d (nS l L H (0,aF l H 0))) []:=Iv l n L H hl hll hLl hL hso hr 0 (Nat.zero_le _) (.inl rfl);refine vF ab [0,1,2,3,17] Tryz.func17 rfl Tryz.results17 Tryz.ntmps17 ?_;(refine' fj r2)
 refine vL (lv:=[0,1,2,3,17]) ab (XM l n L H) (ZL l H) (fun y=>l.length+1 - y.length) ([(0,aF l H 0)]) ((aC.go [1,3] (by exact vT) rfl)) ?_ ?_
 ·exact ⟨[],0,rfl,Nat.zero_le _,rfl,Nat.le_refl _,.inl rfl⟩
 rintro y ⟨pre,a,rfl,ha,hp,hpl,hb⟩;have he:=bU l H ha;have hy:(pre++[(a,aF l H a)])[pre.length]? = some (a,aF l H a):=by simp
 have hyl:(pre++[(a,aF l H a)]).length=pre.length+1:=by simp
 by_cases hc:aF l H a<l.length
 ·have hsh:=gu l H ha hc;have r4:=Iv l n L H hl hll hLl hL hso hr (aF l H a+1) hc (.inr hsh);have ec:((aF l H a+1:Nat):Int)=(aF l H a:Int)+1:=by omega
  rw [ec] at r4;(refine' zg)
  refine aI.is pre.length _ (by omega) hy ?_;(refine' zg)
  refine aI.is pre.length _ (by omega) hy ?_;(refine' fj r4)
  have e2:=KE (nS l L H) (pre++[(a,aF l H a)]) (aF l H a+1,aF l H (aF l H a+1));simp only [nS,ec] at e2;change (pre++[(a,aF l H a)]).map (nS l L H)++_=_ at e2;rw [e2,List.length_map];refine aG.go (pre++[(a,aF l H a)]++[(aF l H a+1,aF l H (aF l H a+1))]) [1,3] (by exact vT) ?_ ?_
  ·show l.length+1 - (pre++[(a,aF l H a)]++[(aF l H a+1,aF l H (aF l H a+1))]).length<l.length+1 - (pre++[(a,aF l H a)]).length;simp only [List.length_append,List.length_cons,List.length_nil];omega
  ·refine ⟨pre++[(a,aF l H a)],aF l H a+1,rfl,hc,?_,by simp only [List.length_append,List.length_cons,List.length_nil];omega,.inr hsh⟩;rw [←hp];conv=>rhs;rw [aW,dif_pos ⟨hc,he.1⟩]
   simp only [List.append_assoc,List.cons_append,List.nil_append]
 ·have hfin:pre++[(a,aF l H a)]=aW l H 0:=by
   rw [←hp,aW,dif_neg (by omega)]
  (refine' zg)
  refine aI.is pre.length _ (by omega) hy ?_;(refine' zg)
  rw [hfin];refine ae.frz 1 (ae.out ?_);(refine' zg)
theorem lC (i:Nat) (hi:i≤l.length):(aW l H i).length≤l.length+1 - i:=by
 have he:=bU l H hi;rw [aW,List.length_cons];split
 ·rename_i hlt;have:=lC (aF l H i+1) (by omega);omega
 ·simp;omega
termination_by l.length - i
decreasing_by omega
end
end Go.Proofs.YtkkanlcjjpoklaaGreatDoor
