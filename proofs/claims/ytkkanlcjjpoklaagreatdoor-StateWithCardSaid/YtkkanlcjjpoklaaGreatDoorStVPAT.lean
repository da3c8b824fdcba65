/- What the theorem leans on, part 20. -/
import Derived.Test.YtkkanlcjjpoklaaGreatDoorStVPAS
set_option linter.unusedSimpArgs false
set_option linter.unusedVariables false
set_option maxRecDepth 8000
namespace Go.Proofs.YtkkanlcjjpoklaaGreatDoor
def fH (l:List Pz) (r:Int) (a:Nat):List Pz:=
 match l.getLast? with
 | some (.tx k p rs)=>if k=1∧p+rs.length=a then l.dropLast++[.tx 1 p (rs++[r])] else l++[.tx 1 a [r]]
 | _=>l++[.tx 1 a [r]]
def cj (L:List Iy) (a:Nat):List Pz:=(b9 L a a).map fun y=> .tx 2 a (aa y.2.2.2.2 0)
def gx (l:List Int) (L:List Iy) (H:List Sn) (a:Nat) (acc:List Pz):List Pz × Nat:=
 if h:a<l.length∧gf l H a=false then
  match bb H a with
  | some x=>if h2:a<x.2.toNat then gx l L H x.2.toNat (acc++cj L a++[.fo a]) else (acc++cj L a,a)
  | none=>gx l L H (a+1) (fH (acc++cj L a) (l[a]'h.1) a)
 else (acc++cj L a,a)
termination_by l.length - a
theorem gy {l:List Int} {L:List Iy} {H:List Sn} {a:Nat} {acc:List Pz} (h : ¬(a<l.length∧gf l H a=false)):gx l L H a acc=(acc++cj L a,a):=by rw [gx,acX h]
theorem iP {l:List Int} {L:List Iy} {H:List Sn} {a k:Nat} {acc:List Pz} {x:Sn} (h:a<l.length) (hs:gf l H a=false) (hx:bb H a=some x) (hk:x.2=k) (hak:a<k):gx l L H a acc=gx l L H k (acc++cj L a++[.fo a]):=by
 rw [gx,acB ⟨h,hs⟩];simp only [hx];rw [hk,ack,acB hak]
theorem gz {l:List Int} {L:List Iy} {H:List Sn} {a:Nat} {acc:List Pz} {r:Int} (hr:l[a]? = some r) (hs:gf l H a=false) (hx:bb H a=none):gx l L H a acc=gx l L H (a+1) (fH (acc++cj L a) r a):=by
 obtain ⟨h,rfl⟩:=aaX.1 hr;rw [gx,acB ⟨h,hs⟩];simp only [hx]
def Tz (acc:List Pz) (a:Nat):Prop:= ∀p rs,acc.getLast? = some (.tx 1 p rs)→p+rs.length≠a
def eJ (l:List Int) (acc:List Pz) (c a:Nat):List Pz:=if c<a then acc++[.tx 1 c (iq l c a)] else acc
theorem rR (l:List Int) {a b:Nat} (h:b≤l.length):(iq l a b).length=b - a:=by simp [iq];omega
theorem HF {l:List Int} {a b:Nat} {r:Int} (h:a≤b) (hr:l[b]? = some r):iq l a (b+1)=iq l a b++[r]:=by
 have hb:=(aaX.1 hr).1;unfold iq;rw [ao hr,List.drop_append_of_le_length (by rw [aa7];omega)]
theorem HE (l:List Int) (a:Nat):iq l a a=[]:=by
 unfold iq;rw [List.drop_eq_nil_of_le];rw [aa7];omega
theorem NH {acc:List Pz} {r:Int} {a:Nat} (h:Tz acc a):fH acc r a=acc++[.tx 1 a [r]]:=by
 unfold fH;split
 ·rename_i k p rs hg;split
  ·rename_i hk;obtain ⟨rfl,h2⟩:=hk;exact (h p rs hg h2).elim
  ·rfl
 ·rfl
theorem wy {l:List Int} {acc:List Pz} {c a:Nat} {r:Int} (hca:c≤a) (hr:l[a]? = some r) (hn:c=a→Tz acc a):fH (eJ l acc c a) r a=eJ l acc c (a+1):=by
 have hb:=(aaX.1 hr).1;rw [eJ,eJ,aa3 (show c<a+1 by omega),HF hca hr];by_cases hc:c<a
 ·rw [aa3 hc,fH];simp only [ada,adn,aee];rw [aa3 ⟨by trivial,by rw [rR l (by omega)];omega⟩,adC]
 ·obtain rfl:c=a:=by omega
  rw [aaY hc,NH (hn rfl),HE,abL]
def JD (L:List Iy):Prop:=L.Pairwise fun x y=>x.2.1≤y.2.1
theorem Eg {L:List Iy} (h:JD L) (a b:Int) (hab:a<b):b9 L a b=b9 L a a++b9 L (a+1) b:=by
 induction L with
 | nil=>rfl
 | cons x r ih=>
  have h1:=(abR.1 h).1;have h2:=ih (abR.1 h).2;simp only [b9] at h2 ⊢;by_cases q1:x.2.1<a
  ·rw [abv (by simp;omega),abv (by simp;omega),abv (by simp;omega),h2]
  ·by_cases q2:x.2.1=a
   ·rw [abA (by simp;omega),abA (by simp;omega),abv (by simp;omega),h2,abG]
   ·have e1:r.filter (fun x=> !(decide (x.2.1<a)||decide (a<x.2.1)))=[]:=acd.2 fun y hy=>by
     have:=h1 y hy;simp;omega
    rw [e1] at h2;by_cases q3:b<x.2.1
    ·rw [abv (by simp;omega),abv (by simp;omega),abv (by simp;omega),e1,h2]
    ·rw [abA (by simp;omega),abv (by simp;omega),abA (by simp;omega),e1,h2];rfl
theorem mG (l:List Int) (b c a:Nat) (hca:c≤a) : ∀(M R:List Iy),(∀y∈M,y.2.1=a)→M≠[]→dc l b c (M++R)=eJ l [] c a++(M.map fun y=> .tx 2 a (aa y.2.2.2.2 0))++dc l b a R
 | [],R,_,hne=>(hne rfl).elim
 | y::M,R,h,_=>by
  have hy:=h y (by simp);rw [abG,dc,hy,ack,show max c a=a by omega,eJ];have ht:dc l b a (M++R)=(M.map fun y=>Pz.tx 2 a (aa y.2.2.2.2 0))++dc l b a R:=by
   by_cases hm:M=[]
   ·subst hm;rfl
   ·rw [mG l b a a (aaV _) M R (fun z hz=>h z (by simp [hz])) hm,eJ,aaY (by omega),abL]
  rw [ht];split<;>simp
theorem Nv {acc:List Pz} {L:List Iy} {a:Nat} (h:cj L a≠[]) (b:Nat):Tz (acc++cj L a) b:=by
 intro p rs hg;rw [ada] at hg;unfold cj at h hg;rw [List.getLast?_map] at hg;cases hl:(b9 L a a).getLast? with
 | none=>exact (h (by rw [List.getLast?_eq_none_iff.1 hl];rfl)).elim
 | some y=>rw [hl] at hg;simp at hg
theorem j8 {l:List Int} {L:List Iy} {H:List Sn} (hL:JD L) (b:Nat) (hb:b≤l.length) : ∀(d a c:Nat) (acc:List Pz),b - a=d→c≤a→a≤b→(c=a→Tz acc a)→(∀k,a≤k→k<b→gf l H k=false∧bb H k=none) →
 ∃acc',gx l L H a (eJ l acc c a)=gx l L H b acc'∧acc'++cj L b=acc++dc l b c (b9 L a b)
 | 0,a,c,acc,hd,hca,hab,hn,hk=>by
  obtain rfl:a=b:=by omega
  refine ⟨_,rfl,?_⟩;by_cases hm:b9 L a a=[]
  ·rw [cj,hm,acl,abb,dc,eJ];split<;>simp
  ·have:=mG l a c a hca (b9 L a a) [] (fun y hy=>by have:=(acj.1 hy).2;simp at this;omega) hm;rw [abb] at this;rw [this,dc,aaY (by omega),abb,eJ,eJ,cj];split<;>simp
 | d+1,a,c,acc,hd,hca,hab,hn,hk=>by
  obtain ⟨h1,h2⟩:=hk a (aaV _) (by omega);obtain ⟨r,hr⟩ : ∃r,l[a]? = some r:=⟨_,IO (by omega)⟩
  rw [gz hr h1 h2];have hsp:=Eg hL a b (by omega);have ec:((a+1:Nat):Int)=(a:Int)+1:=by omega
  by_cases hm:b9 L a a=[]
  ·have e:cj L a=[]:=by rw [cj,hm];rfl
   rw [e,abb,wy hca hr hn];obtain ⟨acc',g1,g2⟩:=j8 hL b hb d (a+1) c acc (by omega) (by omega) (by omega) (fun h=>by omega) (fun k q1 q2=>hk k (by omega) q2);refine ⟨acc',g1,?_⟩;rw [g2,hsp,hm,abL,ec]
  ·have hne:cj L a≠[]:=by rw [cj];simpa using hm
   have h3:=wy (l:=l) (acc:=eJ l acc c a++cj L a) (c:=a) (a:=a) (aaV _) hr (fun _=>Nv hne a);rw [eJ,aaY (by omega)] at h3;rw [h3];obtain ⟨acc',g1,g2⟩:=j8 hL b hb d (a+1) a (eJ l acc c a++cj L a) (by omega) (by omega) (by omega) (fun h=>by omega) (fun k q1 q2=>hk k (by omega) q2);refine ⟨acc',g1,?_⟩;rw [g2,hsp,mG l b c a hca _ _ (fun y hy=>by have:=(acj.1 hy).2;simp at this;omega) hm,ec,eJ,eJ,cj];split<;>simp
theorem oB {l:List Int} {L:List Iy} (hL:JD L) (H0:List Sn) {e:Nat} (he:e≤l.length) : ∀(H pre:List Sn) (a:Nat) (acc:List Pz) (last:Int),H0=pre++H→fS l.length 0 H0=true→fS l.length last H=true→(∀x∈pre,x.2≤a)→last≤a→a≤e→aE l H0 a=e→Tz acc a→(∀x∈H,x.1<a→x.2≤a) →
 gx l L H0 a acc=(acc++ci l L e a H,e)
 | [],pre,a,acc,last,e0,hr,_,hp,hla,hae,hend,hn,hin=>by
  have hk : ∀k,a≤k→k<e→gf l H0 k=false∧bb H0 k=none:=fun k q1 q2=>by
   refine ⟨yH l H0 (by omega) q1 (by omega),?_⟩;cases hx:bb H0 k with
   | none=>rfl
   | some x=>
    obtain ⟨g1,g2,g3⟩:=bV hx;rw [e0,abb] at g1;have:=hp x g1;omega
  obtain ⟨acc',g1,g2⟩:=j8 hL e he (e - a) a a acc rfl (aaV _) hae (fun _=>hn) hk;rw [eJ,aaY (by omega)] at g1;rw [g1,gy,g2]
  ·rfl
  ·rintro ⟨q1,q2⟩;have:=eC l H0 (i:=a) (by omega) (by omega);rw [hend,q2] at this;cases this
 | x::H,pre,a,acc,last,e0,hr,hr2,hp,hla,hae,hend,hn,hin=>by
  have hxin:=hin x (by simp);obtain ⟨⟨q1,q2,q3⟩,q4⟩:=bZ.1 hr2;have hxm:x∈H0:=by rw [e0];simp
  have hx0:=bE hr x hxm;by_cases hc:x.1<a∨(e:Int)<x.2
  ·rw [ci,aa3 hc];by_cases hxa:x.2≤a
   ·exact oB hL H0 he H (pre++[x]) a acc x.2 (by rw [e0];simp) hr q4 (fun y hy=>by
     rcases abe.1 hy with hy|hy
     ·exact hp y hy
     ·rw [abK.1 hy];exact hxa) hxa hae hend hn (fun y hy=>hin y (by simp [hy]))
   ·-- x begins behind e: nothing more is hidden
    have hxe:(e:Int)<x.1:=by
     rcases Int.lt_or_le (e:Int) x.1 with h|h
     ·exact h
     exfalso;rcases hc with hc|hc
     ·omega
     ·by_cases hel:e<l.length
      ·have h1:=eC l H0 (i:=a) (by omega) (by omega);rw [hend,nR hr hxm h hc] at h1;cases h1
      ·omega
    have hrun : ∀(K:List Sn) (dU:Int),fS l.length dU K=true→(e:Int)<dU→ci l L e a K=dc l e a (b9 L a e):=by
     intro K;induction K with
     | nil=>intro dU _ _;rfl
     | cons y K ih=>
      intro dU h1 h2;obtain ⟨⟨k1,k2,k3⟩,k4⟩:=bZ.1 h1;rw [ci,aa3 (.inr (by omega))];exact ih y.2 k4 (by omega)
    rw [hrun H x.2 q4 (by omega)];have hk : ∀k,a≤k→k<e→gf l H0 k=false∧bb H0 k=none:=fun k r1 r2=>by
     refine ⟨yH l H0 (by omega) r1 (by omega),?_⟩;cases hy:bb H0 k with
     | none=>rfl
     | some y=>
      obtain ⟨g1,g2,g3⟩:=bV hy;rw [e0] at g1;rcases abe.1 g1 with g1|g1
      ·have:=hp y g1;omega
      ·rcases abi.1 g1 with rfl|g1
       ·omega
       ·have:=bE q4 y g1;omega
    obtain ⟨acc',g1,g2⟩:=j8 hL e he (e - a) a a acc rfl (aaV _) hae (fun _=>hn) hk;rw [eJ,aaY (by omega)] at g1;rw [g1,gy,g2];rintro ⟨r1,r2⟩;have:=eC l H0 (i:=a) (by omega) (by omega);rw [hend,r2] at this;cases this
  ·rw [ci,aaY hc];obtain ⟨j,hj⟩ : ∃j:Nat,x.1=j:=⟨x.1.toNat,by omega⟩
   obtain ⟨m,hm⟩ : ∃m:Nat,x.2=m:=⟨x.2.toNat,by omega⟩
   rw [hj,hm,ack,ack];have hk : ∀k,a≤k→k<j→gf l H0 k=false∧bb H0 k=none:=fun k r1 r2=>by
    refine ⟨yH l H0 (by omega) r1 (by omega),?_⟩;cases hy:bb H0 k with
    | none=>rfl
    | some y=>
     obtain ⟨g1,g2,g3⟩:=bV hy;rw [e0] at g1;rcases abe.1 g1 with g1|g1
     ·have:=hp y g1;omega
     ·rcases abi.1 g1 with rfl|g1
      ·omega
      ·have:=bE q4 y g1;omega
   obtain ⟨acc',g1,g2⟩:=j8 hL j (by omega) (j - a) a a acc rfl (aaV _) (by omega) (fun _=>hn) hk;rw [eJ,aaY (by omega)] at g1;have hx:bb H0 (j:Nat)=some x:=nn hr x hxm _ (by omega) (by omega);have hend2:aE l H0 m=e:=by
    rw [←hend];have e1:aE l H0 a=aE l H0 j:=gn _ _ _ _ (by omega) (by omega) fun k r1 r2=>(hk k r1 r2).1
    rw [e1];exact (gn _ _ _ _ (by omega) (by omega) fun k r1 r2=>nR hr hxm (by omega) (by omega)).symm
   rw [g1,iP (by omega) (nR hr hxm (by omega) (by omega)) hx hm (by omega),g2,
    oB hL H0 he H (pre++[x]) m _ x.2 (by rw [e0];simp) hr q4 (fun y hy=>by
     rcases abe.1 hy with hy|hy
     ·have:=hp y hy;omega
     ·rw [abK.1 hy];omega) (by omega) (by omega) hend2 (fun p rs hg=>by simp at hg) (fun y hy h=>by have:=bE q4 y hy;omega)]
   simp
theorem qF {l:List Int} {L:List Iy} {H:List Sn} (hL:JD L) (hr:fS l.length 0 H=true) {a:Nat} (ha:a≤l.length) (hin : ∀x∈H,x.1<a→x.2≤a):gx l L H a []=(ci l L (aE l H a) a H,aE l H a):=by
 have he:=bM l H ha;have:=oB hL H he.2 H [] a [] 0 rfl hr hr (fun _ h=>by cases h) (by omega) he.1 rfl (fun p rs h=>by cases h) hin;rwa [abL] at this
theorem rx {l:List Int} {H:List Sn} {a:Nat} (h:a=0∨gf l H (a - 1)=true) (hr:fS l.length 0 H=true) : ∀x∈H,x.1<a→x.2≤a:=by
 intro x hx hlt;have h0:=bE hr x hx;rcases h with rfl|h
 ·omega
 ·have h1:=ld (fp.1 h).2 x hx;omega
abbrev Ti (l:List Int) (n:Int) (L:List Iy) (H:List Sn):V:= .d (.agg [.sd 1 false (l.map dm),iD n,.sd 5 false (L.map cT),iD 0,.sd 2 false (H.map bA)])
abbrev XS (l:List Int) (n:Int) (L:List Iy) (H:List Sn):bN:= .cell [Az l,iv n,.d (.sd 5 false (L.map cT)),iv 0,.d (.sd 2 false (H.map bA))]
section
variable (l:List Int) (n:Int) (L:List Iy) (H:List Sn)
def qr (H:List Sn) (a:Int):Sn:=(bb H a).getD (0,-1)
theorem H2 {H:List Sn} {i:Nat} {y:Sn} {a:Int} (h:bb (y::H.drop (i+1)) a=bb H a) (hy:y.1≤a∧a<y.2):qr H a=y:=by
 rw [qr,←h];unfold bb;rw [ac6,da.2 hy];rfl
theorem OG {r:List Sn} {y:Sn} {a:Int} (hy : ¬(y.1≤a∧a<y.2)):bb (y::r) a=bb r a:=by
 have e:f9 a y=false:=by
  cases hb:f9 a y with
  | false=>rfl
  | true=>exact (hy (da.1 hb)).elim
 unfold bb;rw [ac6,e]
def dhS (l:List Int) (n:Int) (L:List Iy) (H:List Sn) (a:Int) (i:Nat):St:=⟨[(1,iv a),(4,.po 0 0),(8,zF H),(9,iv H.length),(10,iv i)],[(0,.cell [iv 0,iv 0])],1⟩
attribute [push_cast] dhS.eq_def
set_option maxHeartbeats 1600000 in
theorem rS (hl:H.length≤1000000) (a:Int):ap Tryz.prog G0 112 [Ti l n L H,iv a] [] 0 (.d (bA (qr H a))) []:=by
 refine vF ab [0,1,2,4,6,8,9,10,11,23] Tryz.func112 rfl Tryz.results112 Tryz.ntmps112 ?_;(refine' zg)
 refine vL (lv:=[0,1,2,4,6,8,9,10,11,23]) ab (dhS l n L H a) (fun i=>i≤H.length∧bb (H.drop i) a=bb H a) (fun i=>H.length - i) (0) ((aC.go [1,4,8,9,10] (by exact vT) rfl)) ?_ ?_
 ·exact ⟨aa1 _,rfl⟩
 rintro i ⟨h1,h2⟩;(refine' zg)
 ·refine aF.intro fun y hy =>?_
  rw [dj hy] at h2;(refine' zg)
  ·rw [H2 h2 (by omega)];refine ae.out ?_;(refine' zg)
  ·refine aG.go (i+1) [1,4,8,9,10] (by exact vT) ?_ ?_
   ·show H.length - (i+1)<H.length - i;omega
   ·exact ⟨by omega,by rw [←h2,OG (by omega)]⟩
 ·rw [abo (by omega)] at h2;have e:qr H a=(0,-1):=by rw [qr,←h2];rfl
  rw [e];refine ae.out ?_;(refine' zg)
def dwS (L:List Iy) (a b:Int) (y:Nat × List Iy):St:=⟨[(1,iv a),(2,iv b),(7,.so 0 5 0 y.2.length),(11,.d (.sd 5 false (L.map cT))),(12,iv L.length),(13,iv y.1)],[(0,El y.2)],1⟩
attribute [push_cast] dwS.eq_def
theorem qT (es:List Iy) (x:Iy):es.map cT++[cT x]=(es++[x]).map cT:=by rw [abc];rfl
set_option maxHeartbeats 1600000 in
theorem DT (e:Int) (hl:L.length≤1000000) (a b:Int):ap Tryz.prog G0 110 [.d (.agg [iD n,.sd 5 false (L.map cT),iD e]),iv a,iv b] [] 0 (.d (.sd 5 false ((b9 L a b).map cT))) []:=by
 refine vF ab [0,1,2,3,6,7,9,11,12,13,14,26] Tryz.func110 rfl Tryz.results110 Tryz.ntmps110 ?_;(refine' zg)
 refine vL (lv:=[0,1,2,3,6,7,9,11,12,13,14,26]) ab (dwS L a b) (fun y=>y.1≤L.length∧y.2=b9 (L.take y.1) a b) (fun y=>L.length - y.1) ((0,[])) (aC.nil 7 5<|(aC.go [1,2,7,11,12,13] (by exact vT) rfl)) ?_ ?_
 ·exact ⟨aa1 _,rfl⟩
 rintro ⟨i,es⟩ ⟨h1,h2⟩;simp only at h1 h2;have hel:es.length≤i:=by
  have:=acp (fun x:Iy=> !(decide (x.2.1<a)||decide (b<x.2.1))) (L.take i);rw [aa7] at this;rw [h2];exact ab5 this (by omega)
 (refine' zg)
 ·refine aF.intro fun y hy =>?_
  have ht:b9 (L.take (i+1)) a b=b9 (L.take i) a b++b9 [y] a b:=by rw [ao hy,b9,acg]
  obtain ⟨y1,y2,y3,y4,y5⟩:=y;(refine' zg)
  ·have e2:b9 [(y1,y2,y3,y4,y5)] a b=[(y1,y2,y3,y4,y5)]:=abA (by simp;omega);rw [e2,←h2] at ht;rw [show es.map cT++[D.agg [iD y1,iD y2,iD y3,iD y4,D.lit (Value.string y5)]]=(es++[(y1,y2,y3,y4,y5)]).map cT from qT es (y1,y2,y3,y4,y5)];refine aG.go ((i+1,es++[(y1,y2,y3,y4,y5)])) [1,2,7,11,12,13] (by exact vT) ?_ ?_
   ·show L.length - (i+1)<L.length - i;omega
   ·exact ⟨by simp only;omega,ht.symm⟩
  ·have e2:b9 [(y1,y2,y3,y4,y5)] a b=[]:=abv (by simp;omega);rw [e2,←h2,abb] at ht;refine aG.go ((i+1,es)) [1,2,7,11,12,13] (by exact vT) ?_ ?_
   ·show L.length - (i+1)<L.length - i;omega
   ·exact ⟨by simp only;omega,ht.symm⟩
 ·rw [aaW (by omega)] at h2;rw [←h2];refine ae.frz 0 (ae.out ?_);(refine' zg)
end
section
variable (l:List Int) (n:Int) (L:List Iy) (H:List Sn)
theorem La {H:List Sn} {a:Nat} : (qr H a).2<0↔bb H a=none:=by
 unfold qr;cases h:bb H a with
 | none=>simp
 | some x=>have:=bV h;simp;omega
set_option maxHeartbeats 1600000 in
theorem HJ (hl:H.length≤1000000) (hll:l.length≤1000000) (a:Nat):ap Tryz.prog G0 111 [Ti l n L H,iv a] [] 0 (bv (gf l H a)) []:=by
 have r1:=rS l n L H hl a;rcases aa2 a l.length with hlt|hge
 ·obtain ⟨r,hr⟩ : ∃r,l[a]? = some r:=⟨_,IO hlt⟩
  by_cases h10:r=10
  ·subst h10;have e:gf l H a=decide ((qr H a).2<0):=by
    rw [act,abs,La,fp];simp [hr]
   rw [e];refine vF ab [0,1,2,4] Tryz.func111 rfl Tryz.results111 Tryz.ntmps111 ?_;(refine' uO r1 hr)
  ·rw [tH (by rw [hr];intro e;injection e with e;exact h10 e)];refine vF ab [0,1,2,4] Tryz.func111 rfl Tryz.results111 Tryz.ntmps111 ?_;(refine' uO r1 hr)
 ·rw [tH (by rw [abz hge];simp)];refine vF ab [0,1,2,4] Tryz.func111 rfl Tryz.results111 Tryz.ntmps111 ?_;(refine' lK r1)
end
theorem DS (r:Int) (a:Nat) (ha:a≤1000000):ap Tryz.prog G0 113 [.so 0 3 0 0,rv r,iv a] [(0,zp [])] 1 (.so 1 3 0 1) [(1,zp [.tx 1 a [r]])]:=by
 refine vF ab [0,1,2,6,7,8,9,38] Tryz.func113 rfl Tryz.results113 Tryz.ntmps113 ?_;(refine' zg)
 refine ae.now [169] (by decide) ?_;(refine' zg)
 exact ar.cons rfl ar.nil
def Nw:Pz→Prop
 | .tx _ p rs=>0≤p∧p≤1000000∧rs.length≤1000000
 | .fo p=>0≤p∧p≤1000000
theorem jf {pre:List Pz} {k p:Int} {rs:List Int} {r:Int} {a:Nat} : fH (pre++[.tx k p rs]) r a=if k=1∧p+rs.length=a then pre++[.tx 1 p (rs++[r])] else pre++[.tx k p rs]++[.tx 1 a [r]]:=by
 unfold fH;simp only [ada,adn,aee,adC]
theorem mQ {pre:List Pz} {p:Int} {r:Int} {a:Nat} : fH (pre++[.fo p]) r a=pre++[.fo p]++[.tx 1 a [r]]:=by
 unfold fH;simp only [ada,adn,aee]
theorem LZ (pre:List Pz) (z x:Pz):List.map iA (List.take (pre.length+1) (pre++[z]))++[iA x]=(pre++[z]++[x]).map iA:=by
 rw [aaW (by simp),jH]
theorem Ux (pre:List Pz) (z x:Pz):List.map iA (List.take (((pre.length:Int)+1 - 1).toNat - 0) (pre++[z]))++[iA x]=(pre++[x]).map iA:=by
 rw [show ((pre.length:Int)+1 - 1).toNat - 0=pre.length by omega,List.take_left',jH];rfl
theorem HH (pre:List Pz) (p:Int) (hl:pre.length≤100000000) (r:Int) (a:Nat) (ha:a≤1000000):ap Tryz.prog G0 113 [.so 0 3 0 (pre.length+1),rv r,iv a] [(0,zp (pre++[.fo p]))] 1 (.so 1 3 0 (pre.length+2)) [(1,zp (pre++[.fo p]++[.tx 1 a [r]]))]:=by
 have hz:(pre++[Pz.fo p])[pre.length]? = some (.fo p):=by simp
 have hlen:(pre++[Pz.fo p]).length=pre.length+1:=by simp
 refine vF ab [0,1,2,6,7,8,9,38] Tryz.func113 rfl Tryz.results113 Tryz.ntmps113 ?_;(refine' jY hz)
 rw [show List.map iA (List.take (pre.length+1) (pre++[Pz.fo p]))++[D.agg [D.lit (Value.int IntKind.i64 1),D.lit (Value.int IntKind.i64 a),D.sd 1 false [D.lit (Value.int IntKind.i32 r)]]]=_ from LZ pre (.fo p) (.tx 1 a [r]),aa4,show (pre++[Pz.fo p]++[Pz.tx 1 a [r]]).length=pre.length+2 by simp];refine ae.now [169] (by decide) ?_;(refine' zg);first|exact aj _|exact ar.cons rfl ar.nil|exact ar.cons rfl (ar.cons rfl ar.nil)|exact ar.nil
theorem HI (pre:List Pz) (k p:Int) (rs:List Int) (hp:0≤p∧p≤1000000) (hrs:rs.length≤1000000) (hl:pre.length≤100000000) (r:Int) (a:Nat) (ha:a≤1000000) :
 ap Tryz.prog G0 113 [.so 0 3 0 (pre.length+1),rv r,iv a] [(0,zp (pre++[.tx k p rs]))] 1 (.so 1 3 0 (fH (pre++[.tx k p rs]) r a).length) [(1,zp (fH (pre++[.tx k p rs]) r a))]:=by
 have hz:(pre++[Pz.tx k p rs])[pre.length]? = some (.tx k p rs):=by simp
 have hlen:(pre++[Pz.tx k p rs]).length=pre.length+1:=by simp
 refine vF ab [0,1,2,6,7,8,9,38] Tryz.func113 rfl Tryz.results113 Tryz.ntmps113 ?_;(refine' jY hz)
 ·rw [jf,aa3 ⟨by assumption,h⟩,zI,show List.map iA (List.take (((pre.length:Int)+1 - 1).toNat - 0) (pre++[Pz.tx k p rs]))++[D.agg [D.lit (Value.int IntKind.i64 1),iD p,D.sd 1 false (List.map dm (rs++[r]))]]=_ from Ux pre (.tx k p rs) (.tx 1 p (rs++[r])),aa4];refine ae.now [245] (by decide) ?_;(refine' zg);first|exact aj _|exact ar.cons rfl ar.nil|exact ar.cons rfl (ar.cons rfl ar.nil)|exact ar.nil
 ·rw [jf,aaY (fun e=>h e.2),show List.map iA (List.take (pre.length+1) (pre++[Pz.tx k p rs]))++[D.agg [D.lit (Value.int IntKind.i64 1),D.lit (Value.int IntKind.i64 a),D.sd 1 false [D.lit (Value.int IntKind.i32 r)]]]=_ from LZ pre (.tx k p rs) (.tx 1 a [r]),aa4];refine ae.now [169] (by decide) ?_;(refine' zg);first|exact aj _|exact ar.cons rfl ar.nil|exact ar.cons rfl (ar.cons rfl ar.nil)|exact ar.nil
 ·rw [jf,aaY (fun e=>h e.1),show List.map iA (List.take (pre.length+1) (pre++[Pz.tx k p rs]))++[D.agg [D.lit (Value.int IntKind.i64 1),D.lit (Value.int IntKind.i64 a),D.sd 1 false [D.lit (Value.int IntKind.i32 r)]]]=_ from LZ pre (.tx k p rs) (.tx 1 a [r]),aa4];refine ae.now [169] (by decide) ?_;(refine' zg);first|exact aj _|exact ar.cons rfl ar.nil|exact ar.cons rfl (ar.cons rfl ar.nil)|exact ar.nil
theorem HG (acc:List Pz) (hok : ∀z∈acc,Nw z) (hl:acc.length≤100000000) (r:Int) (a:Nat) (ha:a≤1000000) :
 ap Tryz.prog G0 113 [.so 0 3 0 acc.length,rv r,iv a] [(0,zp acc)] 1 (.so 1 3 0 (fH acc r a).length) [(1,zp (fH acc r a))]:=by
 rcases ab8 acc with rfl|⟨pre,z,rfl⟩
 ·exact DS r a ha
 ·rw [ab2] at hok hl ⊢;have hz:=hok z (by simp);have hpl:(pre++[z]).length=pre.length+1:=by simp
  have hpl2:pre.length≤100000000:=by omega
  cases z with
  | tx k p rs=>
   have:=HI pre k p rs ⟨hz.1,hz.2.1⟩ hz.2.2 hpl2 r a ha;rw [←hpl] at this;exact this
  | fo p=>
   have:=HH pre p hpl2 r a ha;rw [show pre.length+2=(pre++[Pz.fo p]++[Pz.tx 1 a [r]]).length by simp,←hpl] at this;rw [mQ];exact this
def daS (l:List Int) (n:Int) (L:List Iy) (H:List Sn) (a0:Nat) (x:Nat × List Pz):St:=
 ⟨[(1,iv a0),(2,.po 0 0),(4,.po 1 0),(5,.so 2 3 0 x.2.length),(6,iv x.1)],[(0,XS l n L H),(1,.cell [.d aB,iv 0,iv 0]),(2,zp x.2)],3⟩
def daI (l:List Int) (n:Int) (L:List Iy) (H:List Sn) (a0 a:Nat) (M:List Iy) (x:Nat × List Pz):St:=
 ⟨[(1,iv a0),(2,.po 0 0),(4,.po 1 0),(5,.so 2 3 0 x.2.length),(6,iv a),(15,.d (.sd 5 false (M.map cT))),(16,iv M.length),(17,iv x.1)],[(0,XS l n L H),(1,.cell [.d aB,iv 0,iv 0]),(2,zp x.2)],3⟩
attribute [push_cast] daS.eq_def daI.eq_def
structure DaP (l:List Int) (L:List Iy) (H:List Sn) (a0:Nat) (x:Nat × List Pz):Prop where
 le:x.1≤l.length
 ok : ∀z∈x.2,Nw z
 len:x.2.length≤2000*x.1
 fin:gx l L H x.1 x.2=gx l L H a0 []
theorem Gu {L:List Iy} {a:Nat} (hL : ∀y∈L,y.2.2.2.2.size≤1000000) (ha:a≤1000000) : ∀z∈cj L a,Nw z:=by
 intro z hz;obtain ⟨y,hy,rfl⟩:=abY.1 hz;have h1:=hL y (acj.1 hy).1;have h2:=bh y.2.2.2.2 _ 0 (aaV _);exact ⟨by omega,by omega,by omega⟩
theorem Gt {acc:List Pz} {r:Int} {a:Nat} (h : ∀z∈acc,Nw z) (ha:a<20000) : ∀z∈fH acc r a,Nw z:=by
 rcases ab8 acc with rfl|⟨pre,z,rfl⟩
 ·intro z hz;rw [show fH [] r a=[.tx 1 a [r]] from rfl,abK] at hz;subst hz;exact ⟨by omega,by omega,by simp⟩
 ·rw [ab2] at h ⊢;have hn:Nw (.tx 1 a [r]):=⟨by omega,by omega,by simp⟩
  cases z with
  | tx k p rs=>
   have hz:=h (.tx k p rs) (by simp);rw [jf];split
   ·rename_i hc;intro y hy;rcases abe.1 hy with hy|hy
    ·exact h y (by simp [hy])
    ·rw [abK.1 hy];have:=hz.1;exact ⟨hz.1,hz.2.1,by simp;omega⟩
   ·intro y hy;rcases abe.1 hy with hy|hy
    ·exact h y hy
    ·rw [abK.1 hy];exact hn
  | fo p=>
   rw [mQ];intro y hy;rcases abe.1 hy with hy|hy
   ·exact h y hy
   ·rw [abK.1 hy];exact hn
theorem AJ (acc:List Pz) (r:Int) (a:Nat):(fH acc r a).length≤acc.length+1:=by
 rcases ab8 acc with rfl|⟨pre,z,rfl⟩
 ·exact aaV _
 ·rw [ab2];cases z with
  | tx k p rs=>rw [jf];split<;>simp
  | fo p=>rw [mQ];simp
set_option maxHeartbeats 6400000 in
theorem Rv (l:List Int) (n:Int) (L:List Iy) (H:List Sn) (hl:H.length≤1000000) (hll:l.length≤20000) (hLl:L.length≤1000) (hL : ∀y∈L,y.2.2.2.2.size≤1000000) (hr:fS l.length 0 H=true) (a0:Nat) (ha0:a0≤l.length) :
 ap Tryz.prog G0 55 [Ti l n L H,iv a0] [] 0 (.d (.agg [.sd 3 false ((gx l L H a0 []).1.map iA),iD a0,iD (gx l L H a0 []).2])) []:=by
 refine vF ab [0,1,2,4,5,6,8,9,15,16,17,18,39,49] Tryz.func55 rfl Tryz.results55 Tryz.ntmps55 ?_;(refine' zg)
 refine vL (lv:=[0,1,2,4,5,6,8,9,15,16,17,18,39,49]) ab (daS l n L H a0) (DaP l L H a0) (fun x=>l.length - x.1) ((a0,[])) (aC.nil 5 3<|(aC.go [1,2,4,5,6] (by exact vT) rfl)) ?_ ?_
 ·exact ⟨ha0,fun z hz=>by simp at hz,aa1 _,rfl⟩
 rintro ⟨a,acc⟩ ⟨h1,h2,h3,h4⟩;simp only at h1 h2 h3 h4;have w1:=DT n L 0 (by omega) a a;have r1:=HJ l n L H hl (by omega) a;have r2:=rS l n L H hl a;(refine' fq w1)
 have hML:(b9 L a a).length≤L.length:=acp _ _;refine vL (lv:=[0,1,2,4,5,6,8,9,15,16,17,18,39,49]) ab (daI l n L H a0 a (b9 L a a)) (fun x=>x.1≤(b9 L a a).length∧x.2=acc++((b9 L a a).take x.1).map fun y=> .tx 2 a (aa y.2.2.2.2 0)) (fun x=>(b9 L a a).length - x.1) ((0,acc)) ((aC.go [1,2,4,5,6,15,16,17] (by exact vT) rfl)) ?_ ?_
 ·exact ⟨aa1 _,by simp⟩
 rintro ⟨i,out⟩ ⟨g1,g2⟩;simp only at g1 g2;have hol:out.length=acc.length+i:=by rw [g2,Or,aa4,aa7];omega
 rcases aa2 i (b9 L a a).length with hi|hi
 ·obtain ⟨y,hy⟩ : ∃y,(b9 L a a)[i]? = some y:=⟨_,IO hi⟩
  have hys:=hL y (acj.1 (aa0 hy)).1;have ht:acc++((b9 L a a).take (i+1)).map (fun y=>Pz.tx 2 a (aa y.2.2.2.2 0))=out++[.tx 2 a (aa y.2.2.2.2 0)]:=by
   rw [ao hy,abc,←aba,←g2];rfl
  obtain ⟨y1,y2,y3,y4,y5⟩:=y;have r3:=dX y5 (by simp only at hys;omega);(refine' fq r3)
  refine aF.is i _ (by omega) hy ?_;(refine' fq r3)
  rw [show out.map iA++[D.agg [D.lit (Value.int IntKind.i64 2),D.lit (Value.int IntKind.i64 a),D.sd 1 false ((aa y5 0).map dm)]]=(out++[Pz.tx 2 a (aa y5 0)]).map iA from jH out (Pz.tx 2 a (aa y5 0)),aa4];refine aG.go ((i+1,out++[Pz.tx 2 a (aa y5 0)])) [1,2,4,5,6,15,16,17] (by exact vT) ?_ ?_
  ·show (b9 L a a).length - (i+1)<(b9 L a a).length - i;omega
  ·exact ⟨hi,ht.symm⟩
 ·have ho:out=acc++cj L a:=by rw [g2,aaW hi];rfl
  have hok : ∀z∈out,Nw z:=by
   rw [ho];intro z hz;rcases abe.1 hz with hz|hz
   ·exact h2 z hz
   ·exact Gu hL (by omega) z hz
  by_cases hc:a<l.length∧gf l H a=false
  ·obtain ⟨c1,c2⟩:=hc;obtain ⟨r,hra⟩ : ∃r,l[a]? = some r:=⟨_,IO c1⟩
   rw [c2] at r1;cases hx:bb H a with
   | none=>
    rw [gz hra c2 hx,←ho] at h4;have e:qr H a=(0,-1):=by rw [qr,hx];rfl
    rw [e] at r2;have r3:=HG out hok (by omega) r a (by omega);have hpl:=AJ out r a;(refine' Qa r1 r2 hra)
    refine au.ofN [2] r3 ?_;(refine' zg)
    refine aG.go ((a+1,fH out r a)) [1,2,4,5,6] (by exact vT) ?_ ?_
    ·show l.length - (a+1)<l.length - a;omega
    ·exact ⟨c1,Gt hok (by omega),by show (fH out r a).length≤2000*(a+1);omega,h4⟩
   | some x=>
    obtain ⟨k1,k2,k3⟩:=bV hx;have k4:=bE hr x k1;obtain ⟨k,hk⟩ : ∃k:Nat,x.2=k:=⟨x.2.toNat,by omega⟩
    rw [iP c1 c2 hx hk (by omega),←ho] at h4;have e:qr H a=x:=by rw [qr,hx];rfl
    rw [e] at r2;(refine' Ax r1 r2)
    rw [show out.map iA++[D.agg [D.lit (Value.int IntKind.i64 3),D.lit (Value.int IntKind.i64 a),D.lit (Value.slice none 0 0)]]=(out++[Pz.fo a]).map iA from jH out (Pz.fo a),aa4,hk];refine aG.go ((k,out++[Pz.fo a])) [1,2,4,5,6] (by exact vT) ?_ ?_
    ·show l.length - k<l.length - a;omega
    ·refine ⟨by show k≤l.length;omega,fun z hz =>?_,by simp only [Or,aa6,abt];omega,h4⟩;rcases abe.1 hz with hz|hz
     ·exact hok z hz
     ·rw [abK.1 hz];exact ⟨by omega,by omega⟩
  ·rw [gy hc,←ho] at h4;rw [←h4];by_cases hal:a=l.length
   ·(refine' Ax r1 r2)
    refine ae.frz 2 (ae.out ?_);(refine' zg)
   ·have c2:gf l H a=true:=by
     cases hb:gf l H a with
     | true=>rfl
     | false=>exact (hc ⟨by omega,hb⟩).elim
    rw [c2] at r1;(refine' Ax r1 r2)
    refine ae.frz 2 (ae.out ?_);(refine' zg)
section
variable (l:List Int) (n:Int) (L:List Iy) (H:List Sn)
theorem KC (hl:H.length≤1000000) (hll:l.length≤20000) (hLl:L.length≤1000) (hL : ∀y∈L,y.2.2.2.2.size≤1000000) (hso:JD L) (hr:fS l.length 0 H=true) (a:Nat) (ha:a≤l.length) (hb:a=0∨gf l H (a - 1)=true) :
 ap Tryz.prog G0 55 [Ti l n L H,iv a] [] 0 (.d (va l L H (a,aE l H a))) []:=by
 have:=Rv l n L H hl hll hLl hL hr a ha;rw [qF hso hr ha (rx hb hr)] at this;exact this
def dlS (y:List (Nat × Nat)):St:=⟨[(1,.po 0 0),(3,.so 1 3 0 y.length)],[(0,XS l n L H),(1,.row 3 (y.map (va l L H)))],2⟩
attribute [push_cast] dlS.eq_def
end
structure DlP (l:List Int) (H:List Sn) (y:List (Nat × Nat)):Prop where
 ex : ∃pre a,y=pre++[(a,aE l H a)]∧a≤l.length∧pre++aQ l H a=aQ l H 0∧pre.length≤a∧(a=0∨gf l H (a - 1)=true)
section
variable (l:List Int) (n:Int) (L:List Iy) (H:List Sn)
set_option maxHeartbeats 3200000 in
theorem FK (hl:H.length≤1000000) (hll:l.length≤20000) (hLl:L.length≤1000) (hL : ∀y∈L,y.2.2.2.2.size≤1000000) (hso:JD L) (hr:fS l.length 0 H=true) :
 ap Tryz.prog G0 17 [Ti l n L H] [] 0 (.d (.sd 3 false ((aQ l H 0).map (va l L H)))) []:=by
 have r2:ap Tryz.prog G0 55 [Ti l n L H,iv 0] [] 0 (.d (va l L H (0,aE l H 0))) []:=KC l n L H hl hll hLl hL hso hr 0 (aa1 _) (.inl rfl);refine vF ab [0,1,2,3,17] Tryz.func17 rfl Tryz.results17 Tryz.ntmps17 ?_;(refine' fq r2)
 refine vL (lv:=[0,1,2,3,17]) ab (dlS l n L H) (DlP l H) (fun y=>l.length+1 - y.length) ([(0,aE l H 0)]) ((aC.go [1,3] (by exact vT) rfl)) ?_ ?_
 ·exact ⟨[],0,rfl,aa1 _,rfl,aaV _,.inl rfl⟩
 rintro y ⟨pre,a,rfl,ha,hp,hpl,hb⟩;have he:=bM l H ha;have hy:(pre++[(a,aE l H a)])[pre.length]? = some (a,aE l H a):=by simp
 have hyl:(pre++[(a,aE l H a)]).length=pre.length+1:=by simp
 by_cases hc:aE l H a<l.length
 ·have hsh:=eC l H ha hc;have r4:=KC l n L H hl hll hLl hL hso hr (aE l H a+1) hc (.inr hsh);have ec:((aE l H a+1:Nat):Int)=(aE l H a:Int)+1:=by omega
  rw [ec] at r4;(refine' zg)
  refine aF.is pre.length _ (by omega) hy ?_;(refine' zg)
  refine aF.is pre.length _ (by omega) hy ?_;(refine' fq r4)
  have e2:=MF (va l L H) (pre++[(a,aE l H a)]) (aE l H a+1,aE l H (aE l H a+1));simp only [va,ec] at e2;change (pre++[(a,aE l H a)]).map (va l L H)++_=_ at e2;rw [e2,aa4];refine aG.go (pre++[(a,aE l H a)]++[(aE l H a+1,aE l H (aE l H a+1))]) [1,3] (by exact vT) ?_ ?_
  ·show l.length+1 - (pre++[(a,aE l H a)]++[(aE l H a+1,aE l H (aE l H a+1))]).length<l.length+1 - (pre++[(a,aE l H a)]).length;simp only [Or,aa6,abt];omega
  ·refine ⟨pre++[(a,aE l H a)],aE l H a+1,rfl,hc,?_,by simp only [Or,aa6,abt];omega,.inr hsh⟩;rw [←hp];conv=>rhs;rw [aQ,acB ⟨hc,he.1⟩]
   simp only [aba,abG,abL]
 ·have hfin:pre++[(a,aE l H a)]=aQ l H 0:=by
   rw [←hp,aQ,acX (by omega)]
  (refine' zg)
  refine aF.is pre.length _ (by omega) hy ?_;(refine' zg)
  rw [hfin];refine ae.frz 1 (ae.out ?_);(refine' zg)
theorem mm (i:Nat) (hi:i≤l.length):(aQ l H i).length≤l.length+1 - i:=by
 have he:=bM l H hi;rw [aQ,aa6];split
 ·rename_i hlt;have:=mm (aE l H i+1) (by omega);omega
 ·simp;omega
termination_by l.length - i
decreasing_by omega
end
end Go.Proofs.YtkkanlcjjpoklaaGreatDoor
