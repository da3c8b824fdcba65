/- What the theorem leans on, part 21. -/
import Derived.Test.YtkkanlcjjpoklaaGreatDoorSpTPAT
set_option linter.unusedSimpArgs false
set_option linter.unusedVariables false
set_option maxRecDepth 8000
namespace Go.Proofs.YtkkanlcjjpoklaaGreatDoor
def fW (l:List Pz) (r:Int) (a:Nat):List Pz:=
 match l.getLast? with
 | some (.tx k p rs)=>if k=1∧p+rs.length=a then l.dropLast++[.tx 1 p (rs++[r])] else l++[.tx 1 a [r]]
 | _=>l++[.tx 1 a [r]]
def bC (L:List Iy) (a:Nat):List Pz:=(dX L a a).map fun y=> .tx 2 a (aa y.2.2.2.2 0)
def gb (l:List Int) (L:List Iy) (H:List Sn) (a:Nat) (acc:List Pz):List Pz × Nat:=
 if h:a<l.length∧fS l H a=false then
  match cN H a with
  | some x=>if h2:a<x.2.toNat then gb l L H x.2.toNat (acc++bC L a++[.fo a]) else (acc++bC L a,a)
  | none=>gb l L H (a+1) (fW (acc++bC L a) (l[a]'h.1) a)
 else (acc++bC L a,a)
termination_by l.length - a
theorem fz {l:List Int} {L:List Iy} {H:List Sn} {a:Nat} {acc:List Pz} (h : ¬(a<l.length∧fS l H a=false)):gb l L H a acc=(acc++bC L a,a):=by rw [gb,dif_neg h]
theorem gY {l:List Int} {L:List Iy} {H:List Sn} {a k:Nat} {acc:List Pz} {x:Sn} (h:a<l.length) (hs:fS l H a=false) (hx:cN H a=some x) (hk:x.2=k) (hak:a<k):gb l L H a acc=gb l L H k (acc++bC L a++[.fo a]):=by
 rw [gb,dif_pos ⟨h,hs⟩];simp only [hx];rw [hk,Int.toNat_natCast,dif_pos hak]
theorem gc {l:List Int} {L:List Iy} {H:List Sn} {a:Nat} {acc:List Pz} {r:Int} (hr:l[a]? = some r) (hs:fS l H a=false) (hx:cN H a=none):gb l L H a acc=gb l L H (a+1) (fW (acc++bC L a) r a):=by
 obtain ⟨h,rfl⟩:=List.getElem?_eq_some_iff.1 hr;rw [gb,dif_pos ⟨h,hs⟩];simp only [hx]
def Kx (acc:List Pz) (a:Nat):Prop:= ∀p rs,acc.getLast? = some (.tx 1 p rs)→p+rs.length≠a
def de (l:List Int) (acc:List Pz) (c a:Nat):List Pz:=if c<a then acc++[.tx 1 c (fj l c a)] else acc
theorem C3 (l:List Int) {a b:Nat} (h:b≤l.length):(fj l a b).length=b - a:=by simp [fj];omega
theorem AV {l:List Int} {a b:Nat} {r:Int} (h:a≤b) (hr:l[b]? = some r):fj l a (b+1)=fj l a b++[r]:=by
 have hb:=(List.getElem?_eq_some_iff.1 hr).1;unfold fj;rw [aJ hr,List.drop_append_of_le_length (by rw [List.length_take];omega)]
theorem AU (l:List Int) (a:Nat):fj l a a=[]:=by
 unfold fj;rw [List.drop_eq_nil_of_le];rw [List.length_take];omega
theorem Fx {acc:List Pz} {r:Int} {a:Nat} (h:Kx acc a):fW acc r a=acc++[.tx 1 a [r]]:=by
 unfold fW;split
 ·rename_i k p rs hg;split
  ·rename_i hk;obtain ⟨rfl,h2⟩:=hk;exact (h p rs hg h2).elim
  ·rfl
 ·rfl
theorem qK {l:List Int} {acc:List Pz} {c a:Nat} {r:Int} (hca:c≤a) (hr:l[a]? = some r) (hn:c=a→Kx acc a):fW (de l acc c a) r a=de l acc c (a+1):=by
 have hb:=(List.getElem?_eq_some_iff.1 hr).1;rw [de,de,if_pos (show c<a+1 by omega),AV hca hr];by_cases hc:c<a
 ·rw [if_pos hc,fW];simp only [List.getLast?_append,List.getLast?_singleton,Option.some_or];rw [if_pos ⟨by trivial,by rw [C3 l (by omega)];omega⟩,List.dropLast_concat]
 ·obtain rfl:c=a:=by omega
  rw [if_neg hc,Fx (hn rfl),AU,List.nil_append]
def E9 (L:List Iy):Prop:=L.Pairwise fun x y=>x.2.1≤y.2.1
theorem xW {L:List Iy} (h:E9 L) (a b:Int) (hab:a<b):dX L a b=dX L a a++dX L (a+1) b:=by
 induction L with
 | nil=>rfl
 | cons x r ih=>
  have h1:=(List.pairwise_cons.1 h).1;have h2:=ih (List.pairwise_cons.1 h).2;simp only [dX] at h2 ⊢;by_cases q1:x.2.1<a
  ·rw [List.filter_cons_of_neg (by simp;omega),List.filter_cons_of_neg (by simp;omega),List.filter_cons_of_neg (by simp;omega),h2]
  ·by_cases q2:x.2.1=a
   ·rw [List.filter_cons_of_pos (by simp;omega),List.filter_cons_of_pos (by simp;omega),List.filter_cons_of_neg (by simp;omega),h2,List.cons_append]
   ·have e1:r.filter (fun x=> !(decide (x.2.1<a)||decide (a<x.2.1)))=[]:=List.filter_eq_nil_iff.2 fun y hy=>by
     have:=h1 y hy;simp;omega
    rw [e1] at h2;by_cases q3:b<x.2.1
    ·rw [List.filter_cons_of_neg (by simp;omega),List.filter_cons_of_neg (by simp;omega),List.filter_cons_of_neg (by simp;omega),e1,h2]
    ·rw [List.filter_cons_of_pos (by simp;omega),List.filter_cons_of_neg (by simp;omega),List.filter_cons_of_pos (by simp;omega),e1,h2];rfl
theorem jH (l:List Int) (b c a:Nat) (hca:c≤a) : ∀(M R:List Iy),(∀y∈M,y.2.1=a)→M≠[]→cy l b c (M++R)=de l [] c a++(M.map fun y=> .tx 2 a (aa y.2.2.2.2 0))++cy l b a R
 | [],R,_,hne=>(hne rfl).elim
 | y::M,R,h,_=>by
  have hy:=h y (by simp);rw [List.cons_append,cy,hy,Int.toNat_natCast,show max c a=a by omega,de];have ht:cy l b a (M++R)=(M.map fun y=>Pz.tx 2 a (aa y.2.2.2.2 0))++cy l b a R:=by
   by_cases hm:M=[]
   ·subst hm;rfl
   ·rw [jH l b a a (Nat.le_refl _) M R (fun z hz=>h z (by simp [hz])) hm,de,if_neg (by omega),List.nil_append]
  rw [ht];split<;>simp
theorem Fq {acc:List Pz} {L:List Iy} {a:Nat} (h:bC L a≠[]) (b:Nat):Kx (acc++bC L a) b:=by
 intro p rs hg;rw [List.getLast?_append] at hg;unfold bC at h hg;rw [List.getLast?_map] at hg;cases hl:(dX L a a).getLast? with
 | none=>exact (h (by rw [List.getLast?_eq_none_iff.1 hl];rfl)).elim
 | some y=>rw [hl] at hg;simp at hg
theorem gZ {l:List Int} {L:List Iy} {H:List Sn} (hL:E9 L) (b:Nat) (hb:b≤l.length) : ∀(d a c:Nat) (acc:List Pz),b - a=d→c≤a→a≤b→(c=a→Kx acc a)→(∀k,a≤k→k<b→fS l H k=false∧cN H k=none) →
 ∃acc',gb l L H a (de l acc c a)=gb l L H b acc'∧acc'++bC L b=acc++cy l b c (dX L a b)
 | 0,a,c,acc,hd,hca,hab,hn,hk=>by
  obtain rfl:a=b:=by omega
  refine ⟨_,rfl,?_⟩;by_cases hm:dX L a a=[]
  ·rw [bC,hm,List.map_nil,List.append_nil,cy,de];split<;>simp
  ·have:=jH l a c a hca (dX L a a) [] (fun y hy=>by have:=(List.mem_filter.1 hy).2;simp at this;omega) hm;rw [List.append_nil] at this;rw [this,cy,if_neg (by omega),List.append_nil,de,de,bC];split<;>simp
 | d+1,a,c,acc,hd,hca,hab,hn,hk=>by
  obtain ⟨h1,h2⟩:=hk a (Nat.le_refl _) (by omega);obtain ⟨r,hr⟩ : ∃r,l[a]? = some r:=⟨_,List.getElem?_eq_getElem (by omega)⟩
  rw [gc hr h1 h2];have hsp:=xW hL a b (by omega);have ec:((a+1:Nat):Int)=(a:Int)+1:=by omega
  by_cases hm:dX L a a=[]
  ·have e:bC L a=[]:=by rw [bC,hm];rfl
   rw [e,List.append_nil,qK hca hr hn];obtain ⟨acc',g1,g2⟩:=gZ hL b hb d (a+1) c acc (by omega) (by omega) (by omega) (fun h=>by omega) (fun k q1 q2=>hk k (by omega) q2);refine ⟨acc',g1,?_⟩;rw [g2,hsp,hm,List.nil_append,ec]
  ·have hne:bC L a≠[]:=by rw [bC];simpa using hm
   have h3:=qK (l:=l) (acc:=de l acc c a++bC L a) (c:=a) (a:=a) (Nat.le_refl _) hr (fun _=>Fq hne a);rw [de,if_neg (by omega)] at h3;rw [h3];obtain ⟨acc',g1,g2⟩:=gZ hL b hb d (a+1) a (de l acc c a++bC L a) (by omega) (by omega) (by omega) (fun h=>by omega) (fun k q1 q2=>hk k (by omega) q2);refine ⟨acc',g1,?_⟩;rw [g2,hsp,jH l b c a hca _ _ (fun y hy=>by have:=(List.mem_filter.1 hy).2;simp at this;omega) hm,ec,de,de,bC];split<;>simp
theorem li {l:List Int} {L:List Iy} (hL:E9 L) (H0:List Sn) {e:Nat} (he:e≤l.length) : ∀(H pre:List Sn) (a:Nat) (acc:List Pz) (last:Int),H0=pre++H→iZ l.length 0 H0=true→iZ l.length last H=true→(∀x∈pre,x.2≤a)→last≤a→a≤e→aQ l H0 a=e→Kx acc a→(∀x∈H,x.1<a→x.2≤a) →
 gb l L H0 a acc=(acc++bQ l L e a H,e)
 | [],pre,a,acc,last,e0,hr,_,hp,hla,hae,hend,hn,hin=>by
  have hk : ∀k,a≤k→k<e→fS l H0 k=false∧cN H0 k=none:=fun k q1 q2=>by
   refine ⟨sQ l H0 (by omega) q1 (by omega),?_⟩;cases hx:cN H0 k with
   | none=>rfl
   | some x=>
    obtain ⟨g1,g2,g3⟩:=dx hx;rw [e0,List.append_nil] at g1;have:=hp x g1;omega
  obtain ⟨acc',g1,g2⟩:=gZ hL e he (e - a) a a acc rfl (Nat.le_refl _) hae (fun _=>hn) hk;rw [de,if_neg (by omega)] at g1;rw [g1,fz,g2]
  ·rfl
  ·rintro ⟨q1,q2⟩;have:=ge l H0 (i:=a) (by omega) (by omega);rw [hend,q2] at this;cases this
 | x::H,pre,a,acc,last,e0,hr,hr2,hp,hla,hae,hend,hn,hin=>by
  have hxin:=hin x (by simp);obtain ⟨⟨q1,q2,q3⟩,q4⟩:=dg.1 hr2;have hxm:x∈H0:=by rw [e0];simp
  have hx0:=ct hr x hxm;by_cases hc:x.1<a∨(e:Int)<x.2
  ·rw [bQ,if_pos hc];by_cases hxa:x.2≤a
   ·exact li hL H0 he H (pre++[x]) a acc x.2 (by rw [e0];simp) hr q4 (fun y hy=>by
     rcases List.mem_append.1 hy with hy|hy
     ·exact hp y hy
     ·rw [List.mem_singleton.1 hy];exact hxa) hxa hae hend hn (fun y hy=>hin y (by simp [hy]))
   ·-- x begins behind e: nothing more is hidden
    have hxe:(e:Int)<x.1:=by
     rcases Int.lt_or_le (e:Int) x.1 with h|h
     ·exact h
     exfalso;rcases hc with hc|hc
     ·omega
     ·by_cases hel:e<l.length
      ·have h1:=ge l H0 (i:=a) (by omega) (by omega);rw [hend,kL hr hxm h hc] at h1;cases h1
      ·omega
    have hrun : ∀(K:List Sn) (cI:Int),iZ l.length cI K=true→(e:Int)<cI→bQ l L e a K=cy l e a (dX L a e):=by
     intro K;induction K with
     | nil=>intro cI _ _;rfl
     | cons y K ih=>
      intro cI h1 h2;obtain ⟨⟨k1,k2,k3⟩,k4⟩:=dg.1 h1;rw [bQ,if_pos (.inr (by omega))];exact ih y.2 k4 (by omega)
    rw [hrun H x.2 q4 (by omega)];have hk : ∀k,a≤k→k<e→fS l H0 k=false∧cN H0 k=none:=fun k r1 r2=>by
     refine ⟨sQ l H0 (by omega) r1 (by omega),?_⟩;cases hy:cN H0 k with
     | none=>rfl
     | some y=>
      obtain ⟨g1,g2,g3⟩:=dx hy;rw [e0] at g1;rcases List.mem_append.1 g1 with g1|g1
      ·have:=hp y g1;omega
      ·rcases List.mem_cons.1 g1 with rfl|g1
       ·omega
       ·have:=ct q4 y g1;omega
    obtain ⟨acc',g1,g2⟩:=gZ hL e he (e - a) a a acc rfl (Nat.le_refl _) hae (fun _=>hn) hk;rw [de,if_neg (by omega)] at g1;rw [g1,fz,g2];rintro ⟨r1,r2⟩;have:=ge l H0 (i:=a) (by omega) (by omega);rw [hend,r2] at this;cases this
  ·rw [bQ,if_neg hc];obtain ⟨j,hj⟩ : ∃j:Nat,x.1=j:=⟨x.1.toNat,by omega⟩
   obtain ⟨m,hm⟩ : ∃m:Nat,x.2=m:=⟨x.2.toNat,by omega⟩
   rw [hj,hm,Int.toNat_natCast,Int.toNat_natCast];have hk : ∀k,a≤k→k<j→fS l H0 k=false∧cN H0 k=none:=fun k r1 r2=>by
    refine ⟨sQ l H0 (by omega) r1 (by omega),?_⟩;cases hy:cN H0 k with
    | none=>rfl
    | some y=>
     obtain ⟨g1,g2,g3⟩:=dx hy;rw [e0] at g1;rcases List.mem_append.1 g1 with g1|g1
     ·have:=hp y g1;omega
     ·rcases List.mem_cons.1 g1 with rfl|g1
      ·omega
      ·have:=ct q4 y g1;omega
   obtain ⟨acc',g1,g2⟩:=gZ hL j (by omega) (j - a) a a acc rfl (Nat.le_refl _) (by omega) (fun _=>hn) hk;rw [de,if_neg (by omega)] at g1;have hx:cN H0 (j:Nat)=some x:=nk hr x hxm _ (by omega) (by omega);have hend2:aQ l H0 m=e:=by
    rw [←hend];have e1:aQ l H0 a=aQ l H0 j:=ef _ _ _ _ (by omega) (by omega) fun k r1 r2=>(hk k r1 r2).1
    rw [e1];exact (ef _ _ _ _ (by omega) (by omega) fun k r1 r2=>kL hr hxm (by omega) (by omega)).symm
   rw [g1,gY (by omega) (kL hr hxm (by omega) (by omega)) hx hm (by omega),g2,
    li hL H0 he H (pre++[x]) m _ x.2 (by rw [e0];simp) hr q4 (fun y hy=>by
     rcases List.mem_append.1 hy with hy|hy
     ·have:=hp y hy;omega
     ·rw [List.mem_singleton.1 hy];omega) (by omega) (by omega) hend2 (fun p rs hg=>by simp at hg) (fun y hy h=>by have:=ct q4 y hy;omega)]
   simp
theorem sL {l:List Int} {L:List Iy} {H:List Sn} (hL:E9 L) (hr:iZ l.length 0 H=true) {a:Nat} (ha:a≤l.length) (hin : ∀x∈H,x.1<a→x.2≤a):gb l L H a []=(bQ l L (aQ l H a) a H,aQ l H a):=by
 have he:=dc l H ha;have:=li hL H he.2 H [] a [] 0 rfl hr hr (fun _ h=>by cases h) (by omega) he.1 rfl (fun p rs h=>by cases h) hin;rwa [List.nil_append] at this
theorem xr {l:List Int} {H:List Sn} {a:Nat} (h:a=0∨fS l H (a - 1)=true) (hr:iZ l.length 0 H=true) : ∀x∈H,x.1<a→x.2≤a:=by
 intro x hx hlt;have h0:=ct hr x hx;rcases h with rfl|h
 ·omega
 ·have h1:=rk (i2.1 h).2 x hx;omega
section
variable (l:List Int) (n:Int) (L:List Iy) (H:List Sn)
end
section
variable (l:List Int) (n:Int) (L:List Iy) (H:List Sn)
end
def Ka:Pz→Prop
 | .tx _ p rs=>0≤p∧p≤1000000∧rs.length≤1000000
 | .fo p=>0≤p∧p≤1000000
theorem nd {pre:List Pz} {k p:Int} {rs:List Int} {r:Int} {a:Nat} : fW (pre++[.tx k p rs]) r a=if k=1∧p+rs.length=a then pre++[.tx 1 p (rs++[r])] else pre++[.tx k p rs]++[.tx 1 a [r]]:=by
 unfold fW;simp only [List.getLast?_append,List.getLast?_singleton,Option.some_or,List.dropLast_concat]
theorem nc {pre:List Pz} {p:Int} {r:Int} {a:Nat} : fW (pre++[.fo p]) r a=pre++[.fo p]++[.tx 1 a [r]]:=by
 unfold fW;simp only [List.getLast?_append,List.getLast?_singleton,Option.some_or]
theorem GL {L:List Iy} {a:Nat} (hL : ∀y∈L,y.2.2.2.2.size≤1000000) (ha:a≤1000000) : ∀z∈bC L a,Ka z:=by
 intro z hz;obtain ⟨y,hy,rfl⟩:=List.mem_map.1 hz;have h1:=hL y (List.mem_filter.1 hy).1;have h2:=ci y.2.2.2.2 _ 0 (Nat.le_refl _);exact ⟨by omega,by omega,by omega⟩
theorem GK {acc:List Pz} {r:Int} {a:Nat} (h : ∀z∈acc,Ka z) (ha:a<20000) : ∀z∈fW acc r a,Ka z:=by
 rcases List.eq_nil_or_concat acc with rfl|⟨pre,z,rfl⟩
 ·intro z hz;rw [show fW [] r a=[.tx 1 a [r]] from rfl,List.mem_singleton] at hz;subst hz;exact ⟨by omega,by omega,by simp⟩
 ·rw [List.concat_eq_append] at h ⊢;have hn:Ka (.tx 1 a [r]):=⟨by omega,by omega,by simp⟩
  cases z with
  | tx k p rs=>
   have hz:=h (.tx k p rs) (by simp);rw [nd];split
   ·rename_i hc;intro y hy;rcases List.mem_append.1 hy with hy|hy
    ·exact h y (by simp [hy])
    ·rw [List.mem_singleton.1 hy];have:=hz.1;exact ⟨hz.1,hz.2.1,by simp;omega⟩
   ·intro y hy;rcases List.mem_append.1 hy with hy|hy
    ·exact h y hy
    ·rw [List.mem_singleton.1 hy];exact hn
  | fo p=>
   rw [nc];intro y hy;rcases List.mem_append.1 hy with hy|hy
   ·exact h y hy
   ·rw [List.mem_singleton.1 hy];exact hn
theorem CE (acc:List Pz) (r:Int) (a:Nat):(fW acc r a).length≤acc.length+1:=by
 rcases List.eq_nil_or_concat acc with rfl|⟨pre,z,rfl⟩
 ·exact Nat.le_refl _
 ·rw [List.concat_eq_append];cases z with
  | tx k p rs=>rw [nd];split<;>simp
  | fo p=>rw [nc];simp
section
variable (l:List Int) (n:Int) (L:List Iy) (H:List Sn)
end
section
variable (l:List Int) (n:Int) (L:List Iy) (H:List Sn)
theorem eB (i:Nat) (hi:i≤l.length):(bG l H i).length≤l.length+1 - i:=by
 have he:=dc l H hi;rw [bG,List.length_cons];split
 ·rename_i hlt;have:=eB (aQ l H i+1) (by omega);omega
 ·simp;omega
termination_by l.length - i
decreasing_by omega
end
end Go.Proofs.YtkkanlcjjpoklaaGreatDoor
