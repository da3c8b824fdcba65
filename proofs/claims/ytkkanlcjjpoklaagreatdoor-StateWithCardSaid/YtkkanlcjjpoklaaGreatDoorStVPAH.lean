/- What the theorem leans on, part 8. -/
import Derived.WalkKit
import Derived.Test.YtkkanlcjjpoklaaGreatDoorStVPAG
set_option linter.unusedSectionVars false
set_option linter.unusedSimpArgs false
set_option linter.unusedVariables false
set_option maxRecDepth 8000
namespace Go.Proofs.YtkkanlcjjpoklaaGreatDoor
section
variable {α:Type}
theorem cZ {xs:List α} {i j:Nat} {x y:α} (hi:xs[i]? = some x) (hj:xs[j]? = some y) (k:Nat):((xs.set i y).set j x)[k]? = if k=j then some x else if k=i then some y else xs[k]? :=by
 have h1:=(aaX.1 hi).1;have h2:=(aaX.1 hj).1;by_cases e1:k=j
 ·subst e1;rw [aa3 rfl,adr (by simpa using h2)]
 ·rw [aaY e1,List.getElem?_set_ne (fun h=>e1 h.symm)];by_cases e2:k=i
  ·subst e2;rw [aa3 rfl,adr h1]
  ·rw [aaY e2,List.getElem?_set_ne (fun h=>e2 h.symm)]
theorem PI {xs:List α} {i j:Nat} {x y:α} (hi:xs[i]? = some x) (hj:xs[j]? = some y):((xs.set i y).set j x).Perm xs:=by
 obtain ⟨h1,rfl⟩:=aaX.1 hi;obtain ⟨h2,rfl⟩:=aaX.1 hj;exact List.set_set_perm h1 h2
structure Rg (a b:Nat) (xs ys:List α):Prop where
 len:ys.length=xs.length
 out : ∀i,i<a∨b≤i→ys[i]? = xs[i]?
 perm:ys.Perm xs
 mem : ∀i,a≤i→i<b → ∃j,a≤j∧j<b∧ys[i]? = xs[j]?
theorem Rg.refl (a b:Nat) (xs:List α):Rg a b xs xs:=⟨rfl,fun _ _=>rfl,acS _,fun i h1 h2=>⟨i,h1,h2,rfl⟩⟩
theorem Rg.trans {a b:Nat} {xs ys zs:List α} (h:Rg a b xs ys) (k:Rg a b ys zs):Rg a b xs zs:=
 ⟨k.len.trans h.len,fun i hi=>(k.out i hi).trans (h.out i hi),k.perm.trans h.perm,fun i h1 h2=>by
  obtain ⟨j,h3,h4,h5⟩:=k.mem i h1 h2;obtain ⟨l,h6,h7,h8⟩:=h.mem j h3 h4;exact ⟨l,h6,h7,h5.trans h8⟩⟩
theorem Rg.wide {a b a' b':Nat} {xs ys:List α} (h:Rg a b xs ys) (ha:a'≤a) (hb:b≤b'):Rg a' b' xs ys:=
 ⟨h.len,fun i hi=>h.out i (by omega),h.perm,fun i h1 h2=>by
  by_cases hi:a≤i∧i<b
  ·obtain ⟨j,h3,h4,h5⟩:=h.mem i hi.1 hi.2;exact ⟨j,by omega,by omega,h5⟩
  ·exact ⟨i,h1,h2,h.out i (by omega)⟩⟩
theorem Rg.swap {a b i j:Nat} {xs:List α} {x y:α} (hi:xs[i]? = some x) (hj:xs[j]? = some y) (h1:a≤i) (h2:i<b) (h3:a≤j) (h4:j<b):Rg a b xs ((xs.set i y).set j x):=
 ⟨by simp,fun k hk=>by rw [cZ hi hj,aaY (by omega),aaY (by omega)],PI hi hj,fun k h5 h6=>by
  rw [cZ hi hj];split
  ·exact ⟨i,h1,h2,hi.symm⟩
  ·split
   ·exact ⟨j,h3,h4,hj.symm⟩
   ·exact ⟨k,h5,h6,rfl⟩⟩
theorem Rg.all {a b:Nat} {xs ys:List α} {p:α→Prop} (h:Rg a b xs ys) (hp : ∀i x,a≤i→i<b→xs[i]? = some x→p x) : ∀i x,a≤i→i<b→ys[i]? = some x→p x:=fun i x h1 h2 hx=>by
 obtain ⟨j,h3,h4,h5⟩:=h.mem i h1 h2;exact hp j x h3 h4 (h5▸hx)
structure Wk (lt:α→α→Prop):Prop where
 sy : ∀x y,lt x y → ¬lt y x
 nt : ∀x y z,¬lt x y → ¬lt y z → ¬lt x z
def cV (lt:α→α→Prop) (a b:Nat) (ys:List α):Prop:= ∀p q x y,a≤p→p<q→q<b→ys[p]? = some x→ys[q]? = some y → ¬lt y x
variable {lt:α→α→Prop}
theorem Wk.ir (w:Wk lt) (x:α) : ¬lt x x:=fun h=>w.sy x x h h
theorem cV.out {a b c d:Nat} {xs ys:List α} (h:cV lt a b xs) (k:Rg c d xs ys) (hd:b≤c∨d≤a):cV lt a b ys:=fun p q x y h1 h2 h3 hx hy=>
 h p q x y h1 h2 h3 (by rw [←k.out p (by omega)];exact hx) (by rw [←k.out q (by omega)];exact hy)
theorem cV.few {a b:Nat} {xs:List α} (h:b≤a+1):cV lt a b xs:=fun p q x y h1 h2 h3=>by omega
theorem cV.join {a m b:Nat} {xs:List α} (h1:cV lt a m xs) (h2:cV lt m b xs) (h : ∀p q x y,a≤p→p<m→m≤q→q<b→xs[p]? = some x→xs[q]? = some y → ¬lt y x):cV lt a b xs:=fun p q x y hp hpq hq hx hy=>by
 by_cases e1:q<m
 ·exact h1 p q x y hp hpq e1 hx hy
 ·by_cases e2:m≤p
  ·exact h2 p q x y e2 hpq hq hx hy
  ·exact h p q x y hp (by omega) (by omega) hq hx hy
def AF (lt:α→α→Prop) (a i j:Nat) (zs:List α):Prop:= ∀p q x y,a≤p→p<q→q≤i→q≠j→zs[p]? = some x→zs[q]? = some y → ¬lt y x
theorem AF.start {a i:Nat} {zs:List α} (h:cV lt a i zs):AF lt a i i zs:=fun p q x y h1 h2 h3 h4=>h p q x y h1 h2 (by omega)
theorem AF.step {a i j:Nat} {zs:List α} {x y:α} (w:Wk lt) (h:AF lt a i j zs) (h1:a<j) (h2:j≤i) (hx:zs[j]? = some x) (hy:zs[j - 1]? = some y) (hl:lt x y):AF lt a i (j - 1) ((zs.set j y).set (j - 1) x):=by
 intro p q u v hp hpq hq hqj hu hv;rw [cZ hx hy] at hu hv;rw [aaY hqj] at hv;by_cases e1:q=j
 ·rw [aa3 e1] at hv;cases hv;by_cases e2:p=j - 1
  ·rw [aa3 e2] at hu;cases hu;exact w.sy _ _ hl
  ·rw [aaY e2,aaY (by omega)] at hu;exact h p (j - 1) u y hp (by omega) (by omega) (by omega) hu hy
 ·rw [aaY e1] at hv;by_cases e2:p=j - 1
  ·rw [aa3 e2] at hu;cases hu;exact h j q _ v (by omega) (by omega) hq e1 hx hv
  ·rw [aaY e2] at hu;by_cases e3:p=j
   ·rw [aa3 e3] at hu;cases hu;exact h (j - 1) q _ v (by omega) (by omega) hq e1 hy hv
   ·rw [aaY e3] at hu;exact h p q u v hp hpq hq e1 hu hv
theorem AF.done {a i j:Nat} {zs:List α} (w:Wk lt) (h:AF lt a i j zs) (h2:j≤i) (hj : ∀x y,a<j→zs[j]? = some x→zs[j - 1]? = some y → ¬lt x y):cV lt a (i+1) zs:=by
 intro p q x y hp hpq hq hx hy;by_cases e:q=j
 ·subst e;by_cases e2:p=q - 1
  ·subst e2;exact hj y x (by omega) hy hx
  ·obtain ⟨z,hz⟩ : ∃z,zs[q - 1]? = some z:=by
    have:=(aaX.1 hy).1;exact ⟨_,IO (by omega)⟩
   exact w.nt _ _ _ (hj y z (by omega) hy hz) (h p (q - 1) x z hp (by omega) (by omega) (by omega) hx hz)
 ·exact h p q x y hp hpq (by omega) e hx hy
def Hp (lt:α→α→Prop) (f lo hi:Nat) (zs:List α):Prop:= ∀r ch x y,lo≤r→(ch=2*r+1∨ch=2*r+2)→ch<hi→zs[f+r]? = some x→zs[f+ch]? = some y → ¬lt x y
structure Sf (lt:α→α→Prop) (f lo hi root:Nat) (zs:List α):Prop where
 one : ∀r ch x y,lo≤r→r≠root→(ch=2*r+1∨ch=2*r+2)→ch<hi→zs[f+r]? = some x→zs[f+ch]? = some y → ¬lt x y
 two : ∀q ch x y,lo≤q→(root=2*q+1∨root=2*q+2)→(ch=2*root+1∨ch=2*root+2)→ch<hi→zs[f+q]? = some x→zs[f+ch]? = some y → ¬lt x y
theorem Sf.start {f lo hi:Nat} {zs:List α} (h:Hp lt f (lo+1) hi zs):Sf lt f lo hi lo zs:=
 ⟨fun r ch x y h1 h2 h3 h4=>h r ch x y (by omega) h3 h4,fun q ch x y h1 h2=>by omega⟩
theorem Sf.step {f lo hi root c:Nat} {zs:List α} {x y:α} (w:Wk lt) (h:Sf lt f lo hi root zs) (hlo:lo≤root) (hc:c=2*root+1∨c=2*root+2) (hch:c<hi) (hx:zs[f+root]? = some x) (hy:zs[f+c]? = some y) (hl:lt x y)
 (ho : ∀d z,(d=2*root+1∨d=2*root+2)→d<hi→zs[f+d]? = some z → ¬lt y z):Sf lt f lo hi c ((zs.set (f+root) y).set (f+c) x):=by
 constructor
 ·intro r ch u v hr hrc hch2 hchi hu hv;rw [cZ hx hy] at hu hv;rw [aaY (by omega)] at hu;by_cases e:r=root
  ·subst e;rw [aa3 rfl] at hu;cases hu;by_cases e2:ch=c
   ·subst e2;rw [aa3 rfl] at hv;cases hv;exact w.sy _ _ hl
   ·rw [aaY (by omega),aaY (by omega)] at hv;exact ho ch v hch2 hchi hv
  ·rw [aaY (by omega)] at hu;by_cases e2:ch=c
   ·omega
   ·rw [aaY (by omega)] at hv;by_cases e3:ch=root
    ·subst e3;rw [aa3 rfl] at hv;cases hv;exact h.two r c u _ hr hch2 hc hch hu hy
    ·rw [aaY (by omega)] at hv;exact h.one r ch u v hr e hch2 hchi hu hv
 ·intro q ch u v hq hcq hch2 hchi hu hv;obtain rfl:q=root:=by omega
  rw [cZ hx hy] at hu hv;rw [aaY (by omega),aa3 rfl] at hu;cases hu;rw [aaY (by omega),aaY (by omega)] at hv;exact h.one c ch _ v (by omega) (by omega) hch2 hchi hy hv
theorem Sf.out {f lo hi root:Nat} {zs:List α} (h:Sf lt f lo hi root zs) (hr:hi≤2*root+1):Hp lt f lo hi zs:=fun r ch x y h1 h2 h3=>h.one r ch x y h1 (by omega) h2 h3
theorem Sf.fits {f lo hi root c:Nat} {zs:List α} {x y:α} (w:Wk lt) (h:Sf lt f lo hi root zs) (hx:zs[f+root]? = some x) (hl : ¬lt x y)
 (ho : ∀d z,(d=2*root+1∨d=2*root+2)→d<hi→zs[f+d]? = some z → ¬lt y z):Hp lt f lo hi zs:=fun r ch u v h1 h2 h3 hu hv=>by
 by_cases e:r=root
 ·subst e;rw [hx] at hu;cases hu;exact w.nt _ _ _ hl (ho ch v h2 h3 hv)
 ·exact h.one r ch u v h1 e h2 h3 hu hv
theorem Hp.top {f hi:Nat} {zs:List α} {x:α} (w:Wk lt) (h:Hp lt f 0 hi zs) (hx:zs[f]? = some x) : ∀k y,k<hi→zs[f+k]? = some y → ¬lt x y:=by
 intro k;induction k using Nat.strongRecOn with
 | _ k ih=>
  intro y hk hy;by_cases e:k=0
  ·subst e;rw [abD,hx] at hy;cases hy;exact w.ir _
  ·obtain ⟨z,hz⟩ : ∃z,zs[f+(k - 1) / 2]? = some z:=by
    have:=(aaX.1 hy).1;exact ⟨_,IO (by omega)⟩
   exact w.nt _ _ _ (ih ((k - 1) / 2) (by omega) z (by omega) hz) (h ((k - 1) / 2) k z y (by omega) (by omega) hk hz hy)
structure Hs (lt:α→α→Prop) (f i hi:Nat) (zs:List α):Prop where
 heap:Hp lt f 0 i zs
 srt:cV lt (f+i) (f+hi) zs
 cross : ∀p q x y,f≤p→p<f+i→f+i≤q→q<f+hi→zs[p]? = some x→zs[q]? = some y → ¬lt y x
theorem Hs.step {f i hi:Nat} {zs ws:List α} {x y:α} (w:Wk lt) (h:Hs lt f (i+1) hi zs) (hi2:i<hi) (hx:zs[f]? = some x) (hy:zs[f+i]? = some y)
 (hr:Rg f (f+i) ((zs.set f y).set (f+i) x) ws) (hh:Hp lt f 0 i ws):Hs lt f i hi ws:=by
 have hle : ∀p z,f≤p→p<f+i→((zs.set f y).set (f+i) x)[p]? = some z → ∃k,k<i+1∧zs[f+k]? = some z:=by
  intro p z h1 h2 hz;rw [cZ hx hy,aaY (by omega)] at hz;split at hz
  ·cases hz;exact ⟨i,by omega,hy⟩
  ·exact ⟨p - f,by omega,by rw [show f+(p - f)=p by omega];exact hz⟩
 have hat : ∀q,f+i≤q→ws[q]? = if q=f+i then some x else zs[q]? :=by
  intro q hq;rw [hr.out q (by omega),cZ hx hy];split
  ·rfl
  ·rw [aaY (by omega)]
 refine ⟨hh,fun p q u v h1 h2 h3 hu hv =>?_,fun p q u v h1 h2 h3 h4 hu hv =>?_⟩
 ·rw [hat _ h1] at hu;rw [hat _ (by omega),aaY (by omega)] at hv;split at hu
  ·cases hu;exact h.cross f q _ v (by omega) (by omega) (by omega) h3 hx hv
  ·exact h.srt p q u v (by omega) h2 h3 hu hv
 ·obtain ⟨k,hk,hu'⟩:=hr.all (p:=fun z=> ∃k,k<i+1∧zs[f+k]? = some z) hle p u h1 h2 hu;rw [hat _ h3] at hv;split at hv
  ·cases hv;exact h.heap.top w hx k u hk hu'
  ·exact h.cross (f+k) q u v (by omega) (by omega) (by omega) h4 hu' hv
theorem Hs.heap1 {f i hi:Nat} {zs:List α} {x y:α} (h:Hs lt f (i+1) hi zs) (hx:zs[f]? = some x) (hy:zs[f+i]? = some y):Hp lt f 1 i ((zs.set f y).set (f+i) x):=by
 intro r ch u v h1 h2 h3 hu hv;rw [cZ hx hy,aaY (by omega),aaY (by omega)] at hu hv;exact h.heap r ch u v (by omega) h2 (by omega) hu hv
theorem Hs.fin {f hi:Nat} {zs:List α} (h:Hs lt f 0 hi zs):cV lt f (f+hi) zs:=by simpa using h.srt
structure Pa (lt:α→α→Prop) (a b:Nat) (p:α) (i j:Nat) (zs:List α):Prop where
 at0:zs[a]? = some p
 lo : ∀k x,a<k→k<i→zs[k]? = some x→lt x p
 hi : ∀k x,j≤k→k<b→zs[k]? = some x → ¬lt x p
theorem Pa.up {a b i j:Nat} {p x:α} {zs:List α} (h:Pa lt a b p i j zs) (hx:zs[i]? = some x) (hl:lt x p):Pa lt a b p (i+1) j zs:=
 ⟨h.at0,fun k y h1 h2 hy=>by
  by_cases e:k=i
  ·subst e;rw [hx] at hy;cases hy;exact hl
  ·exact h.lo k y h1 (by omega) hy,h.hi⟩
theorem Pa.down {a b i j:Nat} {p x:α} {zs:List α} (h:Pa lt a b p i (j+1) zs) (hx:zs[j]? = some x) (hl : ¬lt x p):Pa lt a b p i j zs:=
 ⟨h.at0,h.lo,fun k y h1 h2 hy=>by
  by_cases e:k=j
  ·subst e;rw [hx] at hy;cases hy;exact hl
  ·exact h.hi k y (by omega) h2 hy⟩
theorem Pa.swap {a b i j:Nat} {p x y:α} {zs:List α} (h:Pa lt a b p i (j+1) zs) (hai:a<i) (hij:i<j) (hj:j<b) (hx:zs[i]? = some x) (hy:zs[j]? = some y) (h1 : ¬lt x p) (h2:lt y p):Pa lt a b p (i+1) j ((zs.set i y).set j x):=by
 refine ⟨?_,fun k z h3 h4 hz =>?_,fun k z h3 h4 hz =>?_⟩
 ·rw [cZ hx hy,aaY (by omega),aaY (by omega)];exact h.at0
 ·rw [cZ hx hy,aaY (by omega)] at hz;split at hz
  ·cases hz;exact h2
  ·exact h.lo k z h3 (by omega) hz
 ·rw [cZ hx hy] at hz;split at hz
  ·cases hz;exact h1
  ·rw [aaY (by omega)] at hz;exact h.hi k z (by omega) h4 hz
structure Pd (lt:α→α→Prop) (a b m:Nat) (p:α) (zs:List α):Prop where
 am:a≤m
 mb:m<b
 at0:zs[m]? = some p
 lo : ∀k x,a≤k→k<m→zs[k]? = some x→lt x p
 hi : ∀k x,m≤k→k<b→zs[k]? = some x → ¬lt x p
theorem Pa.done {a b j:Nat} {p y:α} {zs:List α} (w:Wk lt) (h:Pa lt a b p (j+1) (j+1) zs) (haj:a≤j) (hj:j<b) (hy:zs[j]? = some y):Pd lt a b j p ((zs.set j p).set a y):=by
 have hg:=fun k=>cZ hy h.at0 k
 refine ⟨haj,hj,?_,fun k x h1 h2 hx =>?_,fun k x h1 h2 hx =>?_⟩
 ·rw [hg];split
  ·rename_i e;subst e;rw [←h.at0,hy]
  ·rw [aa3 rfl]
 ·rw [hg] at hx;split at hx
  ·cases hx;exact h.lo j _ (by omega) (by omega) hy
  ·rw [aaY (by omega)] at hx;exact h.lo k x (by omega) (by omega) hx
 ·rw [hg] at hx;split at hx
  ·rename_i e;cases hx;obtain rfl:j=a:=by omega
   rw [h.at0] at hy;cases hy;exact w.ir _
  ·split at hx
   ·cases hx;exact w.ir _
   ·exact h.hi k x (by omega) h2 hx
structure Pe (lt:α→α→Prop) (a b:Nat) (p:α) (i j:Nat) (zs:List α):Prop where
 at0:zs[a]? = some p
 lo : ∀k x,a≤k→k<i→zs[k]? = some x → ¬lt p x
 hi : ∀k x,j≤k→k<b→zs[k]? = some x→lt p x
theorem Pe.up {a b i j:Nat} {p x:α} {zs:List α} (h:Pe lt a b p i j zs) (hx:zs[i]? = some x) (hl : ¬lt p x):Pe lt a b p (i+1) j zs:=
 ⟨h.at0,fun k y h1 h2 hy=>by
  by_cases e:k=i
  ·subst e;rw [hx] at hy;cases hy;exact hl
  ·exact h.lo k y h1 (by omega) hy,h.hi⟩
theorem Pe.down {a b i j:Nat} {p x:α} {zs:List α} (h:Pe lt a b p i (j+1) zs) (hx:zs[j]? = some x) (hl:lt p x):Pe lt a b p i j zs:=
 ⟨h.at0,h.lo,fun k y h1 h2 hy=>by
  by_cases e:k=j
  ·subst e;rw [hx] at hy;cases hy;exact hl
  ·exact h.hi k y (by omega) h2 hy⟩
theorem Pe.swap {a b i j:Nat} {p x y:α} {zs:List α} (h:Pe lt a b p i (j+1) zs) (hai:a<i) (hij:i<j) (hj:j<b) (hx:zs[i]? = some x) (hy:zs[j]? = some y) (h1:lt p x) (h2 : ¬lt p y):Pe lt a b p (i+1) j ((zs.set i y).set j x):=by
 refine ⟨?_,fun k z h3 h4 hz =>?_,fun k z h3 h4 hz =>?_⟩
 ·rw [cZ hx hy,aaY (by omega),aaY (by omega)];exact h.at0
 ·rw [cZ hx hy,aaY (by omega)] at hz;split at hz
  ·cases hz;exact h2
  ·exact h.lo k z h3 (by omega) hz
 ·rw [cZ hx hy] at hz;split at hz
  ·cases hz;exact h1
  ·rw [aaY (by omega)] at hz;exact h.hi k z (by omega) h4 hz
def Ah (lt:α→α→Prop) (a b:Nat) (zs:List α):Prop:= ∀k x y,0<a→a≤k→k<b→zs[k]? = some x→zs[a - 1]? = some y → ¬lt x y
theorem Ah.keep {a b:Nat} {xs ys:List α} (h:Ah lt a b xs) (k:Rg a b xs ys):Ah lt a b ys:=fun i x y ha h1 h2 hx hy=>by
 rw [k.out (a - 1) (by omega)] at hy;exact k.all (p:=fun x=> ¬lt x y) (fun i x h1 h2 hx=>h i x y ha h1 h2 hx hy) i x h1 h2 hx
def Fi (lt:α→α→Prop) (a b a' b':Nat) (zs:List α):Prop:= ∀ws,Rg a' b' zs ws→cV lt a' b' ws→cV lt a b ws
theorem Fi.start (a b:Nat) (zs:List α):Fi lt a b a b zs:=fun _ _ h=>h
theorem Fi.keep {a b a' b':Nat} {xs ys:List α} (h:Fi lt a b a' b' xs) (k:Rg a' b' xs ys):Fi lt a b a' b' ys:=fun ws hr hs=>h ws (k.trans hr) hs
theorem Fi.left {a b a' b' m:Nat} {p:α} {zs ys:List α} (w:Wk lt) (h:Fi lt a b a' b' zs) (hp:Pd lt a' b' m p zs) (k:Rg a' m zs ys) (hs:cV lt a' m ys):Fi lt a b (m+1) b' ys∧Ah lt (m+1) b' ys:=by
 have h0:=hp.am;have h1:=hp.mb;have hm:ys[m]? = some p:=by rw [k.out m (by omega)];exact hp.at0
 have hlo:=k.all (p:=fun x=>lt x p) hp.lo;have hhi : ∀i x,m≤i→i<b'→ys[i]? = some x → ¬lt x p:=fun i x h2 h3 hx=>hp.hi i x h2 h3 (by rw [←k.out i (by omega)];exact hx)
 refine ⟨fun ws hr hss=>h ws ((k.wide (by omega) (by omega)).trans (hr.wide (by omega) (by omega))) ?_,fun i x y _ h2 h3 hx hy =>?_⟩
 ·have hmw:ws[m]? = some p:=by rw [hr.out m (by omega)];exact hm
  have hhw:=hr.all (p:=fun x=> ¬lt x p) (fun i x h2 h3 hx=>hhi i x (by omega) h3 hx);have hlw : ∀i x,a'≤i→i<m→ws[i]? = some x→lt x p:=fun i x h2 h3 hx=>hlo i x h2 h3 (by rw [←hr.out i (by omega)];exact hx)
  refine cV.join (m:=m) (hs.out hr (by omega)) (cV.join (m:=m+1) (cV.few (by omega)) hss fun i j x y h2 h3 h4 h5 hx hy =>?_) fun i j x y h2 h3 h4 h5 hx hy =>?_
  ·obtain rfl:i=m:=by omega
   rw [hmw] at hx;cases hx;exact hhw j y h4 h5 hy
  ·have hx':=hlw i x h2 h3 hx;by_cases e:j=m
   ·subst e;rw [hmw] at hy;cases hy;exact w.sy _ _ hx'
   ·exact w.nt _ _ _ (hhw j y (by omega) h5 hy) (w.sy _ _ hx')
 ·rw [acs,hm] at hy;cases hy;exact hhi i x (by omega) h3 hx
theorem Fi.right {a b a' b' m:Nat} {p:α} {zs ys:List α} (w:Wk lt) (h:Fi lt a b a' b' zs) (ha:Ah lt a' b' zs) (hp:Pd lt a' b' m p zs) (k:Rg (m+1) b' zs ys) (hs:cV lt (m+1) b' ys):Fi lt a b a' m ys∧Ah lt a' m ys:=by
 have h0:=hp.am;have h1:=hp.mb;have hm:ys[m]? = some p:=by rw [k.out m (by omega)];exact hp.at0
 have hhi:=k.all (p:=fun x=> ¬lt x p) (fun i x h2 h3 hx=>hp.hi i x (by omega) h3 hx);refine ⟨fun ws hr hss=>h ws ((k.wide (by omega) (by omega)).trans (hr.wide (by omega) (by omega))) ?_,fun i x y h4 h2 h3 hx hy =>?_⟩
 ·have hmw:ws[m]? = some p:=by rw [hr.out m (by omega)];exact hm
  have hhw : ∀i x,m+1≤i→i<b'→ws[i]? = some x → ¬lt x p:=fun i x h2 h3 hx=>hhi i x h2 h3 (by rw [←hr.out i (by omega)];exact hx)
  have hlw:=hr.all (p:=fun x=>lt x p) (fun i x h2 h3 hx=>hp.lo i x h2 h3 (by rw [←k.out i (by omega)];exact hx));refine cV.join (m:=m) hss (cV.join (m:=m+1) (cV.few (by omega)) (hs.out hr (by omega)) fun i j x y h2 h3 h4 h5 hx hy =>?_) fun i j x y h2 h3 h4 h5 hx hy =>?_
  ·obtain rfl:i=m:=by omega
   rw [hmw] at hx;cases hx;exact hhw j y h4 h5 hy
  ·have hx':=hlw i x h2 h3 hx;by_cases e:j=m
   ·subst e;rw [hmw] at hy;cases hy;exact w.sy _ _ hx'
   ·exact w.nt _ _ _ (hhw j y (by omega) h5 hy) (w.sy _ _ hx')
 ·exact ha i x y h4 h2 (by omega) (by rw [←k.out i (by omega)];exact hx) (by rw [←k.out (a' - 1) (by omega)];exact hy)
theorem Fi.alike {a b a' b' i:Nat} {p:α} {zs:List α} (w:Wk lt) (h:Fi lt a b a' b' zs) (hl : ∀k x,a'≤k→k<b'→zs[k]? = some x → ¬lt x p) (hp:Pe lt a' b' p i i zs) (h1:a'<i) (h2:i≤b'):Fi lt a b i b' zs∧Ah lt i b' zs:=by
 refine ⟨fun ws hr hss=>h ws (hr.wide (by omega) (by omega)) ?_,fun k x y h4 h5 h6 hx hy =>?_⟩
 ·have hw:=(hr.wide (a':=a') (b':=b') (by omega) (by omega)).all (p:=fun x=> ¬lt x p) hl;have hlw : ∀k x,a'≤k→k<i→ws[k]? = some x → ¬lt p x:=fun k x h3 h4 hx=>hp.lo k x h3 h4 (by rw [←hr.out k (by omega)];exact hx)
  refine cV.join (m:=i) (fun u v x y h3 h4 h5 hx hy =>?_) hss fun u v x y h3 h4 h5 h6 hx hy =>?_
  ·exact w.nt _ _ _ (hw v y (by omega) (by omega) hy) (hlw u x h3 (by omega) hx)
  ·exact w.nt _ _ _ (hw v y (by omega) h6 hy) (hlw u x h3 h4 hx)
 ·exact w.nt _ _ _ (hl k x (by omega) h6 hx) (hp.lo (i - 1) y (by omega) (by omega) hy)
theorem cV.uniq {xs ys:List α} (w:Wk lt) (hp:ys.Perm xs) (h1:cV lt 0 xs.length xs) (h2:cV lt 0 ys.length ys) (ht : ∀x y,x∈xs→y∈xs → ¬lt x y → ¬lt y x→x=y):ys=xs:=by
 have hpw : ∀ {zs:List α},cV lt 0 zs.length zs→zs.Pairwise fun x y=> ¬lt y x:=fun {zs} h=>by
  rw [acH];intro i j hi hj hij;exact h i j _ _ (aa1 _) hij hj (IO hi) (IO hj)
 exact hp.eq_of_pairwise (fun x y hx hy ha hb=>ht x y (hp.subset hx) hy hb ha) (hpw h2) (hpw h1)
end
theorem Fj (j:Nat):((j:Int) - 1).toNat=j - 1:=by omega
theorem Fk (j:Nat):((j:Int)+1).toNat=j+1:=by omega
attribute [push_cast] Fj Fk uJ
def qo (a b:Int):Int:=if a<b then -1 else if b<a then 1 else 0
theorem BF (a:Int):ap Tryz.prog G0 185 [iv a] [] 0 (bv false) []:=by
 refine vF ab [0,2] Tryz.func185 rfl Tryz.results185 Tryz.ntmps185 ?_;(refine' zo)
 all_goals simp
theorem rd (a b:Int):ap Tryz.prog G0 123 [iv a,iv b] [] 0 (iv (qo a b)) []:=by
 refine vF ab [0,1,4,5,6,11,12,13,16,19] Tryz.func123 rfl Tryz.results123 Tryz.ntmps123 ?_;(repeat' (first|with_reducible refine ae.out ?_|with_reducible refine vC (BF _) ?_|with_reducible refine vQ (BF _) ?_|(refine' zq)|fail))
 all_goals
  unfold qo;repeat' split
  all_goals first|rfl|(exfalso;omega)
def orS (a b:Int) (i:Nat):St:=⟨[(3,iv 0),(6,.so 0 1 0 2),(7,iv 2),(8,iv i)],[(0,.row 1 ([a,b].map fun x=>D.lit (.int .i64 x)))],1⟩
attribute [push_cast] orS.eq_def
theorem TB (a b:Int):ap Tryz.prog G0 122 [.so 0 1 0 2] [(0,.row 1 [.lit (.int .i64 a),.lit (.int .i64 b)])] 1 (iv (if a≠0 then a else b)) [(0,.row 1 [.lit (.int .i64 a),.lit (.int .i64 b)])]:=by
 refine vF ab [0,2,3,5,6,7,8,9,14] Tryz.func122 rfl Tryz.results122 Tryz.ntmps122 ?_;(refine' zg)
 refine vL (lv:=[0,2,3,5,6,7,8,9,14]) ab (orS a b) (fun i=>i≤2∧(0<i→a=0)∧(1<i→b=0)) (fun i=>2 - i) (0) ((aC.go [3,6,7,8] (by exact vT) rfl)) ?_ ?_
 ·omega
 rintro i ⟨hi,h0,h1⟩;(refine' zg)
 ·have hi':i=0∨i=1:=by omega
  rcases hi' with rfl|rfl;all_goals
   (refine' zg)
  ·refine ae.now [] (by decide) ?_;(refine' zg)
   exact ⟨by rw [aa3 h],aj _⟩
  ·obtain rfl:a=0:=by omega
   refine aG.go (1) [3,6,7,8] (by exact vT) ?_ ?_
   ·omega
   ·simp
  ·refine ae.now [] (by decide) ?_;(refine' zg)
   exact ⟨by rw [aaY (by simp [h0])],aj _⟩
  ·obtain rfl:b=0:=by omega
   refine aG.go (2) [3,6,7,8] (by exact vT) ?_ ?_
   ·omega
   ·simp [h0]
 ·refine ae.now [] (by decide) ?_;(refine' zg)
  exact ⟨by rw [aaY (by simp;omega),h1 (by omega)],aj _⟩
def Uq (a b c:Int) (i:Nat):St:=⟨[(3,iv 0),(6,.so 0 1 0 3),(7,iv 3),(8,iv i)],[(0,.row 1 ([a,b,c].map fun x=>D.lit (.int .i64 x)))],1⟩
attribute [push_cast] Uq.eq_def
theorem QY (a b c:Int):ap Tryz.prog G0 122 [.so 0 1 0 3] [(0,.row 1 [.lit (.int .i64 a),.lit (.int .i64 b),.lit (.int .i64 c)])] 1 (iv (if a≠0 then a else if b≠0 then b else c)) [(0,.row 1 [.lit (.int .i64 a),.lit (.int .i64 b),.lit (.int .i64 c)])]:=by
 refine vF ab [0,2,3,5,6,7,8,9,14] Tryz.func122 rfl Tryz.results122 Tryz.ntmps122 ?_;(refine' zg)
 refine vL (lv:=[0,2,3,5,6,7,8,9,14]) ab (Uq a b c) (fun i=>i≤3∧(0<i→a=0)∧(1<i→b=0)∧(2<i→c=0)) (fun i=>3 - i) (0) ((aC.go [3,6,7,8] (by exact vT) rfl)) ?_ ?_
 ·omega
 rintro i ⟨hi,h0,h1,h2⟩;(refine' zg)
 ·have hi':i=0∨i=1∨i=2:=by omega
  rcases hi' with rfl|rfl|rfl;all_goals
   (refine' zg)
  ·refine ae.now [] (by decide) ?_;(refine' zg)
   exact ⟨by rw [aa3 h],aj _⟩
  ·obtain rfl:a=0:=by omega
   refine aG.go (1) [3,6,7,8] (by exact vT) ?_ ?_
   ·omega
   ·simp
  ·refine ae.now [] (by decide) ?_;(refine' zg)
   exact ⟨by rw [aaY (by simp [h0]),aa3 h],aj _⟩
  ·obtain rfl:b=0:=by omega
   refine aG.go (2) [3,6,7,8] (by exact vT) ?_ ?_
   ·omega
   ·simp [h0]
  ·refine ae.now [] (by decide) ?_;(refine' zg)
   exact ⟨by rw [aaY (by simp [h0]),aaY (by simp [h1])],aj _⟩
  ·obtain rfl:c=0:=by omega
   refine aG.go (3) [3,6,7,8] (by exact vT) ?_ ?_
   ·omega
   ·simp [h0,h1]
 ·refine ae.now [] (by decide) ?_;(refine' zg)
  exact ⟨by rw [aaY (by simp;omega),aaY (by simp;omega),h2 (by omega)],aj _⟩
theorem Qi (a b:Int) (h0:0≤b) (h1:b≤18446744073709551615):0≤yf .u64 a b∧yf .u64 a b≤b:=by
 unfold yf;have h:(BitVec.ofInt IntKind.u64.bits a &&& BitVec.ofInt IntKind.u64.bits b).toNat≤b.toNat:=by
  rw [BitVec.toNat_and];refine ab5 Nat.and_le_right ?_;rw [BitVec.toNat_ofInt];have e:((2 ^ IntKind.u64.bits:Nat):Int)=18446744073709551616:=by decide
  rw [e,Int.emod_eq_of_lt h0 (by omega)];exact aaV _
 rw [IntKind.wrap_u64];omega
abbrev uv (n:Int):V:= .d (.lit (.int .u64 n))
def W4 (o:Option (V × ak)) (k:IntKind) (v:Int):Bool:=match o with
 | some (.d (.lit (.int k' w)),[])=>decide (k'=k)&&decide (w=v)
 | _=>false
theorem BG {o:Option (V × ak)} {k:IntKind} {v:Int} (h:W4 o k v=true):o=some (.d (.lit (.int k v)),[]):=by
 unfold W4 at h;split at h
 ·simp at h;rw [h.1,h.2]
 ·cases h
def IP (n:Nat):Int:=if n<1 then 1 else if n<2 then 2 else if n<4 then 4 else if n<8 then 8 else if n<16 then 16 else if n<32 then 32 else if n<64 then 64 else 128
def W7 (n:Nat):Int:=if n<1 then 0 else if n<2 then 1 else if n<4 then 2 else if n<8 then 3 else if n<16 then 4 else if n<32 then 5 else if n<64 then 6 else 7
theorem O5:((List.range 65).all fun n=>W4 (Mk Tryz.prog G0 ⟨M0,false,[]⟩ 300 235 [iv n] [] 0) .u64 (IP n))=true:=by kernel_rfl
theorem ON:((List.range 65).all fun n=>W4 (Mk Tryz.prog G0 ⟨M0,false,[]⟩ 300 121 [uv n] [] 0) .i64 (W7 n))=true:=by kernel_rfl
theorem L0 (n:Nat) (h:n≤64):ap Tryz.prog G0 235 [iv n] [] 0 (uv (IP n)) []:=wY G0 M0 300 (BG (abF.1 O5 n (by simp;omega)))
theorem Lv (n:Nat) (h:n≤64):ap Tryz.prog G0 121 [uv n] [] 0 (iv (W7 n)) []:=wY G0 M0 300 (BG (abF.1 ON n (by simp;omega)))
theorem L2 (n:Nat) (h:8≤n) (h2:n≤64):(n:Int)<IP n∧IP n≤2*n:=by
 unfold IP;repeat' split
 all_goals omega
theorem Lw (n:Nat) (h2:n≤64) : ∃k:Nat,W7 n=k∧k≤7:=by
 unfold W7;repeat' split
 all_goals first|exact ⟨0,rfl,by omega⟩|exact ⟨1,rfl,by omega⟩|exact ⟨2,rfl,by omega⟩|exact ⟨3,rfl,by omega⟩|exact ⟨4,rfl,by omega⟩|exact ⟨5,rfl,by omega⟩|exact ⟨6,rfl,by omega⟩|exact ⟨7,rfl,by omega⟩
def nx1 (r:Int):Int:=Nc .u64 r (IntKind.u64.wrap (r*2 ^ min 13 IntKind.u64.bits))
def nx2 (r:Int):Int:=Nc .u64 (nx1 r) ((nx1 r).fdiv (2 ^ min 7 IntKind.u64.bits))
def Yb (r:Int):Int:=Nc .u64 (nx2 r) (IntKind.u64.wrap (nx2 r*2 ^ min 17 IntKind.u64.bits))
theorem Gm (r:Int) : ∃v:Int,True∧ap Tryz.prog G0 236 [.po 0 0] [(0,.cell [uv r])] 1 (uv v) [(0,.cell [uv v])]:=by
 refine uL ab [0,2] Tryz.func236 rfl Tryz.results236 Tryz.ntmps236 ?_;(refine' zg)
 exact a7.is (Yb r) trivial (ae.now [] (by decide) ⟨rfl,ar.cons rfl ar.nil⟩)
section
variable {α:Type} (lt:α→α→Prop) [DecidableRel lt]
def mh (x:α):List α→List α
 | []=>[x]
 | y::r=>if lt x y then x::y::r else y::mh x r
def BB (l:List α):List α:=l.foldl (fun out x=>mh lt x out) []
theorem li (l:List α) (x:α):BB lt (l++[x])=mh lt x (BB lt l):=by simp [BB]
theorem BC (x:α) : ∀l:List α,(mh lt x l).length=l.length+1
 | []=>rfl
 | y::r=>by
  rw [mh];split
  ·rfl
  ·rw [aa6,BC x r,aa6]
theorem np : ∀R l:List α,l=R.reverse→(BB lt l).length=l.length
 | [],l,e=>by subst e;rfl
 | x::R,l,e=>by
  subst e;rw [acq,li,BC,np R _ rfl,Or];rfl
theorem oK (x:α) : ∀l:List α,(mh lt x l).Perm (x::l)
 | []=>acS _
 | y::r=>by
  rw [mh];split
  ·exact acS _
  ·exact ((oK x r).cons y).trans (List.Perm.swap x y r)
theorem oJ : ∀R l:List α,l=R.reverse→(BB lt l).Perm l
 | [],l,e=>by subst e;exact acS _
 | x::R,l,e=>by
  subst e;rw [acq,li];refine (oK lt _ _).trans ?_;refine ((oJ R _ rfl).cons _).trans ?_;exact (adR _ _).symm
theorem Gd (wk:Wk lt) (tr : ∀x y z,lt x y→lt z x → ¬lt z y→False) (x:α) : ∀l:List α,(l.Pairwise fun x y=> ¬lt y x)→((mh lt x l).Pairwise fun x y=> ¬lt y x)
 | [],_=>ad1 _ _
 | y::r,h=>by
  obtain ⟨h1,h2⟩:=abR.1 h;rw [mh];split
  ·rename_i hlt;refine abR.2 ⟨fun z hz =>?_,h⟩;rcases abi.1 hz with rfl|hz
   ·exact fun k=>wk.sy _ _ hlt k
   ·exact fun k=>tr x y z hlt k (h1 z hz)
  ·rename_i hlt;refine abR.2 ⟨fun z hz =>?_,Gd wk tr x r h2⟩;rcases abi.1 ((oK lt x r).mem_iff.1 hz) with rfl|hz
   ·exact hlt
   ·exact h1 z hz
theorem yW (wk:Wk lt) (tr : ∀x y z,lt x y→lt z x → ¬lt z y→False) : ∀R l:List α,l=R.reverse→((BB lt l).Pairwise fun x y=> ¬lt y x)
 | [],l,e=>by subst e;exact List.Pairwise.nil
 | x::R,l,e=>by subst e;rw [acq,li];exact Gd lt wk tr _ _ (yW wk tr R _ rfl)
theorem Li {l:List α} (h:l.Pairwise fun x y=> ¬lt y x):cV lt 0 l.length l:=fun p q x y h1 h2 h3 hx hy=>by
 have:=acH.1 h p q (by omega) h3 h2;rw [(aaX.1 hx).2,(aaX.1 hy).2] at this;exact this
theorem H9 (wk:Wk lt) (tr : ∀x y z,lt x y→lt z x → ¬lt z y→False) {l ys:List α} (hp:ys.Perm l) (hs:cV lt 0 l.length ys) (ht : ∀x y,x∈l→y∈l → ¬lt x y → ¬lt y x→x=y):ys=BB lt l:=by
 have h1:=oJ lt l.reverse l (by simp);have h2:=yW lt wk tr l.reverse l (by simp);have hl:=np lt l.reverse l (by simp);refine cV.uniq wk (hp.trans h1.symm) (Li lt h2) (by rw [(hp.trans h1.symm).length_eq,hl];exact hs) fun x y hx hy n1 n2 =>?_
 exact ht x y (h1.mem_iff.1 hx) (h1.mem_iff.1 hy) n1 n2
end
end Go.Proofs.YtkkanlcjjpoklaaGreatDoor
