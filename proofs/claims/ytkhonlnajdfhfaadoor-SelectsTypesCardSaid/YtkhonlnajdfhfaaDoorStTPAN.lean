/- What the theorem leans on, part 14. -/
import Derived.Test.YtkhonlnajdfhfaaDoorStTPAL
namespace Go.Proofs.YtkhonlnajdfhfaaDoor
theorem sO (L M:List Se) (a c:Se) {k:Nat} (hk:L.length=k):(L++a::M).set k c=L++c::M:=by subst hk;simp
theorem sw (L M:List Se) (a:Se) {k:Nat} (hk:L.length=k):(L++a::M)[k]? = some a:=by subst hk;simp
def qi (A X B Y C:List Se) (i:Nat):List Se:=A++(Y.take i++X.drop i)++(B++(X.take i++Y.drop i)++C)
theorem uU (A X B Y C:List Se):qi A X B Y C 0=A++X++(B++Y++C):=by simp [qi]
theorem zw {A X B Y C:List Se} (h:X.length=Y.length):qi A X B Y C X.length=A++Y++(B++X++C):=by
 unfold qi;rw [List.take_of_length_le (by omega),List.drop_of_length_le (Nat.le_refl _),List.take_of_length_le (Nat.le_refl _),List.drop_of_length_le (by omega)];simp
section
variable {A X B Y C:List Se} {i:Nat} {x y:Se}
theorem sT (hx:X[i]? = some x):qi A X B Y C i=(A++Y.take i)++x::(X.drop (i+1)++(B++(X.take i++Y.drop i)++C)):=by
 obtain ⟨hi,rfl⟩:=List.getElem?_eq_some_iff.1 hx;unfold qi;rw [List.drop_eq_getElem_cons hi];simp only [List.append_assoc,List.cons_append]
theorem zx (hy:Y[i]? = some y):qi A X B Y C i=(A++(Y.take i++X.drop i)++(B++X.take i))++y::(Y.drop (i+1)++C):=by
 obtain ⟨hi,rfl⟩:=List.getElem?_eq_some_iff.1 hy;unfold qi;rw [List.drop_eq_getElem_cons hi];simp only [List.append_assoc,List.cons_append]
theorem Co (h:X.length=Y.length) (hx:X[i]? = some x):(qi A X B Y C i)[A.length+i]? = some x:=by
 have hi:=(List.getElem?_eq_some_iff.1 hx).1;rw [sT hx];refine sw _ _ _ ?_;rw [List.length_append,List.length_take];omega
theorem Cp (h:X.length=Y.length) (hy:Y[i]? = some y):(qi A X B Y C i)[A.length+X.length+B.length+i]? = some y:=by
 have hi:=(List.getElem?_eq_some_iff.1 hy).1;rw [zx hy];refine sw _ _ _ ?_;simp only [List.length_append,List.length_take,List.length_drop];omega
theorem xE (h:X.length=Y.length) (hx:X[i]? = some x) (hy:Y[i]? = some y) :
 ((qi A X B Y C i).set (A.length+i) y).set (A.length+X.length+B.length+i) x=qi A X B Y C (i+1):=by
 obtain ⟨hi,rfl⟩:=List.getElem?_eq_some_iff.1 hx;obtain ⟨hi',rfl⟩:=List.getElem?_eq_some_iff.1 hy;rw [sT hx,sO _ _ _ _ (by rw [List.length_append,List.length_take];omega)];have e:(A++Y.take i)++Y[i]::(X.drop (i+1)++(B++(X.take i++Y.drop i)++C))=(A++(Y.take i++Y[i]::X.drop (i+1))++(B++X.take i))++Y[i]::(Y.drop (i+1)++C):=by
  rw [List.drop_eq_getElem_cons hi'];simp only [List.append_assoc,List.cons_append]
 rw [e,sO _ _ _ _ (by simp only [List.length_append,List.length_take,List.length_drop,List.length_cons];omega)];unfold qi;rw [List.take_succ_eq_append_getElem hi,List.take_succ_eq_append_getElem hi'];simp only [List.append_assoc,List.cons_append,List.nil_append]
end
theorem qN {x:Se} {l:List Se} (h : ∀y∈l,aB x y=true):bU x l=x::l:=by
 cases l with
 | nil=>rfl
 | cons y r=>simp [bU,h y (by simp)]
theorem t7 {x:Se} {A B:List Se} (h : ∀y∈A,aB x y=false):bU x (A++B)=A++bU x B:=by
 induction A with
 | nil=>rfl
 | cons y r ih=>
  have h1:=h y (by simp);have ih':=ih fun z hz=>h z (by simp [hz])
  simp [bU,h1,ih']
theorem yS {x:Se} {S:List Se} {k:Nat} (hS:aO S) (h1 : ∀y∈S.drop k,aB x y=true) (h2:k=0 ∨ ∃y,S[k - 1]? = some y∧aB x y=false) :
 bU x S=S.take k++x::S.drop k:=by
 have hA : ∀y∈S.take k,aB x y=false:=by
  intro y hy;rcases h2 with rfl|⟨z,hz,hxz⟩
  ·simp at hy
  ·obtain ⟨i,hi,rfl⟩:=List.mem_take_iff_getElem.1 hy;obtain ⟨hk,rfl⟩:=List.getElem?_eq_some_iff.1 hz;have hi':i<k:=by omega
   by_cases hik:i=k - 1
   ·subst hik;exact hxz
   ·have:=(List.pairwise_iff_getElem.1 hS) i (k - 1) (by omega) hk (by omega);exact fB (x:=S[i]) this hxz
 conv=>lhs;rw [←List.take_append_drop k S]
 rw [t7 hA,qN h1]
def bu (A S:List Se) (k:Nat) (x:Se) (R:List Se):List Se:=A++(S.take k++x::S.drop k)++R
theorem fE (A S:List Se) (k:Nat) (x:Se) (R:List Se) (h:k≤S.length):(bu A S k x R).length=A.length+S.length+1+R.length:=by
 simp [bu];omega
theorem i9 {A S:List Se} {k:Nat} {x:Se} {R:List Se} (h:k≤S.length):(bu A S k x R)[A.length+k]? = some x:=by
 unfold bu;rw [List.append_assoc,List.getElem?_append_right (by omega),List.append_assoc];have hl:(S.take k).length=k:=by simp;omega
 rw [List.getElem?_append_right (by omega)];have e:A.length+k - A.length - (S.take k).length=0:=by omega
 rw [e];rfl
theorem i8 {A S:List Se} {k:Nat} {x:Se} {R:List Se} (h:k≤S.length) (h0:0<k):(bu A S k x R)[A.length+k - 1]? = S[k - 1]? :=by
 unfold bu;rw [List.append_assoc,List.getElem?_append_right (by omega),List.append_assoc];have hl:(S.take k).length=k:=by simp;omega
 rw [List.getElem?_append_left (by omega),List.getElem?_take];rw [if_pos (by omega)];congr 1;omega
theorem zn (L M:List Se) (a b c d:Se):((L++a::b::M).set (L.length+1) c).set L.length d=L++d::c::M:=by
 simp
theorem mY {A S:List Se} {k:Nat} {x y:Se} {R:List Se} (h0:0<k) (hy:S[k - 1]? = some y) :
 ((bu A S k x R).set (A.length+k) y).set (A.length+k - 1) x=bu A S (k - 1) x R:=by
 obtain ⟨hk,rfl⟩:=List.getElem?_eq_some_iff.1 hy;have e1:S.take k=S.take (k - 1)++[S[k - 1]]:=by
  have:k=(k - 1)+1:=by omega
  conv=>lhs;rw [this]
  rw [List.take_succ_eq_append_getElem hk]
 have e2:S.drop (k - 1)=S[k - 1]::S.drop k:=by
  rw [List.drop_eq_getElem_cons hk];congr 2;omega
 have hl:(S.take (k - 1)).length=k - 1:=by simp;omega
 have e3:bu A S k x R=(A++S.take (k - 1))++S[k - 1]::x::(S.drop k++R):=by unfold bu;rw [e1];simp only [List.append_assoc,List.cons_append,List.nil_append]
 have e4:bu A S (k - 1) x R=(A++S.take (k - 1))++x::S[k - 1]::(S.drop k++R):=by unfold bu;rw [e2];simp only [List.append_assoc,List.cons_append]
 have hL:(A++S.take (k - 1)).length=A.length+k - 1:=by rw [List.length_append,hl];omega
 rw [e3,e4,←zn (A++S.take (k - 1)) (S.drop k++R) S[k - 1] x S[k - 1] x,hL];congr 2;omega
theorem gr {a b x:Se} (h1:aB b a=false) (h2:aB b x=true):aB a x=true:=by
 rw [bp] at h1;rw [eP] at *;omega
theorem px {a b x:Se} (h1:aB b a=false) (h2:aB a x=false):aB b x=false:=by
 rw [bp] at *;omega
theorem yV {x a b:Se} (h1:aB b a=false) (h2:aB x a=true):aB x b=true:=by
 rw [bp] at h1;rw [eP] at *;omega
theorem gt {x a b:Se} (h1:aB b a=false) (h2:aB x b=false):aB x a=false:=by
 rw [bp] at *;omega
theorem eo {l:List Se} (h:aO l) {i j:Nat} {x y:Se} (hij:i≤j) (hi:l[i]? = some x) (hj:l[j]? = some y):aB y x=false:=by
 obtain ⟨a,rfl⟩:=List.getElem?_eq_some_iff.1 hi;obtain ⟨b,rfl⟩:=List.getElem?_eq_some_iff.1 hj;rcases Nat.lt_or_ge i j with h1|h1
 ·exact (List.pairwise_iff_getElem.1 h) i j a b h1
 ·obtain rfl:i=j:=by omega
  exact pg _
theorem lz {x:Se} {Y:List Se} {t:Nat} (h1 : ∀y∈Y.take t,aB y x=true) (h2 : ∀y,Y[t]? = some y→aB y x=false):aE [x] Y=Y.take t++x::Y.drop t:=by
 have e:=fD [] [x] (Y.take t) (Y.drop t) (fun z hz=>by cases hz) (fun y hy z hz=>by simp at hz;subst hz;exact h1 y hy);rw [List.take_append_drop,List.nil_append,aW] at e;rw [e];congr 1;cases hd:Y.drop t with
 | nil=>rw [aL]
 | cons z r=>
  have hz:Y[t]? = some z:=by
   have:=List.getElem?_drop (xs:=Y) (i:=t) (j:=0);rw [hd] at this;simpa using this.symm
  rw [a5,if_neg (by simp [h2 z hz]),aW]
theorem j6 {y:Se} {X:List Se} {t:Nat} (h1 : ∀x∈X.take t,aB y x=false) (h2 : ∀x,X[t]? = some x→aB y x=true):aE X [y]=X.take t++y::X.drop t:=by
 have e:=fD (X.take t) (X.drop t) [] [y] (fun x hx z hz=>by simp at hz;subst hz;exact h1 x hx) (fun z hz=>by cases hz);rw [List.take_append_drop,List.nil_append,aL] at e;rw [e];congr 1;cases hd:X.drop t with
 | nil=>rw [aW]
 | cons z r=>
  have hz:X[t]? = some z:=by
   have:=List.getElem?_drop (xs:=X) (i:=t) (j:=0);rw [hd] at this;simpa using this.symm
  rw [a5,if_pos (h2 z hz),aL]
theorem un {X Y:List Se} (hX:aO X) (hY:aO Y) {s e:Nat}
 (h1:s=0∨e=Y.length ∨ ∃x y,X[s - 1]? = some x∧Y[e]? = some y∧aB y x=false)
 (h2:e=0∨s=X.length ∨ ∃x y,X[s]? = some x∧Y[e - 1]? = some y∧aB y x=true) (hs:s≤X.length) (he:e≤Y.length) :
 aE X Y=aE (X.take s) (Y.take e)++aE (X.drop s) (Y.drop e):=by
 have key:=fD (X.take s) (X.drop s) (Y.take e) (Y.drop e) ?_ ?_
 ·rw [List.take_append_drop,List.take_append_drop] at key;exact key
 ·intro x hx y hy;obtain ⟨i,hi,rfl⟩:=List.mem_take_iff_getElem.1 hx;obtain ⟨j,hj,rfl⟩:=List.mem_drop_iff_getElem.1 hy;rcases h1 with rfl|rfl|⟨x0,y0,hx0,hy0,hl⟩
  ·omega
  ·omega
  ·have a1:=eo hX (i:=i) (j:=s - 1) (by omega) (List.getElem?_eq_getElem (by omega)) hx0;have a2:=eo hY (i:=e) (j:=j+e) (by omega) hy0 (List.getElem?_eq_getElem (by omega));have a3:=px a2 hl;have a4:=gt a1 a3;have e1:Y[j+e]'(by omega)=Y[e+j]'(by omega):=by congr 1;omega
   rw [e1] at a4;exact a4
 ·intro y hy x hx;obtain ⟨j,hj,rfl⟩:=List.mem_take_iff_getElem.1 hy;obtain ⟨i,hi,rfl⟩:=List.mem_drop_iff_getElem.1 hx;rcases h2 with rfl|rfl|⟨x0,y0,hx0,hy0,hl⟩
  ·omega
  ·omega
  ·have a1:=eo hY (i:=j) (j:=e - 1) (by omega) (List.getElem?_eq_getElem (by omega)) hy0;have a2:=eo hX (i:=s) (j:=i+s) (by omega) hx0 (List.getElem?_eq_getElem (by omega));have a3:=gr a1 hl;have a4:=yV a2 a3;have e1:X[i+s]'(by omega)=X[s+i]'(by omega):=by congr 1;omega
   rw [e1] at a4;exact a4
theorem lK {l:List Se} (h:aO l) (k:Nat):aO (l.take k):=List.Pairwise.sublist (List.take_sublist k l) h
theorem lJ {l:List Se} (h:aO l) (k:Nat):aO (l.drop k):=List.Pairwise.sublist (List.drop_sublist k l) h
theorem uo {A S:List Se} {k:Nat} {x:Se} {R:List Se} (h:k<S.length):(bu A S k x R)[A.length+k+1]? = S[k]? :=by
 unfold bu;rw [List.append_assoc,List.getElem?_append_right (by omega),List.append_assoc];have hl:(S.take k).length=k:=by simp;omega
 rw [List.getElem?_append_right (by omega)];have e:A.length+k+1 - A.length - (S.take k).length=1:=by omega
 rw [e];show (S.drop k++R)[0]? = _;rw [List.getElem?_append_left (by simp;omega),List.getElem?_drop];rfl
theorem nU {A S:List Se} {k:Nat} {x y:Se} {R:List Se} (hy:S[k]? = some y) :
 ((bu A S k x R).set (A.length+k) y).set (A.length+k+1) x=bu A S (k+1) x R:=by
 obtain ⟨hk,rfl⟩:=List.getElem?_eq_some_iff.1 hy;have hl:(S.take k).length=k:=by simp;omega
 have e3:bu A S k x R=(A++S.take k)++x::S[k]::(S.drop (k+1)++R):=by
  unfold bu;rw [List.drop_eq_getElem_cons hk];simp only [List.append_assoc,List.cons_append]
 have e4:bu A S (k+1) x R=(A++S.take k)++S[k]::x::(S.drop (k+1)++R):=by
  unfold bu;rw [List.take_succ_eq_append_getElem hk];simp only [List.append_assoc,List.cons_append,List.nil_append]
 have hL:(A++S.take k).length=A.length+k:=by rw [List.length_append,hl]
 rw [e3,e4,←hL];generalize A++S.take k=L;simp
structure SL (x:Se) (Y:List Se) (s t:Nat):Prop where
 st:s≤t
 tl:t≤Y.length
 lo : ∀y∈Y.take s,aB y x=true
 hi : ∀y,Y[t]? = some y→aB y x=false
theorem SL.start (x:Se) (Y:List Se):SL x Y 0 Y.length:=⟨Nat.zero_le _,Nat.le_refl _,by simp,by simp⟩
theorem SL.up {x y:Se} {Y:List Se} {s t q:Nat} (h:SL x Y s t) (hY:aO Y) (hq:q<t) (hy:Y[q]? = some y) (hl:aB y x=true):SL x Y (q+1) t:=by
 refine ⟨by omega,h.tl,?_,h.hi⟩;intro z hz;obtain ⟨i,hi,rfl⟩:=List.mem_take_iff_getElem.1 hz;have:=eo hY (i:=i) (j:=q) (by omega) (List.getElem?_eq_getElem (by omega)) hy;exact gr this hl
theorem SL.down {x y:Se} {Y:List Se} {s t q:Nat} (h:SL x Y s t) (hs:s≤q) (hq:q<t) (hy:Y[q]? = some y) (hl:aB y x=false):SL x Y s q:=
 ⟨hs,by have:=h.tl;omega,h.lo,fun z hz=>by rw [hy] at hz;injection hz with e;subst e;exact hl⟩
theorem SL.fin {x:Se} {Y:List Se} {s:Nat} (h:SL x Y s s):aE [x] Y=Y.take s++x::Y.drop s:=lz h.lo h.hi
structure SR (y:Se) (X:List Se) (s t:Nat):Prop where
 st:s≤t
 tl:t≤X.length
 lo : ∀x∈X.take s,aB y x=false
 hi : ∀x,X[t]? = some x→aB y x=true
theorem SR.start (y:Se) (X:List Se):SR y X 0 X.length:=⟨Nat.zero_le _,Nat.le_refl _,by simp,by simp⟩
theorem SR.up {x y:Se} {X:List Se} {s t q:Nat} (h:SR y X s t) (hX:aO X) (hq:q<t) (hx:X[q]? = some x) (hl:aB y x=false):SR y X (q+1) t:=by
 refine ⟨by omega,h.tl,?_,h.hi⟩;intro z hz;obtain ⟨i,hi,rfl⟩:=List.mem_take_iff_getElem.1 hz;have:=eo hX (i:=i) (j:=q) (by omega) (List.getElem?_eq_getElem (by omega)) hx;exact gt this hl
theorem SR.down {x y:Se} {X:List Se} {s t q:Nat} (h:SR y X s t) (hs:s≤q) (hq:q<t) (hx:X[q]? = some x) (hl:aB y x=true):SR y X s q:=
 ⟨hs,by have:=h.tl;omega,h.lo,fun z hz=>by rw [hx] at hz;injection hz with e;subst e;exact hl⟩
theorem SR.fin {y:Se} {X:List Se} {s:Nat} (h:SR y X s s):aE X [y]=X.take s++y::X.drop s:=j6 h.lo h.hi
structure GI (X Y:List Se) (K s t:Nat):Prop where
 st:s≤t
 tK:t≤K
 tX:t≤X.length
 sY:K≤s+Y.length
 h1:s=0∨K - s=Y.length ∨ ∃x y,X[s - 1]? = some x∧Y[K - s]? = some y∧aB y x=false
 h2:K - t=0∨t=X.length ∨ ∃x y,X[t]? = some x∧Y[K - t - 1]? = some y∧aB y x=true
theorem GI.up {X Y:List Se} {K s t c:Nat} {x y:Se} (h:GI X Y K s t) (hs:s≤c) (hc:c<t) (hx:X[c]? = some x) (hy:Y[K - c - 1]? = some y) (hl:aB y x=false):GI X Y K (c+1) t:=by
 have:=h.sY;exact ⟨by omega,h.tK,h.tX,by omega,.inr (.inr ⟨x,y,by simpa using hx,by rw [show K - (c+1)=K - c - 1 from by omega];exact hy,hl⟩),h.h2⟩
theorem GI.down {X Y:List Se} {K s t c:Nat} {x y:Se} (h:GI X Y K s t) (hs:s≤c) (hc:c<t) (hx:X[c]? = some x) (hy:Y[K - c - 1]? = some y) (hl:aB y x=true):GI X Y K s c:=by
 have h1:=h.tK;have h2:=h.tX;exact ⟨hs,by omega,by omega,h.sY,h.h1,.inr (.inr ⟨x,y,hx,hy,hl⟩)⟩
theorem GI.fin {X Y:List Se} {K s:Nat} (h:GI X Y K s s) (hX:aO X) (hY:aO Y) :
 aE X Y=aE (X.take s) (Y.take (K - s))++aE (X.drop s) (Y.drop (K - s)):=
 un hX hY h.h1 h.h2 h.tX (by have:=h.sY;omega)
def df (y x:Se):Se:=if y.2<y.1 then (if ai y<ai x then ai x else ai y,ak y) else (ak y,if ai y<ai x then ai x else ai y)
def bY (y x:Se):Bool:=jU (ak y) (ai y) (ak x) (ai x)
def bX (out:List Se) (x:Se):List Se:=
 match out.getLast? with
 | none=>[x]
 | some y=>if bY y x=true then out.dropLast++[df y x] else out++[x]
def aK (l:List Se):List Se:=(au l).foldl bX []
theorem dt (x:Se):bX [] x=[x]:=rfl
theorem fR {o:List Se} {y x:Se} (h:bY y x=false):bX (o++[y]) x=o++[y]++[x]:=by simp [bX,h]
theorem d7 {o:List Se} {y x:Se} (h:bY y x=true):bX (o++[y]) x=o++[df y x]:=by simp [bX,h]
theorem vr (out:List Se) (x:Se):(bX out x).length≤out.length+1:=by
 rcases List.eq_nil_or_concat out with rfl|⟨o,y,rfl⟩
 ·simp [dt]
 ·cases h:bY y x
  ·have:=fR (o:=o) h;simp only [List.concat_eq_append] at *
   rw [this];simp
  ·have:=d7 (o:=o) h;simp only [List.concat_eq_append] at *
   rw [this];simp
theorem vt (out:List Se) (x:Se):0<(bX out x).length:=by
 rcases List.eq_nil_or_concat out with rfl|⟨o,y,rfl⟩
 ·simp [dt]
 ·cases h:bY y x
  ·have:=fR (o:=o) h;simp only [List.concat_eq_append] at *
   rw [this];simp
  ·have:=d7 (o:=o) h;simp only [List.concat_eq_append] at *
   rw [this];simp
end Go.Proofs.YtkhonlnajdfhfaaDoor
