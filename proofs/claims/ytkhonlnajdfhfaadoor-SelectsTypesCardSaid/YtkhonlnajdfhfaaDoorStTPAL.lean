/- What the theorem leans on, part 12. -/
namespace Go.Proofs.YtkhonlnajdfhfaaDoor
abbrev Se:=Int × Int
def ak (x:Se):Int:=if x.2<x.1 then x.2 else x.1
def ai (x:Se):Int:=if x.2<x.1 then x.1 else x.2
theorem aQ (x:Se):ak x≤ai x:=by unfold ak ai;split<;>omega
theorem nk (x:Se):ak x=min x.1 x.2:=by unfold ak;split<;>omega
theorem nl (x:Se):ai x=max x.1 x.2:=by unfold ai;split<;>omega
def jU (a b c d:Int):Bool:=decide ((a<d∧c<b)∨(a=b∧c≤a∧a≤d)∨(c=d∧a≤c∧c≤b))
def sD (a b c d:Int):Bool:=if a=b∨c=d then decide (a≤d∧c≤b) else decide (a<d∧c<b)
theorem pm {a b c d:Int} (h:a≤b) (h':c≤d):sD a b c d=jU a b c d:=by
 unfold sD jU;split<;>(rw [Bool.eq_iff_iff];simp;omega)
def aB (x y:Se):Bool:=decide (ak x<ak y∨(ak x=ak y∧ai x<ai y))
def tH (a b:Int):Int:=if a<b then -1 else if b<a then 1 else 0
def yn (x y:Se):Int:=if tH (ak x) (ak y)≠0 then tH (ak x) (ak y) else tH (ai x) (ai y)
theorem fS {x y:Se} : yn x y<0↔aB x y=true:=by
 unfold yn tH aB;simp only [decide_eq_true_eq];split
 ·split
  ·omega
  ·split<;>omega
 ·split
  ·omega
  ·split<;>omega
theorem bp {x y:Se} : aB x y=false ↔ ¬(ak x<ak y∨(ak x=ak y∧ai x<ai y)):=by unfold aB;exact decide_eq_false_iff_not
theorem eP {x y:Se} : aB x y=true↔(ak x<ak y∨(ak x=ak y∧ai x<ai y)):=by unfold aB;exact decide_eq_true_iff
theorem fB {x y z:Se} (h1:aB z x=false) (h2:aB y z=false):aB y x=false:=by
 rw [bp] at *;omega
theorem lw {x y z:Se} (h1:aB y z=true) (h2:aB y x=false):aB z x=false:=by
 rw [eP] at h1;rw [bp] at *;omega
theorem pg (x:Se):aB x x=false:=by rw [bp];omega
def bU (x:Se):List Se→List Se
 | []=>[x]
 | y::r=>if aB x y=true then x::y::r else y::bU x r
def au (l:List Se):List Se:=l.foldl (fun acc x=>bU x acc) []
def aE:List Se→List Se→List Se
 | [],ys=>ys
 | x::xs,[]=>x::xs
 | x::xs,y::ys=>if aB y x=true then y::aE (x::xs) ys else x::aE xs (y::ys)
termination_by xs ys=>xs.length+ys.length
theorem aW (ys:List Se):aE [] ys=ys:=by unfold aE;rfl
theorem aL (xs:List Se):aE xs []=xs:=by cases xs<;>(unfold aE;rfl)
theorem a5 (x y:Se) (xs ys:List Se):aE (x::xs) (y::ys)=if aB y x=true then y::aE (x::xs) ys else x::aE xs (y::ys):=by
 rw [aE]
theorem qZ (y:Se) (X Y:List Se):aE X (bU y Y)=bU y (aE X Y):=by
 induction X generalizing Y with
 | nil=>simp [aW]
 | cons x X ihX=>
  induction Y with
  | nil=>
   simp only [bU,aL,a5];split
   ·rfl
   ·have:=ihX [];simp only [bU,aL] at this;rw [this]
  | cons z Y ihY=>
   cases hyz:aB y z with
   | true=>
    have e:bU y (z::Y)=y::z::Y:=by simp [bU,hyz]
    rw [e,a5];cases hyx:aB y x with
    | true=>
     rw [if_pos rfl,a5];split
     ·simp [bU,hyz]
     ·simp [bU,hyx]
    | false=>
     have hzx:=lw hyz hyx;rw [if_neg (by simp),a5,if_neg (by simp [hzx])];have:=ihX (z::Y);rw [e] at this;rw [this];simp [bU,hyx]
   | false=>
    have e:bU y (z::Y)=z::bU y Y:=by simp [bU,hyz]
    rw [e,a5,a5];cases hzx:aB z x with
    | true=>
     rw [if_pos rfl,if_pos rfl,ihY];simp [bU,hyz]
    | false=>
     have hyx:=fB hzx hyz;rw [if_neg (by simp),if_neg (by simp)];have:=ihX (z::Y);rw [e] at this;rw [this];simp [bU,hyx]
theorem cP (l:List Se) (x:Se):au (l++[x])=bU x (au l):=by simp [au]
theorem lA (A R:List Se) : ∀B:List Se,B=R.reverse→aE (au A) (au B)=au (A++B):=by
 induction R with
 | nil=>intro B hB;subst hB;simp [au,aL]
 | cons x R ih=>
  intro B hB;subst hB;rw [List.reverse_cons,cP,qZ,ih _ rfl,←List.append_assoc,cP]
theorem rf (A B:List Se):aE (au A) (au B)=au (A++B):=lA A B.reverse B (by simp)
theorem fD (X1 X2 Y1 Y2:List Se) (h1 : ∀x∈X1,∀y∈Y2,aB y x=false) (h2 : ∀y∈Y1,∀x∈X2,aB y x=true) :
 aE (X1++X2) (Y1++Y2)=aE X1 Y1++aE X2 Y2:=by
 induction X1 generalizing Y1 with
 | nil=>
  induction Y1 with
  | nil=>simp [aW]
  | cons y Y1 ih=>
   have ih':=ih fun y' hy' x hx=>h2 y' (by simp [hy']) x hx
   simp only [List.nil_append,List.cons_append,aW] at *
   cases X2 with
   | nil=>simp [aW]
   | cons x X2=>
    rw [a5,if_pos (h2 y (by simp) x (by simp)),ih']
 | cons x X1 ihX=>
  induction Y1 with
  | nil=>
   have ih':=ihX [] (fun x' hx' y hy=>h1 x' (by simp [hx']) y hy) (fun y hy=>by cases hy);simp only [List.nil_append,List.cons_append,aL] at *
   cases Y2 with
   | nil=>simp [aL]
   | cons y Y2=>
    rw [a5,if_neg (by simp [h1 x (by simp) y (by simp)]),ih']
  | cons y Y1 ihY=>
   simp only [List.cons_append];rw [a5,a5];split
   ·have:=ihY fun y' hy' x' hx'=>h2 y' (by simp [hy']) x' hx'
    simp only [List.cons_append] at this;rw [this];rfl
   ·have:=ihX (y::Y1) (fun x' hx' y' hy'=>h1 x' (by simp [hx']) y' hy') h2;simp only [List.cons_append] at this;rw [this];rfl
def aO (l:List Se):Prop:=l.Pairwise fun a b=>aB b a=false
theorem o8 {x y:Se} {l:List Se} : y∈bU x l↔y=x∨y∈l:=by
 induction l with
 | nil=>simp [bU]
 | cons z r ih=>
  unfold bU;split
  ·simp
  ·simp [ih];constructor
   ·rintro (h|h|h)<;>simp [h]
   ·rintro (h|h|h)<;>simp [h]
theorem wC (x:Se) (l:List Se):(bU x l).length=l.length+1:=by
 induction l with
 | nil=>rfl
 | cons z r ih=>unfold bU;split<;>simp [ih]
theorem qO {x:Se} {l:List Se} (h:aO l):aO (bU x l):=by
 induction l with
 | nil=>simp [bU,aO]
 | cons z r ih=>
  unfold aO at h ih ⊢;rw [List.pairwise_cons] at h;unfold bU;split
  ·rename_i hlt;rw [List.pairwise_cons,List.pairwise_cons];refine ⟨fun y hy =>?_,h⟩;have hxz:=eP.1 hlt;rw [bp];rcases List.mem_cons.1 hy with rfl|hy
   ·omega
   ·have:=bp.1 (h.1 y hy);omega
  ·rename_i hlt;rw [List.pairwise_cons];refine ⟨fun y hy =>?_,ih h.2⟩;rcases o8.1 hy with rfl|hy
   ·simpa using hlt
   ·exact h.1 y hy
theorem jE (R:List Se) : ∀B:List Se,B=R.reverse→aO (au B)∧(au B).length=B.length ∧ ∀x,x∈au B↔x∈B:=by
 induction R with
 | nil=>intro B hB;subst hB;simp [au,aO]
 | cons x R ih=>
  intro B hB;subst hB;obtain ⟨h1,h2,h3⟩:=ih _ rfl;rw [List.reverse_cons,cP];refine ⟨qO h1,by rw [wC,h2];simp,fun y =>?_⟩;rw [o8,h3];simp;exact Or.comm
theorem cB (B:List Se):aO (au B):=(jE B.reverse B (by simp)).1
theorem ax (B:List Se):(au B).length=B.length:=(jE B.reverse B (by simp)).2.1
theorem jF (B:List Se) (x:Se):x∈au B↔x∈B:=(jE B.reverse B (by simp)).2.2 x
theorem re (X Y:List Se):(aE X Y).length=X.length+Y.length:=by
 induction X generalizing Y with
 | nil=>simp [aW]
 | cons x X ihX=>
  induction Y with
  | nil=>simp [aL]
  | cons y Y ihY=>
   rw [a5];split
   ·simp only [List.length_cons] at *;omega
   ·have:=ihX (y::Y);simp only [List.length_cons] at *;omega
end Go.Proofs.YtkhonlnajdfhfaaDoor
