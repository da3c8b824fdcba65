/- What the theorem leans on, part 15. -/
import Derived.Test.YtkhonlnajdfhfaaDoorStTPAM
import Derived.Test.YtkhonlnajdfhfaaDoorStTPAN
set_option linter.unusedSimpArgs false
set_option linter.unusedVariables false
set_option maxRecDepth 8000
namespace Go.Proofs.YtkhonlnajdfhfaaDoor
abbrev fi:V:= .d (.fn 40 [])
abbrev dd (l:List Se):bP:= .row 2 (l.map lW)
def xF (A X B Y C:List Se) (N:Nat) (i:Nat):St:=⟨[(0,.so 0 2 0 N),(1,iv A.length),(2,iv (A.length+X.length+B.length:Nat)),(3,iv X.length),(10,iv i)],[(0,dd (qi A X B Y C i))],1⟩
attribute [push_cast] xF.eq_def
theorem zy (A X B Y C:List Se) (N:Nat) (hN:N=A.length+X.length+B.length+Y.length+C.length) (hl:N≤100000) (hXY:X.length=Y.length) :
 aG Tryd.prog G0 93 [.so 0 2 0 N,iv A.length,iv (A.length+X.length+B.length:Nat),iv X.length,fi] [(0,dd (A++X++(B++Y++C)))] 1 (.tup []) [(0,dd (A++Y++(B++X++C)))]:=by
 rw [←uU A X B Y C,←zw hXY];refine vF ab [0,1,2,3,10,13] Tryd.func93 rfl Tryd.results93 Tryd.ntmps93 ?_;(repeat' (first|(with_reducible first|exact True.intro|refine vD ?_|refine vG ?_|refine vE ?_)|refine vR ?_|refine v6 ?_|with_reducible refine vN ?_|(with_reducible first|refine vB (fun h =>?_) (fun h =>?_)|refine vM (fun h =>?_) (fun h =>?_))))
 refine vL (lv:=[0,1,2,3,10,13]) ab (xF A X B Y C N) (fun i=>i≤X.length) (fun i=>X.length - i) (0) ((a7.go [0,1,2,3,10] (by exact vS) rfl)) ?_ ?_
 ·exact Nat.zero_le _
 intro i hi;have hlen:(qi A X B Y C i).length=N:=by simp [qi];omega
 (repeat' (first|(with_reducible first|exact True.intro|refine vD ?_|refine vG ?_|refine vE ?_)|refine vR ?_|refine v6 ?_|with_reducible refine vN ?_|(with_reducible first|refine vB (fun h =>?_) (fun h =>?_)|refine vM (fun h =>?_) (fun h =>?_))))
 ·have hi':i<X.length:=by omega
  obtain ⟨x,hx⟩ : ∃x,X[i]? = some x:=⟨_,List.getElem?_eq_getElem hi'⟩
  obtain ⟨y,hy⟩ : ∃y,Y[i]? = some y:=⟨_,List.getElem?_eq_getElem (by omega)⟩
  refine cj.is (A.length+X.length+B.length+i) y (by omega) (Cp hXY hy) ?_;(repeat' (first|(with_reducible first|exact True.intro|refine vD ?_|refine vG ?_|refine vE ?_)|refine vR ?_|refine v6 ?_|with_reducible refine vN ?_|(with_reducible first|refine vB (fun h =>?_) (fun h =>?_)|refine vM (fun h =>?_) (fun h =>?_))))
  refine cj.is (A.length+i) x (by omega) (Co hXY hx) ?_;(repeat' (first|(with_reducible first|exact True.intro|refine vD ?_|refine vG ?_|refine vE ?_)|refine vR ?_|refine v6 ?_|with_reducible refine vN ?_|(with_reducible first|refine vB (fun h =>?_) (fun h =>?_)|refine vM (fun h =>?_) (fun h =>?_))))
  refine bA.go (i+1) [0,1,2,3,10] (by unfold xF dd;rw [←xE hXY hx hy,List.map_set,List.map_set,show A.length+i=((A.length:Int)+i).toNat by omega,show A.length+X.length+B.length+i=((A.length:Int)+X.length+B.length+i).toNat by omega];exact vS) ?_ ?_
  ·show X.length - (i+1)<X.length - i;omega
  ·show i+1≤X.length;omega
 ·have hi':i=X.length:=by omega
  subst hi';refine ah.now [] (by decide) ?_;(repeat' (first|(with_reducible first|exact True.intro|refine vD ?_|refine vG ?_|refine vE ?_)|refine vR ?_|refine v6 ?_|with_reducible refine vN ?_|(with_reducible first|refine vB (fun h =>?_) (fun h =>?_)|refine vM (fun h =>?_) (fun h =>?_))))
  exact am _
theorem l9 (A X B Y C:List Se) (N:Nat) (l l':List Se) (a b k:Int) (hN:N=A.length+X.length+B.length+Y.length+C.length) (hl:N≤100000) (hXY:X.length=Y.length) (h1:l=A++X++(B++Y++C)) (h2:l'=A++Y++(B++X++C))
 (ha:a=A.length) (hb:b=(A.length+X.length+B.length:Nat)) (hk:k=X.length) :
 aG Tryd.prog G0 93 [.so 0 2 0 N,iv a,iv b,iv k,fi] [(0,dd l)] 1 (.tup []) [(0,dd l')]:=by
 subst h1 h2 ha hb hk;exact zy A X B Y C N hN hl hXY
abbrev Du:=List Se × List Se × List Se × List Se
def Cf (N m:Nat) (x:Du):St:=⟨[(0,.so 0 2 0 N),(2,iv m),(4,fi),(10,iv x.2.1.length),(11,iv x.2.2.1.length)],[(0,dd (x.1++x.2.1++(x.2.2.1++x.2.2.2)))],1⟩
attribute [push_cast] Cf.eq_def
theorem uJ (A X Y C:List Se) (N:Nat) (l l':List Se) (a m b:Int) (hN:N=A.length+X.length+Y.length+C.length) (hl:N≤100000) (hX:0<X.length) (hY:0<Y.length) (h1:l=A++X++(Y++C)) (h2:l'=A++Y++(X++C))
 (ha:a=A.length) (hm:m=(A.length+X.length:Nat)) (hb:b=(A.length+X.length+Y.length:Nat)) :
 aG Tryd.prog G0 90 [.so 0 2 0 N,iv a,iv m,iv b,fi] [(0,dd l)] 1 (.tup []) [(0,dd l')]:=by
 obtain ⟨M,hM⟩ : ∃M,M=A.length+X.length:=⟨_,rfl⟩
 subst ha hb h1;rw [←hM] at hm;subst hm;refine vF ab [0,1,2,3,4,10,11,20,23] Tryd.func90 rfl Tryd.results90 Tryd.ntmps90 ?_;(repeat' (first|(with_reducible first|exact True.intro|refine vD ?_|refine vG ?_|refine vE ?_)|refine vR ?_|refine v6 ?_|with_reducible refine vN ?_|(with_reducible first|refine vB (fun h =>?_) (fun h =>?_)|refine vM (fun h =>?_) (fun h =>?_))))
 refine vL (lv:=[0,1,2,3,4,10,11,20,23]) ab (Cf N M) (fun x=>x.1.length+x.2.1.length=M∧0<x.2.1.length∧0<x.2.2.1.length∧N=x.1.length+x.2.1.length+x.2.2.1.length+x.2.2.2.length∧l'=x.1++x.2.2.1++(x.2.1++x.2.2.2)) (fun x=>x.2.1.length+x.2.2.1.length) ((A,X,Y,C)) ((a7.go [0,2,4,10,11] (by exact vS) rfl)) ?_ ?_
 ·exact ⟨by simp only;omega,hX,hY,hN,h2⟩
 rintro ⟨A,X,Y,C⟩ ⟨p1,p2,p3,p4,p5⟩;simp only at p1 p2 p3 p4 p5;(repeat' (first|(with_reducible first|exact True.intro|refine vD ?_|refine vG ?_|refine vE ?_)|refine vR ?_|refine v6 ?_|with_reducible refine vN ?_|(with_reducible first|refine vB (fun h =>?_) (fun h =>?_)|refine vM (fun h =>?_) (fun h =>?_))))
 ·have q1:(X.take Y.length).length=Y.length:=by rw [List.length_take];omega
  have q2:(X.drop Y.length).length=X.length - Y.length:=by rw [List.length_drop]
  have q3:=List.take_append_drop Y.length X;generalize X.take Y.length=X1 at q1 q3;generalize X.drop Y.length=X2 at q2 q3;subst q3;rw [List.length_append] at *
  refine ap.put 0 (l9 A X1 X2 Y C N _ (A++Y++(X2++X1++C)) _ _ _ (by omega) hl q1 (by first|omega|(simp [List.append_assoc];done)|(simp;omega)) rfl (by first|omega|(simp [List.append_assoc];done)|(simp;omega)) (by first|omega|(simp [List.append_assoc];done)|(simp;omega)) (by first|omega|(simp [List.append_assoc];done)|(simp;omega))) (by kernel_rfl) rfl rfl rfl ?_;(repeat' (first|(with_reducible first|exact True.intro|refine vD ?_|refine vG ?_|refine vE ?_)|refine vR ?_|refine v6 ?_|with_reducible refine vN ?_|(with_reducible first|refine vB (fun h =>?_) (fun h =>?_)|refine vM (fun h =>?_) (fun h =>?_))))
  refine bA.go ((A++Y,X2,X1,C)) [0,2,4,10,11] (by rw [show A++Y++(X2++X1++C)=A++Y++X2++(X1++C) by simp [List.append_assoc]];exact vS) ?_ ?_
  ·simp only [List.length_append];omega
  ·refine ⟨by simp only [List.length_append];omega,by simp only;omega,by simp only;omega,by simp only [List.length_append];omega,?_⟩;rw [p5];simp [List.append_assoc]
 ·have q1:(Y.take (Y.length - X.length)).length=Y.length - X.length:=by rw [List.length_take];omega
  have q2:(Y.drop (Y.length - X.length)).length=X.length:=by rw [List.length_drop];(try simp only [Bool.and_eq_true,Bool.and_eq_false_iff,Bool.or_eq_true,Bool.or_eq_false_iff,Bool.not_eq_true',Bool.not_eq_false',decide_eq_true_eq,decide_eq_false_iff_not,beq_iff_eq,beq_eq_false_iff_ne,bne_iff_ne,bne_eq_false_iff_eq] at *);omega
  have q3:=List.take_append_drop (Y.length - X.length) Y;generalize Y.take (Y.length - X.length)=Y1 at q1 q3;generalize Y.drop (Y.length - X.length)=Y2 at q2 q3;subst q3;rw [List.length_append] at *
  (try simp only [Bool.and_eq_true,Bool.and_eq_false_iff,Bool.or_eq_true,Bool.or_eq_false_iff,Bool.not_eq_true',Bool.not_eq_false',decide_eq_true_eq,decide_eq_false_iff_not,beq_iff_eq,beq_eq_false_iff_ne,bne_iff_ne,bne_eq_false_iff_eq] at *)
  refine ap.put 0 (l9 A X Y1 Y2 C N _ (A++Y2++(Y1++X++C)) _ _ _ (by omega) hl q2.symm (by first|omega|(simp [List.append_assoc];done)|(simp;omega)) rfl (by first|omega|(simp [List.append_assoc];done)|(simp;omega)) (by first|omega|(simp [List.append_assoc];done)|(simp;omega)) (by first|omega|(simp [List.append_assoc];done)|(simp;omega))) (by kernel_rfl) rfl rfl rfl ?_;(repeat' (first|(with_reducible first|exact True.intro|refine vD ?_|refine vG ?_|refine vE ?_)|refine vR ?_|refine v6 ?_|with_reducible refine vN ?_|(with_reducible first|refine vB (fun h =>?_) (fun h =>?_)|refine vM (fun h =>?_) (fun h =>?_))))
  refine bA.go ((A,Y2,Y1,X++C)) [0,2,4,10,11] (by rw [show A++Y2++(Y1++X++C)=A++Y2++(Y1++(X++C)) by simp [List.append_assoc]];exact vS) ?_ ?_
  ·simp only [List.length_append];omega
  ·refine ⟨by simp only;omega,by simp only;omega,by simp only;omega,by simp only [List.length_append];omega,?_⟩;rw [p5];simp [List.append_assoc]
 ·(try simp only [Bool.and_eq_true,Bool.and_eq_false_iff,Bool.or_eq_true,Bool.or_eq_false_iff,Bool.not_eq_true',Bool.not_eq_false',decide_eq_true_eq,decide_eq_false_iff_not,beq_iff_eq,beq_eq_false_iff_ne,bne_iff_ne,bne_eq_false_iff_eq] at *)
  refine ap.put 0 (l9 A X [] Y C N _ (A++Y++([]++X++C)) _ _ _ (by simp only [List.length_nil];omega) hl (by omega) (by first|omega|(simp [List.append_assoc];done)|(simp;omega)) rfl (by first|omega|(simp [List.append_assoc];done)|(simp;omega)) (by simp only [List.length_nil];omega) (by first|omega|(simp [List.append_assoc];done)|(simp;omega))) (by kernel_rfl) rfl rfl rfl ?_;refine (?_:cE _ _);(repeat' (first|(with_reducible first|exact True.intro|refine vD ?_|refine vG ?_|refine vE ?_)|refine vR ?_|refine v6 ?_|with_reducible refine vN ?_|(with_reducible first|refine vB (fun h =>?_) (fun h =>?_)|refine vM (fun h =>?_) (fun h =>?_))))
  refine ah.now [] (by decide) ?_;(repeat' (first|(with_reducible first|exact True.intro|refine vD ?_|refine vG ?_|refine vE ?_)|refine vR ?_|refine v6 ?_|with_reducible refine vN ?_|(with_reducible first|refine vB (fun h =>?_) (fun h =>?_)|refine vM (fun h =>?_) (fun h =>?_))))
  rw [p5];exact am _
def EL (a b:Int) (i:Nat):St:=⟨[(3,iv 0),(6,.so 0 1 0 2),(7,iv 2),(8,iv i)],[(0,.row 1 ([a,b].map fun x=>D.lit (.int .i64 x)))],1⟩
attribute [push_cast] EL.eq_def
theorem BP (a b:Int):aG Tryd.prog G0 41 [.so 0 1 0 2] [(0,.row 1 [.lit (.int .i64 a),.lit (.int .i64 b)])] 1 (iv (if a≠0 then a else b)) [(0,.row 1 [.lit (.int .i64 a),.lit (.int .i64 b)])]:=by
 refine vF ab [0,2,3,5,6,7,8,9,14] Tryd.func41 rfl Tryd.results41 Tryd.ntmps41 ?_;(repeat' (first|(with_reducible first|exact True.intro|refine vD ?_|refine vG ?_|refine vE ?_)|refine vR ?_|refine v6 ?_|with_reducible refine vN ?_|(with_reducible first|refine vB (fun h =>?_) (fun h =>?_)|refine vM (fun h =>?_) (fun h =>?_))))
 refine vL (lv:=[0,2,3,5,6,7,8,9,14]) ab (EL a b) (fun i=>i≤2∧(0<i→a=0)∧(1<i→b=0)) (fun i=>2 - i) (0) ((a7.go [3,6,7,8] (by exact vS) rfl)) ?_ ?_
 ·omega
 rintro i ⟨hi,h0,h1⟩;(repeat' (first|(with_reducible first|exact True.intro|refine vD ?_|refine vG ?_|refine vE ?_)|refine vR ?_|refine v6 ?_|with_reducible refine vN ?_|(with_reducible first|refine vB (fun h =>?_) (fun h =>?_)|refine vM (fun h =>?_) (fun h =>?_))))
 ·have hi':i=0∨i=1:=by omega
  rcases hi' with rfl|rfl;all_goals
   (repeat' (first|(with_reducible first|exact True.intro|refine vD ?_|refine vG ?_|refine vE ?_)|refine vR ?_|refine v6 ?_|with_reducible refine vN ?_|(with_reducible first|refine vB (fun h =>?_) (fun h =>?_)|refine vM (fun h =>?_) (fun h =>?_))))
  ·refine ah.now [] (by decide) ?_;(repeat' (first|(with_reducible first|exact True.intro|refine vD ?_|refine vG ?_|refine vE ?_)|refine vR ?_|refine v6 ?_|with_reducible refine vN ?_|(with_reducible first|refine vB (fun h =>?_) (fun h =>?_)|refine vM (fun h =>?_) (fun h =>?_))))
   (try simp only [Bool.and_eq_true,Bool.and_eq_false_iff,Bool.or_eq_true,Bool.or_eq_false_iff,Bool.not_eq_true',Bool.not_eq_false',decide_eq_true_eq,decide_eq_false_iff_not,beq_iff_eq,beq_eq_false_iff_ne,bne_iff_ne,bne_eq_false_iff_eq] at *)
   exact ⟨by rw [if_pos h],am _⟩
  ·(try simp only [Bool.and_eq_true,Bool.and_eq_false_iff,Bool.or_eq_true,Bool.or_eq_false_iff,Bool.not_eq_true',Bool.not_eq_false',decide_eq_true_eq,decide_eq_false_iff_not,beq_iff_eq,beq_eq_false_iff_ne,bne_iff_ne,bne_eq_false_iff_eq] at *)
   subst h;refine bA.go (1) [3,6,7,8] (by exact vS) ?_ ?_
   ·omega
   ·simp
  ·refine ah.now [] (by decide) ?_;(repeat' (first|(with_reducible first|exact True.intro|refine vD ?_|refine vG ?_|refine vE ?_)|refine vR ?_|refine v6 ?_|with_reducible refine vN ?_|(with_reducible first|refine vB (fun h =>?_) (fun h =>?_)|refine vM (fun h =>?_) (fun h =>?_))))
   exact ⟨by rw [if_neg (by simp [h0])],am _⟩
  ·(try simp only [Bool.and_eq_true,Bool.and_eq_false_iff,Bool.or_eq_true,Bool.or_eq_false_iff,Bool.not_eq_true',Bool.not_eq_false',decide_eq_true_eq,decide_eq_false_iff_not,beq_iff_eq,beq_eq_false_iff_ne,bne_iff_ne,bne_eq_false_iff_eq] at *)
   subst h;refine bA.go (2) [3,6,7,8] (by exact vS) ?_ ?_
   ·omega
   ·simp [h0]
 ·refine ah.now [] (by decide) ?_;(repeat' (first|(with_reducible first|exact True.intro|refine vD ?_|refine vG ?_|refine vE ?_)|refine vR ?_|refine v6 ?_|with_reducible refine vN ?_|(with_reducible first|refine vB (fun h =>?_) (fun h =>?_)|refine vM (fun h =>?_) (fun h =>?_))))
  exact ⟨by rw [if_neg (by simp;omega),h1 (by omega)],am _⟩
theorem nC (x y:Se):aG Tryd.prog G0 40 [.d (lW x),.d (lW y)] [] 0 (iv (yn x y)) []:=by
 refine vF ab [0,1,2,3,4,5,6] Tryd.func40 rfl Tryd.results40 Tryd.ntmps40 ?_;(repeat' (first|(with_reducible first|exact True.intro|refine vD ?_|refine vG ?_|refine vE ?_)|(with_reducible refine aU.d (bw _) (by kernel_rfl) rfl rfl ?_)|(with_reducible refine aU.d (qk _ _) (by kernel_rfl) rfl rfl ?_)|refine vR ?_|refine v6 ?_|with_reducible refine vN ?_|(with_reducible first|refine vB (fun h =>?_) (fun h =>?_)|refine vM (fun h =>?_) (fun h =>?_))))
 refine aU.e (by kernel_rfl) (ap.put 84 (BP _ _) (by kernel_rfl) rfl rfl rfl ?_);refine (?_:cE _ _);(repeat' (first|(with_reducible first|exact True.intro|refine vD ?_|refine vG ?_|refine vE ?_)|refine vR ?_|refine v6 ?_|with_reducible refine vN ?_|(with_reducible first|refine vB (fun h =>?_) (fun h =>?_)|refine vM (fun h =>?_) (fun h =>?_))))
 refine ah.out ?_;(repeat' (first|(with_reducible first|exact True.intro|refine vD ?_|refine vG ?_|refine vE ?_)|refine vR ?_|refine v6 ?_|with_reducible refine vN ?_|(with_reducible first|refine vB (fun h =>?_) (fun h =>?_)|refine vM (fun h =>?_) (fun h =>?_))))
 rfl
def iM (A M R:List Se) (k:Nat):List Se:=A++au (M.take k)++(M.drop k++R)
theorem uP {A M R:List Se} {k:Nat} {x:Se} (hx:M[k]? = some x):iM A M R k=bu A (au (M.take k)) k x (M.drop (k+1)++R):=by
 obtain ⟨hk,rfl⟩:=List.getElem?_eq_some_iff.1 hx;have hl:(au (M.take k)).length=k:=by rw [ax];simp;omega
 have e1:(au (M.take k)).take k=au (M.take k):=List.take_of_length_le (by omega);have e2:(au (M.take k)).drop k=[]:=List.drop_of_length_le (by omega);unfold iM bu;rw [e1,e2,List.drop_eq_getElem_cons hk];simp only [List.append_assoc,List.cons_append,List.nil_append]
theorem mX {A M R:List Se} {k q:Nat} {x:Se} (hx:M[k]? = some x) (h1 : ∀y∈(au (M.take k)).drop q,aB x y=true)
 (h2:q=0 ∨ ∃y,(au (M.take k))[q - 1]? = some y∧aB x y=false):bu A (au (M.take k)) q x (M.drop (k+1)++R)=iM A M R (k+1):=by
 obtain ⟨hk,rfl⟩:=List.getElem?_eq_some_iff.1 hx;unfold bu iM;rw [←yS (cB _) h1 h2,List.take_succ_eq_append_getElem hk,cP]
def sx (A M R:List Se) (N:Nat) (k:Nat):St:=⟨[(0,.so 0 2 0 N),(1,iv A.length),(2,iv (A.length+M.length:Nat)),(3,fi),(8,iv (A.length+k:Nat))],[(0,dd (iM A M R k))],1⟩
def wB (A M R:List Se) (N k:Nat) (x:Se) (q:Nat):St:=⟨[(0,.so 0 2 0 N),(1,iv A.length),(2,iv (A.length+M.length:Nat)),(3,fi),(8,iv (A.length+k:Nat)),(9,iv (A.length+q:Nat))],[(0,dd (bu A (au (M.take k)) q x (M.drop (k+1)++R)))],1⟩
attribute [push_cast] sx.eq_def wB.eq_def
theorem il (A M R:List Se) (N:Nat) (l l':List Se) (a b:Int) (hN:N=A.length+M.length+R.length) (hl:N≤100000) (h1:l=A++M++R) (h2:l'=A++au M++R) (ha:a=A.length) (hb:b=(A.length+M.length:Nat)) :
 aG Tryd.prog G0 77 [.so 0 2 0 N,iv a,iv b,fi] [(0,dd l)] 1 (.tup []) [(0,dd l')]:=by
 subst ha hb h2;have e1:l=iM A M R 1:=by
  rw [h1];unfold iM;rcases M with _|⟨m,M⟩<;>simp [au,bU]
 subst e1;refine vF ab [0,1,2,3,8,9,14,34] Tryd.func77 rfl Tryd.results77 Tryd.ntmps77 ?_;(repeat' (first|(with_reducible first|exact True.intro|refine vD ?_|refine vG ?_|refine vE ?_)|refine vR ?_|refine v6 ?_|with_reducible refine vN ?_|(with_reducible first|refine vB (fun h =>?_) (fun h =>?_)|refine vM (fun h =>?_) (fun h =>?_))))
 refine vL (lv:=[0,1,2,3,8,9,14,34]) ab (sx A M R N) (fun k=>1≤k∧(k≤M.length∨(M=[]∧k=1))) (fun k=>M.length - k) (1) ((a7.go [0,1,2,3,8] (by exact vS) rfl)) ?_ ?_
 ·refine ⟨Nat.le_refl _,?_⟩;rcases M with _|⟨m,M⟩
  ·exact .inr ⟨rfl,rfl⟩
  ·left;simp
 rintro k ⟨hk1,hk2⟩;have hk3:k≤M.length+1:=by rcases hk2 with h|⟨h,h'⟩<;>omega
 (repeat' (first|(with_reducible first|exact True.intro|refine vD ?_|refine vG ?_|refine vE ?_)|refine vR ?_|refine v6 ?_|with_reducible refine vN ?_|(with_reducible first|refine vB (fun h =>?_) (fun h =>?_)|refine vM (fun h =>?_) (fun h =>?_))))
 ·have hkM:k<M.length:=by omega
  obtain ⟨x,hx⟩ : ∃x,M[k]? = some x:=⟨_,List.getElem?_eq_getElem hkM⟩
  have hS:(au (M.take k)).length=k:=by rw [ax];simp;omega
  rw [uP hx];refine vL (lv:=[0,1,2,3,8,9,14,34]) ab (wB A M R N k x) (fun q=>q≤k ∧ ∀y∈(au (M.take k)).drop q,aB x y=true) (fun q=>q) (k) ((a7.go [0,1,2,3,8,9] (by exact vS) rfl)) ?_ ?_
  ·exact ⟨Nat.le_refl _,by rw [List.drop_eq_nil_of_le (by omega)];simp⟩
  rintro q ⟨hq,hqs⟩;have hlen:(bu A (au (M.take k)) q x (M.drop (k+1)++R)).length=N:=by rw [fE _ _ _ _ _ (by omega),hS];simp;omega
  (repeat' (first|(with_reducible first|exact True.intro|refine vD ?_|refine vG ?_|refine vE ?_)|refine vR ?_|refine v6 ?_|with_reducible refine vN ?_|(with_reducible first|refine vB (fun h =>?_) (fun h =>?_)|refine vM (fun h =>?_) (fun h =>?_))))
  ·obtain ⟨y,hy⟩ : ∃y,(au (M.take k))[q - 1]? = some y:=⟨_,List.getElem?_eq_getElem (by omega)⟩
   refine cj.is (A.length+q) x (by omega) (i9 (by omega)) ?_;(repeat' (first|(with_reducible first|exact True.intro|refine vD ?_|refine vG ?_|refine vE ?_)|refine vR ?_|refine v6 ?_|with_reducible refine vN ?_|(with_reducible first|refine vB (fun h =>?_) (fun h =>?_)|refine vM (fun h =>?_) (fun h =>?_))))
   refine cj.is (A.length+q - 1) y (by omega) (by rw [i8 (by omega) (by omega)];exact hy) ?_;(repeat' (first|(with_reducible first|exact True.intro|refine vD ?_|refine vG ?_|refine vE ?_)|(with_reducible refine aU.d (nC _ _) (by kernel_rfl) rfl rfl ?_)|refine vR ?_|refine v6 ?_|with_reducible refine vN ?_|(with_reducible first|refine vB (fun h =>?_) (fun h =>?_)|refine vM (fun h =>?_) (fun h =>?_))))
   ·refine cj.is (A.length+q - 1) y (by omega) (by rw [i8 (by omega) (by omega)];exact hy) ?_;(repeat' (first|(with_reducible first|exact True.intro|refine vD ?_|refine vG ?_|refine vE ?_)|refine vR ?_|refine v6 ?_|with_reducible refine vN ?_|(with_reducible first|refine vB (fun h =>?_) (fun h =>?_)|refine vM (fun h =>?_) (fun h =>?_))))
    refine cj.is (A.length+q) x (by omega) (i9 (by omega)) ?_;(repeat' (first|(with_reducible first|exact True.intro|refine vD ?_|refine vG ?_|refine vE ?_)|refine vR ?_|refine v6 ?_|with_reducible refine vN ?_|(with_reducible first|refine vB (fun h =>?_) (fun h =>?_)|refine vM (fun h =>?_) (fun h =>?_))))
    refine bA.go (q - 1) [0,1,2,3,8,9] (by unfold wB dd;rw [←mY (by omega) hy,List.map_set,List.map_set,show A.length+q=((A.length:Int)+q).toNat by omega,show ((A.length:Int)+q).toNat - 1=((A.length:Int)+q - 1).toNat by omega];exact vS) ?_ ?_
    ·omega
    ·refine ⟨by omega,?_⟩;have hq1:q - 1<(au (M.take k)).length:=by omega
     rw [List.drop_eq_getElem_cons hq1,show q - 1+1=q by omega];intro z hz;rcases List.mem_cons.1 hz with rfl|hz
     ·rw [List.getElem?_eq_getElem hq1] at hy;injection hy with hy;rw [hy];exact fS.1 h
     ·exact hqs z hz
   ·have hle:aB x y=false:=by
     rcases hh:aB x y with _|_
     ·rfl
     ·exact (h (fS.2 hh)).elim
    refine bA.go (k+1) [0,1,2,3,8] (by unfold sx;rw [←mX hx hqs (.inr ⟨y,hy,hle⟩)];exact vS) ?_ ?_
    ·show M.length - (k+1)<M.length - k;omega
    ·exact ⟨by omega,.inl (by omega)⟩
  ·have hq0:q=0:=by omega
   refine bA.go (k+1) [0,1,2,3,8] (by unfold sx;rw [←mX hx hqs (.inl hq0)];exact vS) ?_ ?_
   ·show M.length - (k+1)<M.length - k;omega
   ·exact ⟨by omega,.inl (by omega)⟩
 ·have e2:iM A M R k=A++au M++R:=by
   unfold iM;rw [List.take_of_length_le (by omega),List.drop_eq_nil_of_le (by omega)];rfl
  rw [e2];refine ah.now [] (by decide) ?_;(repeat' (first|(with_reducible first|exact True.intro|refine vD ?_|refine vG ?_|refine vE ?_)|refine vR ?_|refine v6 ?_|with_reducible refine vN ?_|(with_reducible first|refine vB (fun h =>?_) (fun h =>?_)|refine vM (fun h =>?_) (fun h =>?_))))
  exact am _
def EN (A:List Se) (x:Se) (Y C:List Se) (N:Nat) (p:Nat × Nat):St:=⟨[(0,.so 0 2 0 N),(1,iv A.length),(4,fi),(10,iv (A.length+1+p.1:Nat)),(11,iv (A.length+1+p.2:Nat))],[(0,dd (bu A Y 0 x C))],1⟩
def DN (A:List Se) (x:Se) (Y C:List Se) (N s:Nat) (k:Nat):St:=⟨[(0,.so 0 2 0 N),(10,iv (A.length+1+s:Nat)),(13,iv (A.length+k:Nat))],[(0,dd (bu A Y k x C))],1⟩
attribute [push_cast] EN.eq_def DN.eq_def
theorem jb {x y:Se} (h : ¬yn y x<0):aB y x=false:=by
 rcases hh:aB y x with _|_
 ·rfl
 ·exact (h (fS.2 hh)).elim
theorem wQ {A Y C:List Se} {x:Se} {q:Nat} (h:q<Y.length):(bu A Y 0 x C)[A.length+1+q]? = Y[q]? :=by
 unfold bu;rw [List.append_assoc,List.getElem?_append_right (by omega),show A.length+1+q - A.length=q+1 by omega];show ((x::Y.drop 0)++C)[q+1]? = _;rw [List.drop_zero,List.cons_append,List.getElem?_cons_succ,List.getElem?_append_left h]
theorem AY {A Y C:List Se} {x:Se} : (bu A Y 0 x C)[A.length]? = some x:=i9 (k:=0) (Nat.zero_le _)
theorem zz (A:List Se) (x:Se) (Y C:List Se) (N:Nat) (a m b:Int) (hN:N=A.length+1+Y.length+C.length) (hl:N≤100000) (hY:aO Y) (hY0:0<Y.length)
 (ha:a=A.length) (hm:m=(A.length+1:Nat)) (hb:b=(A.length+1+Y.length:Nat)) :
 aG Tryd.prog G0 78 [.so 0 2 0 N,iv a,iv m,iv b,fi] [(0,dd (bu A Y 0 x C))] 1 (.tup []) [(0,dd (A++aE [x] Y++C))]:=by
 subst ha hm hb;refine vF ab [0,1,2,3,4,10,11,12,13,14,15,16,17,18,19,20,21,22,23,24,28,33,50,58,80,85,103,110,140,151,171,185,199,213] Tryd.func78 rfl Tryd.results78 Tryd.ntmps78 ?_;(refine' zg)
 refine vL (lv:=[0,1,2,3,4,10,11,12,13,14,15,16,17,18,19,20,21,22,23,24,28,33,50,58,80,85,103,110,140,151,171,185,199,213]) ab (EN A x Y C N) (fun p=>SL x Y p.1 p.2) (fun p=>p.2 - p.1) ((0,Y.length)) ((a7.go [0,1,4,10,11] (by exact vS) rfl)) ?_ ?_
 ·exact SL.start x Y
 rintro ⟨s,t⟩ hp;have p1:=hp.st;have p2:=hp.tl;simp only at p1 p2;have hlen:(bu A Y 0 x C).length=N:=by rw [fE _ _ _ _ _ (by omega)];omega
 (refine' zg)
 ·have hq:((A.length:Int)+1+s+(A.length+1+t)) / 2=(A.length+1+(s+t) / 2:Nat):=by omega
  obtain ⟨q,rfl⟩ : ∃q,q=(s+t) / 2:=⟨_,rfl⟩
  simp only [hq];obtain ⟨y,hy⟩ : ∃y,Y[(s+t) / 2]? = some y:=⟨_,List.getElem?_eq_getElem (by omega)⟩
  refine cj.is (A.length+1+(s+t) / 2) y (by omega) (by rw [wQ (by omega)];exact hy) ?_;(refine' zg)
  refine cj.is A.length x (by omega) AY ?_;(repeat' (first|(with_reducible first|exact True.intro|refine vD ?_|refine vG ?_|refine vE ?_)|(with_reducible refine aU.d (nC _ _) (by kernel_rfl) rfl rfl ?_)|refine vR ?_|refine v6 ?_|with_reducible refine vN ?_|((with_reducible first|refine vB (fun h =>?_) (fun h =>?_)|refine vM (fun h =>?_) (fun h =>?_))<;>(first|(exfalso;omega)|skip))))
  ·refine bA.go (((s+t) / 2+1,t)) [0,1,4,10,11] (by exact vS) ?_ ?_
   ·show t - ((s+t) / 2+1)<t - s;omega
   ·exact hp.up hY (by simp only;omega) hy (fS.1 h)
  ·have hle:aB y x=false:=jb h;refine bA.go ((s,(s+t) / 2)) [0,1,4,10,11] (by exact vS) ?_ ?_
   ·show (s+t) / 2 - s<t - s;omega
   ·exact hp.down (by simp only;omega) (by simp only;omega) hy hle
 ·obtain rfl:s=t:=by omega
  refine vL (lv:=[0,1,2,3,4,10,11,12,13,14,15,16,17,18,19,20,21,22,23,24,28,33,50,58,80,85,103,110,140,151,171,185,199,213]) ab (DN A x Y C N s) (fun k=>k≤s) (fun k=>s - k) (0) ((a7.go [0,10,13] (by exact vS) rfl)) ?_ ?_
  ·exact Nat.zero_le _
  intro k hk;have hlen:(bu A Y k x C).length=N:=by rw [fE _ _ _ _ _ (by omega)];omega
  (refine' zg)
  ·obtain ⟨y,hy⟩ : ∃y,Y[k]? = some y:=⟨_,List.getElem?_eq_getElem (by omega)⟩
   refine cj.is (A.length+k+1) y (by omega) (by rw [uo (by omega)];exact hy) ?_;(refine' zg)
   refine cj.is (A.length+k) x (by omega) (i9 (by omega)) ?_;(refine' zg)
   refine bA.go (k+1) [0,10,13] (by unfold DN dd;rw [←nU hy,List.map_set,List.map_set,show A.length+k=((A.length:Int)+k).toNat by omega,show ((A.length:Int)+k).toNat+1=((A.length:Int)+k+1).toNat by omega];exact vS) ?_ ?_
   ·show s - (k+1)<s - k;omega
   ·show k+1≤s;omega
  ·obtain rfl:k=s:=by omega
   rw [show bu A Y k x C=A++aE [x] Y++C by rw [hp.fin];rfl];refine ah.now [] (by decide) ?_;(refine' zg)
   exact am _
def EQ (A X:List Se) (y:Se) (C:List Se) (N:Nat) (p:Nat × Nat):St:=⟨[(0,.so 0 2 0 N),(2,iv (A.length+X.length:Nat)),(4,fi),(14,iv (A.length+p.1:Nat)),(15,iv (A.length+p.2:Nat))],[(0,dd (bu A X X.length y C))],1⟩
def DP (A X:List Se) (y:Se) (C:List Se) (N s:Nat) (k:Nat):St:=⟨[(0,.so 0 2 0 N),(14,iv (A.length+s:Nat)),(17,iv (A.length+k:Nat))],[(0,dd (bu A X k y C))],1⟩
attribute [push_cast] EQ.eq_def DP.eq_def
theorem wR {A X C:List Se} {y:Se} {q k:Nat} (h:q<k) (hk:k≤X.length):(bu A X k y C)[A.length+q]? = X[q]? :=by
 unfold bu;rw [List.append_assoc,List.getElem?_append_right (by omega),List.append_assoc,show A.length+q - A.length=q by omega,List.getElem?_append_left (by simp;omega),List.getElem?_take,if_pos h]
theorem zA (A X:List Se) (y:Se) (C:List Se) (N:Nat) (a m b:Int) (hN:N=A.length+1+X.length+C.length) (hl:N≤100000) (hX:aO X) (hX0:1<X.length)
 (ha:a=A.length) (hm:m=(A.length+X.length:Nat)) (hb:b=(A.length+X.length+1:Nat)) :
 aG Tryd.prog G0 78 [.so 0 2 0 N,iv a,iv m,iv b,fi] [(0,dd (bu A X X.length y C))] 1 (.tup []) [(0,dd (A++aE X [y]++C))]:=by
 subst ha hm hb;refine vF ab [0,1,2,3,4,10,11,12,13,14,15,16,17,18,19,20,21,22,23,24,28,33,50,58,80,85,103,110,140,151,171,185,199,213] Tryd.func78 rfl Tryd.results78 Tryd.ntmps78 ?_;(refine' zg)
 refine vL (lv:=[0,1,2,3,4,10,11,12,13,14,15,16,17,18,19,20,21,22,23,24,28,33,50,58,80,85,103,110,140,151,171,185,199,213]) ab (EQ A X y C N) (fun p=>SR y X p.1 p.2) (fun p=>p.2 - p.1) ((0,X.length)) ((a7.go [0,2,4,14,15] (by exact vS) rfl)) ?_ ?_
 ·exact SR.start y X
 rintro ⟨s,t⟩ hp;have p1:=hp.st;have p2:=hp.tl;simp only at p1 p2;have hlen:(bu A X X.length y C).length=N:=by rw [fE _ _ _ _ _ (by omega)];omega
 (refine' zg)
 ·have hq:((A.length:Int)+s+(A.length+t)) / 2=(A.length+(s+t) / 2:Nat):=by omega
  simp only [hq];obtain ⟨x,hx⟩ : ∃x,X[(s+t) / 2]? = some x:=⟨_,List.getElem?_eq_getElem (by omega)⟩
  refine cj.is (A.length+X.length) y (by omega) (i9 (Nat.le_refl _)) ?_;(refine' zg)
  refine cj.is (A.length+(s+t) / 2) x (by omega) (by rw [wR (by omega) (Nat.le_refl _)];exact hx) ?_;(repeat' (first|(with_reducible first|exact True.intro|refine vD ?_|refine vG ?_|refine vE ?_)|(with_reducible refine aU.d (nC _ _) (by kernel_rfl) rfl rfl ?_)|refine vR ?_|refine v6 ?_|with_reducible refine vN ?_|((with_reducible first|refine vB (fun h =>?_) (fun h =>?_)|refine vM (fun h =>?_) (fun h =>?_))<;>(first|(exfalso;omega)|skip))))
  ·have hle:aB y x=false:=jb h;refine bA.go (((s+t) / 2+1,t)) [0,2,4,14,15] (by exact vS) ?_ ?_
   ·show t - ((s+t) / 2+1)<t - s;omega
   ·exact hp.up hX (by simp only;omega) hx hle
  ·refine bA.go ((s,(s+t) / 2)) [0,2,4,14,15] (by exact vS) ?_ ?_
   ·show (s+t) / 2 - s<t - s;omega
   ·exact hp.down (by simp only;omega) (by simp only;omega) hx (fS.1 h)
 ·obtain rfl:s=t:=by omega
  refine vL (lv:=[0,1,2,3,4,10,11,12,13,14,15,16,17,18,19,20,21,22,23,24,28,33,50,58,80,85,103,110,140,151,171,185,199,213]) ab (DP A X y C N s) (fun k=>s≤k∧k≤X.length) (fun k=>k) (X.length) ((a7.go [0,14,17] (by exact vS) rfl)) ?_ ?_
  ·exact ⟨p2,Nat.le_refl _⟩
  rintro k ⟨hk,hk2⟩;have hlen:(bu A X k y C).length=N:=by rw [fE _ _ _ _ _ (by omega)];omega
  (refine' zg)
  ·obtain ⟨x,hx⟩ : ∃x,X[k - 1]? = some x:=⟨_,List.getElem?_eq_getElem (by omega)⟩
   refine cj.is (A.length+k - 1) x (by omega) (by rw [i8 (by omega) (by omega)];exact hx) ?_;(refine' zg)
   refine cj.is (A.length+k) y (by omega) (i9 (by omega)) ?_;(refine' zg)
   refine bA.go (k - 1) [0,14,17] (by unfold DP dd;rw [←mY (by omega) hx,List.map_set,List.map_set,show A.length+k=((A.length:Int)+k).toNat by omega,show ((A.length:Int)+k).toNat - 1=((A.length:Int)+k - 1).toNat by omega];exact vS) ?_ ?_
   ·show k - 1<k;omega
   ·exact ⟨by omega,by omega⟩
  ·obtain rfl:k=s:=by omega
   rw [show bu A X k y C=A++aE X [y]++C by rw [hp.fin];rfl];refine ah.now [] (by decide) ?_;(refine' zg)
   exact am _
theorem GI.start {X Y:List Se} {M:Nat} (hM:M=(X.length+Y.length) / 2) : ∃s t,GI X Y M s t∧((M<X.length∧s+Y.length=M∧t=M)∨(X.length≤M∧s=0∧t=X.length)):=by
 by_cases h:M<X.length
 ·exact ⟨M - Y.length,M,⟨by omega,by omega,by omega,by omega,.inr (.inl (by omega)),.inl (by omega)⟩,.inl ⟨h,by omega,rfl⟩⟩
 ·exact ⟨0,X.length,⟨by omega,by omega,by omega,by omega,.inl rfl,.inr (.inl rfl)⟩,.inr ⟨by omega,rfl,rfl⟩⟩
theorem B5 {A X Y C:List Se} {j:Nat} (h:j<X.length):(A++X++(Y++C))[A.length+j]? = X[j]? :=by
 rw [List.append_assoc,List.getElem?_append_right (by omega),show A.length+j - A.length=j by omega,List.getElem?_append_left h]
theorem B6 {A X Y C:List Se} {j:Nat} (h:j<Y.length):(A++X++(Y++C))[A.length+X.length+j]? = Y[j]? :=by
 rw [List.getElem?_append_right (by rw [List.length_append];omega),show A.length+X.length+j - (A++X).length=j by rw [List.length_append];omega,List.getElem?_append_left h]
theorem aq {X Y:List Se} (h : ¬(0<X.length∧0<Y.length)):aE X Y=X++Y:=by
 rcases X with _|⟨x,X⟩
 ·rw [aW];rfl
 rcases Y with _|⟨y,Y⟩
 ·rw [aL,List.append_nil]
 simp at h
theorem be {A X1 X2 Y1 Y2 C:List Se} (h : ¬(0<X2.length∧0<Y1.length)):A++(X1++X2)++(Y1++Y2++C)=A++(X1++Y1)++(X2++(Y2++C)):=by
 rcases X2 with _|⟨x,X⟩
 ·simp
 rcases Y1 with _|⟨y,Y⟩
 ·simp
 simp at h
def EO (A X Y C:List Se) (N M:Nat) (p:Nat × Nat):St:=⟨[(0,.so 0 2 0 N),(1,iv A.length),(2,iv (A.length+X.length:Nat)),(3,iv (A.length+X.length+Y.length:Nat)),(4,fi),(18,iv (A.length+M:Nat)),(19,iv (A.length+M+(A.length+X.length):Nat)),(20,iv (A.length+p.1:Nat)),(21,iv (A.length+p.2:Nat)),(22,iv (A.length+M+(A.length+X.length) - 1:Int))],[(0,dd (A++X++(Y++C)))],1⟩
attribute [push_cast] EO.eq_def
set_option maxHeartbeats 4000000 in
theorem xG (n:Nat) : ∀(A X Y C:List Se) (N:Nat) (l l':List Se) (a m b:Int) (hn:X.length+Y.length≤n) (hN:N=A.length+X.length+Y.length+C.length) (hl:N≤100000) (hX:aO X) (hY:aO Y) (hX0:0<X.length) (hY0:0<Y.length)
 (h1:l=A++X++(Y++C)) (h2:l'=A++aE X Y++C) (ha:a=A.length) (hm:m=(A.length+X.length:Nat)) (hb:b=(A.length+X.length+Y.length:Nat)),
 aG Tryd.prog G0 78 [.so 0 2 0 N,iv a,iv m,iv b,fi] [(0,dd l)] 1 (.tup []) [(0,dd l')]:=by
 induction n with
 | zero=>intros;omega
 | succ n ih=>
 intro A X Y C N l l' a m b hn hN hl hX hY hX0 hY0 h1 h2 ha hm hb;subst h1 h2;by_cases hX1:X.length=1
 ·obtain ⟨x,rfl⟩:=List.length_eq_one_iff.1 hX1;have:=zz A x Y C N a m b (by simp at hN;omega) hl hY hY0 ha (by simpa using hm) (by simpa using hb);simpa [bu] using this
 by_cases hY1:Y.length=1
 ·obtain ⟨y,rfl⟩:=List.length_eq_one_iff.1 hY1;have:=zA A X y C N a m b (by simp at hN;omega) hl hX (by omega) ha (by simpa using hm) (by simpa using hb);simpa [bu] using this
 subst ha hm hb;obtain ⟨M,hM⟩ : ∃M,M=(X.length+Y.length) / 2:=⟨_,rfl⟩
 obtain ⟨s0,t0,hs,hst⟩:=GI.start hM;have hlen:(A++X++(Y++C)).length=N:=by simp;omega
 refine vF ab [0,1,2,3,4,10,11,12,13,14,15,16,17,18,19,20,21,22,23,24,28,33,50,58,80,85,103,110,140,151,171,185,199,213] Tryd.func78 rfl Tryd.results78 Tryd.ntmps78 ?_;(refine' zg)
 all_goals
  refine vL (lv:=[0,1,2,3,4,10,11,12,13,14,15,16,17,18,19,20,21,22,23,24,28,33,50,58,80,85,103,110,140,151,171,185,199,213]) ab (EO A X Y C N M) (fun p=>GI X Y M p.1 p.2) (fun p=>p.2 - p.1) ((s0,t0)) ((a7.go [0,1,2,3,4,18,19,20,21,22] (by exact vS) rfl)) ?_ ?_
  ·exact hs
  clear hs hst s0 t0;rintro ⟨s,t⟩ hp;have p1:=hp.st;have p2:=hp.tX;have p3:=hp.tK;have p4:=hp.sY;simp only at p1 p2 p3 p4;by_cases hlt:s<t
  ·skip;(refine' zg)
   have hq:((A.length:Int)+s+(A.length+t)) / 2=(A.length+(s+t) / 2:Nat):=by omega
   simp only [hq];obtain ⟨q,hqd⟩ : ∃q,q=(s+t) / 2:=⟨_,rfl⟩
   obtain ⟨x,hx⟩ : ∃x,X[(s+t) / 2]? = some x:=⟨_,List.getElem?_eq_getElem (by omega)⟩
   obtain ⟨y,hy⟩ : ∃y,Y[M - (s+t) / 2 - 1]? = some y:=⟨_,List.getElem?_eq_getElem (by omega)⟩
   refine cj.is (A.length+X.length+(M - (s+t) / 2 - 1)) y (by omega) (by rw [B6 (by omega)];exact hy) ?_;(refine' zg)
   refine cj.is (A.length+(s+t) / 2) x (by omega) (by rw [B5 (by omega)];exact hx) ?_;(repeat' (first|(with_reducible first|exact True.intro|refine vD ?_|refine vG ?_|refine vE ?_)|(with_reducible refine aU.d (nC _ _) (by kernel_rfl) rfl rfl ?_)|refine vR ?_|refine v6 ?_|with_reducible refine vN ?_|((with_reducible first|refine vB (fun h =>?_) (fun h =>?_)|refine vM (fun h =>?_) (fun h =>?_))<;>(first|(exfalso;omega)|skip))))
   ·have hle:aB y x=false:=jb h;refine bA.go (((s+t) / 2+1,t)) [0,1,2,3,4,18,19,20,21,22] (by exact vS) ?_ ?_
    ·show t - ((s+t) / 2+1)<t - s;omega
    ·exact hp.up (by simp only;omega) (by simp only;omega) hx hy hle
   ·refine bA.go ((s,(s+t) / 2)) [0,1,2,3,4,18,19,20,21,22] (by exact vS) ?_ ?_
    ·show (s+t) / 2 - s<t - s;omega
    ·exact hp.down (by simp only;omega) (by simp only;omega) hx hy (fS.1 h)
  ·obtain rfl:s=t:=by omega
   obtain ⟨e,he⟩ : ∃e,e=M - s:=⟨_,rfl⟩
   have em:=hp.fin hX hY;simp only at em;rw [←he] at em;obtain ⟨X1,hX1'⟩ : ∃Z,Z=X.take s:=⟨_,rfl⟩
   obtain ⟨X2,hX2'⟩ : ∃Z,Z=X.drop s:=⟨_,rfl⟩
   obtain ⟨Y1,hY1'⟩ : ∃Z,Z=Y.take e:=⟨_,rfl⟩
   obtain ⟨Y2,hY2'⟩ : ∃Z,Z=Y.drop e:=⟨_,rfl⟩
   have eX:X=X1++X2:=by rw [hX1',hX2',List.take_append_drop]
   have eY:Y=Y1++Y2:=by rw [hY1',hY2',List.take_append_drop]
   have oX1:aO X1:=by rw [hX1'];exact lK hX _
   have oX2:aO X2:=by rw [hX2'];exact lJ hX _
   have oY1:aO Y1:=by rw [hY1'];exact lK hY _
   have oY2:aO Y2:=by rw [hY2'];exact lJ hY _
   have lX1:X1.length=s:=by rw [hX1',List.length_take];omega
   have lX2:X2.length=X.length - s:=by rw [hX2',List.length_drop]
   have lY1:Y1.length=e:=by rw [hY1',List.length_take];omega
   have lY2:Y2.length=Y.length - e:=by rw [hY2',List.length_drop]
   have lm:=re X1 Y1;rw [←hX1',←hX2',←hY1',←hY2'] at em;clear hX1' hX2' hY1' hY2';(refine' zg)
   ·refine ap.put 0 (uJ (A++X1) X2 Y1 (Y2++C) N _ (A++(X1++Y1)++(X2++(Y2++C))) _ _ _ (by simp only [List.length_append];omega) hl (by omega) (by omega) (by rw [eX,eY];simp only [List.append_assoc]) (by simp only [List.append_assoc]) (by simp only [List.length_append];omega) (by simp only [List.length_append];omega) (by simp only [List.length_append];omega)) (by kernel_rfl) rfl rfl rfl ?_;(refine' zg)
    all_goals first|(refine ap.put 0 (ih A X1 Y1 (X2++(Y2++C)) N _ (A++aE X1 Y1++(X2++(Y2++C))) _ _ _ (by omega) (by simp only [List.length_append];omega) hl oX1 oY1 (by omega) (by omega) (by first|(simp only [List.append_assoc];done)|(rw [eX,eY,be (by omega)];simp only [List.append_assoc];done)) rfl (by omega) (by omega) (by omega)) (by kernel_rfl) rfl rfl rfl ?_;(refine' zg);all_goals first|(refine ap.put 0 (ih (A++aE X1 Y1) X2 Y2 C N _ (A++aE X Y++C) _ _ _ (by omega) (by simp only [List.length_append,lm];omega) hl oX2 oY2 (by omega) (by omega) (by first|(simp only [List.append_assoc];done)|(rw [aq (X:=X1) (by omega)];simp only [List.append_assoc];done)|(rw [eX,eY,aq (X:=X1) (by omega),be (by omega)];simp only [List.append_assoc];done)) (by rw [em];simp only [List.append_assoc]) (by simp only [List.length_append,lm];omega) (by simp only [List.length_append,lm];omega) (by simp only [List.length_append,lm];omega)) (by kernel_rfl) rfl rfl rfl ?_;(refine' zg);(refine ah.now [] (by decide) ?_;refine vR ?_;first|(exact am _)|(rw [em,aq (X:=X2) (by omega)];first|(simp only [List.append_assoc];exact am _)|(rw [aq (X:=X1) (by omega)];simp only [List.append_assoc];exact am _)|(rw [eX,eY,aq (X:=X1) (by omega),be (by omega)];simp only [List.append_assoc];exact am _))))|(refine ah.now [] (by decide) ?_;refine vR ?_;first|(exact am _)|(rw [em,aq (X:=X2) (by omega)];first|(simp only [List.append_assoc];exact am _)|(rw [aq (X:=X1) (by omega)];simp only [List.append_assoc];exact am _)|(rw [eX,eY,aq (X:=X1) (by omega),be (by omega)];simp only [List.append_assoc];exact am _))))|(refine ap.put 0 (ih (A++aE X1 Y1) X2 Y2 C N _ (A++aE X Y++C) _ _ _ (by omega) (by simp only [List.length_append,lm];omega) hl oX2 oY2 (by omega) (by omega) (by first|(simp only [List.append_assoc];done)|(rw [aq (X:=X1) (by omega)];simp only [List.append_assoc];done)|(rw [eX,eY,aq (X:=X1) (by omega),be (by omega)];simp only [List.append_assoc];done)) (by rw [em];simp only [List.append_assoc]) (by simp only [List.length_append,lm];omega) (by simp only [List.length_append,lm];omega) (by simp only [List.length_append,lm];omega)) (by kernel_rfl) rfl rfl rfl ?_;(refine' zg);(refine ah.now [] (by decide) ?_;refine vR ?_;first|(exact am _)|(rw [em,aq (X:=X2) (by omega)];first|(simp only [List.append_assoc];exact am _)|(rw [aq (X:=X1) (by omega)];simp only [List.append_assoc];exact am _)|(rw [eX,eY,aq (X:=X1) (by omega),be (by omega)];simp only [List.append_assoc];exact am _))))|(refine ah.now [] (by decide) ?_;refine vR ?_;first|(exact am _)|(rw [em,aq (X:=X2) (by omega)];first|(simp only [List.append_assoc];exact am _)|(rw [aq (X:=X1) (by omega)];simp only [List.append_assoc];exact am _)|(rw [eX,eY,aq (X:=X1) (by omega),be (by omega)];simp only [List.append_assoc];exact am _)))
   all_goals first|(refine ap.put 0 (ih A X1 Y1 (X2++(Y2++C)) N _ (A++aE X1 Y1++(X2++(Y2++C))) _ _ _ (by omega) (by simp only [List.length_append];omega) hl oX1 oY1 (by omega) (by omega) (by first|(simp only [List.append_assoc];done)|(rw [eX,eY,be (by omega)];simp only [List.append_assoc];done)) rfl (by omega) (by omega) (by omega)) (by kernel_rfl) rfl rfl rfl ?_;(refine' zg);all_goals first|(refine ap.put 0 (ih (A++aE X1 Y1) X2 Y2 C N _ (A++aE X Y++C) _ _ _ (by omega) (by simp only [List.length_append,lm];omega) hl oX2 oY2 (by omega) (by omega) (by first|(simp only [List.append_assoc];done)|(rw [aq (X:=X1) (by omega)];simp only [List.append_assoc];done)|(rw [eX,eY,aq (X:=X1) (by omega),be (by omega)];simp only [List.append_assoc];done)) (by rw [em];simp only [List.append_assoc]) (by simp only [List.length_append,lm];omega) (by simp only [List.length_append,lm];omega) (by simp only [List.length_append,lm];omega)) (by kernel_rfl) rfl rfl rfl ?_;(refine' zg);(refine ah.now [] (by decide) ?_;refine vR ?_;first|(exact am _)|(rw [em,aq (X:=X2) (by omega)];first|(simp only [List.append_assoc];exact am _)|(rw [aq (X:=X1) (by omega)];simp only [List.append_assoc];exact am _)|(rw [eX,eY,aq (X:=X1) (by omega),be (by omega)];simp only [List.append_assoc];exact am _))))|(refine ah.now [] (by decide) ?_;refine vR ?_;first|(exact am _)|(rw [em,aq (X:=X2) (by omega)];first|(simp only [List.append_assoc];exact am _)|(rw [aq (X:=X1) (by omega)];simp only [List.append_assoc];exact am _)|(rw [eX,eY,aq (X:=X1) (by omega),be (by omega)];simp only [List.append_assoc];exact am _))))|(refine ap.put 0 (ih (A++aE X1 Y1) X2 Y2 C N _ (A++aE X Y++C) _ _ _ (by omega) (by simp only [List.length_append,lm];omega) hl oX2 oY2 (by omega) (by omega) (by first|(simp only [List.append_assoc];done)|(rw [aq (X:=X1) (by omega)];simp only [List.append_assoc];done)|(rw [eX,eY,aq (X:=X1) (by omega),be (by omega)];simp only [List.append_assoc];done)) (by rw [em];simp only [List.append_assoc]) (by simp only [List.length_append,lm];omega) (by simp only [List.length_append,lm];omega) (by simp only [List.length_append,lm];omega)) (by kernel_rfl) rfl rfl rfl ?_;(refine' zg);(refine ah.now [] (by decide) ?_;refine vR ?_;first|(exact am _)|(rw [em,aq (X:=X2) (by omega)];first|(simp only [List.append_assoc];exact am _)|(rw [aq (X:=X1) (by omega)];simp only [List.append_assoc];exact am _)|(rw [eX,eY,aq (X:=X1) (by omega),be (by omega)];simp only [List.append_assoc];exact am _))))|(refine ah.now [] (by decide) ?_;refine vR ?_;first|(exact am _)|(rw [em,aq (X:=X2) (by omega)];first|(simp only [List.append_assoc];exact am _)|(rw [aq (X:=X1) (by omega)];simp only [List.append_assoc];exact am _)|(rw [eX,eY,aq (X:=X1) (by omega),be (by omega)];simp only [List.append_assoc];exact am _)))
def ma (w:Nat) (l:List Se):List Se:=if h:0<w∧w≤l.length then au (l.take w)++ma w (l.drop w) else au l
termination_by l.length
decreasing_by simp;omega
theorem eD {w:Nat} {l:List Se} (h0:0<w) (h:w≤l.length):ma w l=au (l.take w)++ma w (l.drop w):=by rw [ma,dif_pos ⟨h0,h⟩]
theorem cy {w:Nat} {l:List Se} (h:l.length<w):ma w l=au l:=by rw [ma,dif_neg (by omega)]
theorem rZ {w:Nat} {l:List Se} (h0:0<w) (h:l.length≤w):ma w l=au l:=by
 rcases Nat.lt_or_ge l.length w with h1|h1
 ·exact cy h1
 ·rw [eD h0 h1,List.take_of_length_le h,List.drop_of_length_le h,cy (by simp;omega)];simp [au]
theorem yh {w:Nat} (h0:0<w) (n:Nat) : ∀l:List Se,l.length≤n→(ma w l).length=l.length:=by
 induction n with
 | zero=>intro l h;rw [cy (by omega),ax]
 | succ n ih=>
  intro l h;rcases Nat.lt_or_ge l.length w with h1|h1
  ·rw [cy h1,ax]
  ·rw [eD h0 h1,List.length_append,ax,ih _ (by simp;omega)];simp;omega
theorem yi {w:Nat} {l:List Se} (h0:0<w) (h:w+w≤l.length):ma w l=au (l.take w)++au ((l.drop w).take w)++ma w (l.drop (w+w)):=by
 rw [eD h0 (by omega),eD h0 (by simp;omega),List.drop_drop,List.append_assoc]
theorem nj (w v:Nat) (l:List Se):aE (au (l.take w)) (au ((l.drop w).take v))=au (l.take (w+v)):=by
 rw [rf,List.take_add]
def xC (N:Nat) (x:List Se × List Se):St:=⟨[(0,.so 0 2 0 N),(1,iv N),(2,fi),(6,iv 20),(7,iv x.1.length),(8,iv ((x.1.length:Int)+20))],[(0,dd (x.1++x.2))],1⟩
def xY (l:List Se) (N:Nat) (w:Nat):St:=⟨[(0,.so 0 2 0 N),(1,iv N),(2,fi),(6,iv w)],[(0,dd (ma w l))],1⟩
def C5 (N w:Nat) (x:List Se × List Se):St:=⟨[(0,.so 0 2 0 N),(1,iv N),(2,fi),(6,iv w),(7,iv x.1.length),(8,iv ((x.1.length:Int)+2*w))],[(0,dd (x.1++ma w x.2))],1⟩
attribute [push_cast] xC.eq_def xY.eq_def C5.eq_def
set_option maxHeartbeats 4000000 in
theorem uO (l l':List Se) (N:Nat) (n:Int) (hN:N=l.length) (hn:n=N) (hl:N≤100000) (h':l'=au l) :
 aG Tryd.prog G0 62 [.so 0 2 0 N,iv n,fi] [(0,dd l)] 1 (.tup []) [(0,dd l')]:=by
 subst h' hn;refine vF ab [0,1,2,6,7,8,9,13,30,35,54] Tryd.func62 rfl Tryd.results62 Tryd.ntmps62 ?_;(refine' zg)
 refine vL (lv:=[0,1,2,6,7,8,9,13,30,35,54]) ab (xC N) (fun x=>x.1++ma 20 x.2=ma 20 l∧N=x.1.length+x.2.length) (fun x=>x.2.length) (([],l)) ((a7.go [0,1,2,6,7,8] (by exact vS) rfl)) ?_ ?_
 ·exact ⟨by simp,by simpa using hN⟩
 rintro ⟨A,R⟩ ⟨p1,p2⟩;simp only at p1 p2;(refine' zg)
 ·have hR:20≤R.length:=by omega
  refine ap.put 0 (il A (R.take 20) (R.drop 20) N _ (A++au (R.take 20)++R.drop 20) _ _ (by simp;omega) hl (by simp) rfl (by omega) (by simp;omega)) (by kernel_rfl) rfl rfl rfl ?_;(refine' zg)
  have hlen:(A++au (R.take 20)).length=A.length+20:=by simp [ax];omega
  refine bA.go ((A++au (R.take 20),R.drop 20)) [0,1,2,6,7,8] (by unfold xC;simp only [hlen];exact vS) ?_ ?_
  ·simp;omega
  ·refine ⟨?_,by simp [ax];omega⟩;rw [←p1,eD (l:=R) (by omega) hR,List.append_assoc]
 ·refine ap.put 0 (il A R [] N _ (ma 20 l) _ _ (by simp;omega) hl (by simp) (by rw [←p1,cy (by omega)];simp) (by omega) (by omega)) (by kernel_rfl) rfl rfl rfl ?_;(refine' zg)
  refine vL (lv:=[0,1,2,6,7,8,9,13,30,35,54]) ab (xY l N) (fun w=>0<w∧w≤N+N+20) (fun w=>N - w) (20) ((a7.go [0,1,2,6] (by exact vS) rfl)) ?_ ?_
  ·exact ⟨by omega,by omega⟩
  rintro w ⟨hw,hw2⟩;(refine' zg)
  ·refine vL (lv:=[0,1,2,6,7,8,9,13,30,35,54]) ab (C5 N w) (fun x=>x.1++ma (w+w) x.2=ma (w+w) l∧N=x.1.length+x.2.length) (fun x=>x.2.length) (([],l)) ((a7.go [0,1,2,6,7,8] (by exact vS) rfl)) ?_ ?_
   ·exact ⟨by simp,by simpa using hN⟩
   rename_i hAN;clear p1 p2 hAN A R;rintro ⟨A,R⟩ ⟨p1,p2⟩;simp only at p1 p2;(refine' zg)
   ·have hR:w+w≤R.length:=by omega
    refine ap.put 0 (xG (w+w) A (au (R.take w)) (au ((R.drop w).take w)) (ma w (R.drop (w+w))) N _ (A++au (R.take (w+w))++ma w (R.drop (w+w))) _ _ _ (by simp [ax];omega) (by simp [ax,yh hw _ _ (Nat.le_refl _)];omega) hl (cB _) (cB _) (by simp [ax];omega) (by simp [ax];omega) (by rw [yi hw hR];simp only [List.append_assoc]) (by rw [nj]) rfl (by simp [ax];omega) (by simp [ax];omega)) (by kernel_rfl) rfl rfl rfl ?_;(refine' zg)
    have hlen:(A++au (R.take (w+w))).length=A.length+(w+w):=by simp [ax];omega
    refine bA.go ((A++au (R.take (w+w)),R.drop (w+w))) [0,1,2,6,7,8] (by unfold C5;simp only [hlen];exact vS) ?_ ?_
    ·simp;omega
    ·refine ⟨?_,by simp [ax];omega⟩;rw [←p1,eD (l:=R) (by omega) hR,List.append_assoc]
   ·have hR:(R.drop w).length<w:=by simp;omega
    have e:A++au R=ma (w+w) l:=by rw [←p1,cy (by omega)]
    refine ap.put 0 (xG (w+w) A (au (R.take w)) (au ((R.drop w).take w)) [] N _ (A++au R) _ _ _ (by simp [ax];omega) (by simp [ax];omega) hl (cB _) (cB _) (by simp [ax];omega) (by simp [ax];omega) (by rw [eD hw (by omega),cy hR,List.take_of_length_le (by omega:(R.drop w).length≤w)];simp) (by rw [nj,List.take_of_length_le (by omega)];simp) rfl (by simp [ax];omega) (by simp [ax];omega)) (by kernel_rfl) rfl rfl rfl ?_;(refine' zg)
    rw [e];refine bA.go (w+w) [0,1,2,6] (by exact vS) ?_ ?_
    ·show N - (w+w)<N - w;omega
    ·exact ⟨by omega,by omega⟩
   ·have e:A++ma w R=ma (w+w) l:=by rw [←p1,rZ hw (by omega),cy (by omega)]
    rw [e];refine bA.go (w+w) [0,1,2,6] (by exact vS) ?_ ?_
    ·show N - (w+w)<N - w;omega
    ·exact ⟨by omega,by omega⟩
  ·rw [rZ hw (by omega)];refine ah.now [] (by decide) ?_;(refine' zg)
   exact am _
theorem mq (l l':List Se) (N:Nat) (hN:N=l.length) (hl:N≤100000) (h':l'=au l) :
 aG Tryd.prog G0 39 [.so 0 2 0 N,fi] [(0,dd l)] 1 (.tup []) [(0,dd l')]:=by
 refine vF ab [0,1] Tryd.func39 rfl Tryd.results39 Tryd.ntmps39 ?_;(refine' zg)
 refine ap.put 0 (uO l l' N _ hN rfl hl h') (by kernel_rfl) rfl rfl rfl ?_;(refine' zg)
 refine ah.now [] (by decide) ?_;(refine' zg)
 exact am _
abbrev eU (l:List Se):V:= .d (.sd 2 false (l.map lW))
theorem ov (l:List Se) (hl:0<l.length) (hl2:l.length≤100000):aG Tryd.prog G0 35 [eU l] [] 0 (.so 0 2 0 l.length) [(0,dd l)]:=by
 rcases l with _|⟨x,r⟩
 ·simp at hl
 rw [show eU (x::r) = .d (.sd 2 false (lW x::r.map lW)) from rfl,show (dd (x::r)) = .row 2 (lW x::r.map lW) from rfl];have hr:r.length≤100000:=by simp at hl2;omega
 refine vF ab [0,2,4] Tryd.func35 rfl Tryd.results35 Tryd.ntmps35 ?_;(refine' zg)
 refine ah.now [20] (by decide) ?_;(refine' zg)
 exact am _
theorem qr (x:Se):aG Tryd.prog G0 43 [.d (lW x),.po 0 0] [(0,.cell [.d (.lit (.slice none 0 0))])] 1 (.tup []) [(0,.cell [.so 1 2 0 1]),(1,dd [x])]:=by
 refine vF ab [0,1,2,3,4,20] Tryd.func43 rfl Tryd.results43 Tryd.ntmps43 ?_;(refine' zg)
 refine ah.now [85] (by decide) ?_;(refine' zg)
 exact am _
theorem vj {i j:Nat} {a b:bP} (h:i≠j):aY [(i,a),(j,b)] [(j,b),(i,a)]:=by
 intro k c hk;simp only [aa.get] at hk ⊢;by_cases h1:i=k<;>by_cases h2:j=k<;>simp_all
theorem qq (out:List Se) (x y:Se) (hl:out.length≤1000) (hy:out[out.length - 1]? = some y) (hm:bY y x=false) :
 aG Tryd.prog G0 43 [.d (lW x),.po 0 0] [(0,.cell [.so 1 2 0 out.length]),(1,dd out)] 2 (.tup []) [(0,.cell [.so 2 2 0 (out++[x]).length]),(2,dd (out++[x]))]:=by
 have h0:=(List.getElem?_eq_some_iff.1 hy).1;refine vF ab [0,1,2,3,4,20] Tryd.func43 rfl Tryd.results43 Tryd.ntmps43 ?_;(repeat' (first|(with_reducible first|exact True.intro|refine vD ?_|refine vG ?_|refine vE ?_)|(with_reducible refine aU.d (bw _) (by kernel_rfl) rfl rfl ?_)|(with_reducible refine aU.d (gQ _ _ _ _) (by kernel_rfl) rfl rfl ?_)|refine vR ?_|refine v6 ?_|with_reducible refine vN ?_|((with_reducible first|refine vB (fun h =>?_) (fun h =>?_)|refine vM (fun h =>?_) (fun h =>?_))<;>(first|(exfalso;omega)|skip))))
 refine cj.is (out.length - 1) y (by omega) hy ?_;(repeat' (first|(with_reducible first|exact True.intro|refine vD ?_|refine vG ?_|refine vE ?_)|(with_reducible refine aU.d (bw _) (by kernel_rfl) rfl rfl ?_)|(with_reducible refine aU.d (gQ _ _ _ _) (by kernel_rfl) rfl rfl ?_)|refine vR ?_|refine v6 ?_|with_reducible refine vN ?_|((with_reducible first|refine vB (fun h =>?_) (fun h =>?_)|refine vM (fun h =>?_) (fun h =>?_))<;>(first|(exfalso;omega)|skip))))
 ·refine ah.now [86] (by decide) ?_;(refine' zg)
  have e1:(out.map lW++[D.agg [D.lit (.int .i64 x.1),D.lit (.int .i64 x.2)]])=(out++[x]).map lW:=by rw [List.map_append];rfl
  rw [e1,List.length_map,List.length_append];exact vj (by decide)
 ·rw [pm (aQ _) (aQ _)] at h;simp [bY] at hm;simp [hm] at h
theorem wF (x y:Se):D.agg [D.lit (.int .i64 (bif decide (y.2<y.1) then max (ai y) (ai x) else ak y)),D.lit (.int .i64 (bif decide (y.2<y.1) then ak y else max (ai y) (ai x)))]=lW (df y x):=by
 have:max (ai y) (ai x)=if ai y<ai x then ai x else ai y:=by split<;>omega
 unfold df;rw [this];by_cases h:y.2<y.1<;>simp [h]
theorem oF (out:List Se) (x y:Se) (hl:out.length≤1000) (hy:out[out.length - 1]? = some y) (hm:bY y x=true) :
 aG Tryd.prog G0 43 [.d (lW x),.po 0 0] [(0,.cell [.so 1 2 0 out.length]),(1,dd out)] 2 (.tup []) [(0,.cell [.so 1 2 0 out.length]),(1,dd (out.set (out.length - 1) (df y x)))]:=by
 have h0:=(List.getElem?_eq_some_iff.1 hy).1;refine vF ab [0,1,2,3,4,20] Tryd.func43 rfl Tryd.results43 Tryd.ntmps43 ?_;(refine' zg)
 refine cj.is (out.length - 1) y (by omega) hy ?_;(repeat' (first|(with_reducible first|exact True.intro|refine vD ?_|refine vG ?_|refine vE ?_)|(with_reducible refine aU.d (bw _) (by kernel_rfl) rfl rfl ?_)|(with_reducible refine aU.d (gQ _ _ _ _) (by kernel_rfl) rfl rfl ?_)|refine vR ?_|refine v6 ?_|with_reducible refine vN ?_|((with_reducible first|refine vB (fun h =>?_) (fun h =>?_)|refine vM (fun h =>?_) (fun h =>?_))<;>(first|(exfalso;omega)|skip))))
 ·rw [pm (aQ _) (aQ _)] at h;simp [bY] at hm;simp [hm] at h
 ·refine cj.is (out.length - 1) y (by omega) hy ?_;(repeat' (first|(with_reducible first|exact True.intro|refine vD ?_|refine vG ?_|refine vE ?_)|(with_reducible refine ap.d (bw _) (by kernel_rfl) rfl rfl ?_)|(with_reducible refine aU.d (bw _) (by kernel_rfl) rfl rfl ?_)|(with_reducible refine aU.d (gQ _ _ _ _) (by kernel_rfl) rfl rfl ?_)|refine vR ?_|refine v6 ?_|with_reducible refine vN ?_|((with_reducible first|refine vB (fun h =>?_) (fun h =>?_)|refine vM (fun h =>?_) (fun h =>?_))<;>(first|(exfalso;omega)|skip))))
  refine cj.is (out.length - 1) y (by omega) hy ?_;(repeat' (first|(with_reducible first|exact True.intro|refine vD ?_|refine vG ?_|refine vE ?_)|(with_reducible refine ap.d (bw _) (by kernel_rfl) rfl rfl ?_)|(with_reducible refine aU.d (vi _) (by kernel_rfl) rfl rfl ?_)|(with_reducible refine aU.d (tg _ _ _) (by kernel_rfl) rfl rfl ?_)|refine vR ?_|refine v6 ?_|with_reducible refine vN ?_|((with_reducible first|refine vB (fun h =>?_) (fun h =>?_)|refine vM (fun h =>?_) (fun h =>?_))<;>(first|(exfalso;omega)|skip))))
  rw [wF,show ((out.length:Int) - 1).toNat=out.length - 1 by omega,←List.map_set];refine ah.now [] (by decide) ?_;(refine' zg)
  exact am _
def dj (l:List Se) (i:Nat):List Se:=((au l).take i).foldl bX []
def EE (l:List Se):St:=⟨[(3,.po 0 0),(4,.fn 43 [.po 0 0]),(12,.so 1 2 0 l.length),(13,iv l.length),(14,iv 0)],[(0,.cell [.d (.lit (.slice none 0 0))]),(1,dd (au l))],2⟩
def z3 (l:List Se) (i:Nat):St:=⟨[(3,.po 0 0),(4,.fn 43 [.po 0 0]),(12,.so 1 2 0 l.length),(13,iv l.length),(14,iv i)],[(0,.cell [.so 2 2 0 (dj l i).length]),(1,dd (au l)),(2,dd (dj l i))],3⟩
def jS (l:List Se):Nat→St
 | 0=>EE l
 | i+1=>z3 l (i+1)
attribute [push_cast] EE.eq_def z3.eq_def jS.eq_1 jS.eq_2
theorem bH {l:List Se} {i:Nat} {x:Se} (h:(au l)[i]? = some x):dj l (i+1)=bX (dj l i) x:=by
 unfold dj;rw [aX h,List.foldl_append];rfl
theorem pz {l:List Se} {i:Nat} (h0:0<i) (hi:i≤l.length):0<(dj l i).length:=by
 obtain ⟨k,rfl⟩ : ∃k,i=k+1:=⟨i - 1,by omega⟩
 rw [bH (List.getElem?_eq_getElem (by rw [ax];omega))];exact vt _ _
theorem lL (l:List Se) (i:Nat):(dj l i).length≤i:=by
 induction i with
 | zero=>simp [dj]
 | succ i ih=>
  rcases Nat.lt_or_ge i l.length with h|h
  ·rw [bH (List.getElem?_eq_getElem (by rw [ax];omega))];have:=vr (dj l i) ((au l)[i]'(by rw [ax];omega));omega
  ·have e:dj l (i+1)=dj l i:=by
    unfold dj;rw [List.take_of_length_le (by rw [ax];omega),List.take_of_length_le (by rw [ax];omega)]
   rw [e];omega
theorem oE {out:List Se} {x y:Se} (hy:out[out.length - 1]? = some y) (hm:bY y x=false):bX out x=out++[x]:=by
 rcases List.eq_nil_or_concat out with rfl|⟨o,z,rfl⟩
 ·simp at hy
 ·simp only [List.concat_eq_append] at *
  have:z=y:=by simpa using hy
  subst this;exact fR hm
theorem d6 {out:List Se} {x y:Se} (hy:out[out.length - 1]? = some y) (hm:bY y x=true):bX out x=out.set (out.length - 1) (df y x):=by
 rcases List.eq_nil_or_concat out with rfl|⟨o,z,rfl⟩
 ·simp at hy
 ·simp only [List.concat_eq_append] at *
  have:z=y:=by simpa using hy
  subst this;rw [d7 hm];simp
theorem t9 (l:List Se) (hl:0<l.length) (hl2:l.length≤1000):aG Tryd.prog G0 23 [eU l] [] 0 (eU (aK l)) []:=by
 refine vF ab [0,2,3,4,6,12,13,14,15] Tryd.func23 rfl Tryd.results23 Tryd.ntmps23 ?_;(refine' zg)
 refine ap.of [] (by kernel_rfl) (ov l hl (by omega)) rfl ?_;(refine' zg)
 refine ap.put 8 (mq l (au l) l.length rfl (by omega) rfl) (by kernel_rfl) rfl rfl rfl ?_;(refine' zg)
 have hsl:=ax l;refine vL (lv:=[0,2,3,4,6,12,13,14,15]) ab (jS l) (fun i=>i≤l.length) (fun i=>l.length - i) (0) ((a7.go [3,4,12,13,14] (by exact vS) rfl)) ?_ ?_
 ·exact Nat.zero_le _
 intro i hi;rcases i with _|i
 ·skip;(refine' zg)
  obtain ⟨x,hx⟩ : ∃x,(au l)[0]? = some x:=⟨_,List.getElem?_eq_getElem (by omega)⟩
  refine cj.is 0 x (by omega) hx ?_;(refine' zg)
  refine ap.of [0] (by kernel_rfl) (qr x) rfl ?_;(refine' zg)
  refine bA.go (1) [3,4,12,13,14] (by rw [show jS l 1=z3 l 1 from rfl];unfold z3;rw [bH hx,show dj l 0=[] from rfl,dt];exact vS) ?_ ?_
  ·show l.length - 1<l.length - 0;omega
  ·show 1≤l.length;omega
 ·have h0:0<(dj l (i+1)).length:=pz (by omega) hi;have h1:=lL l (i+1);(refine' zg)
  ·obtain ⟨x,hx⟩ : ∃x,(au l)[i+1]? = some x:=⟨_,List.getElem?_eq_getElem (by omega)⟩
   obtain ⟨y,hy⟩ : ∃y,(dj l (i+1))[(dj l (i+1)).length - 1]? = some y:=⟨_,List.getElem?_eq_getElem (by omega)⟩
   refine cj.is (i+1) x (by omega) hx ?_;(refine' zg)
   rcases hm:bY y x with _|_
   ·refine ap.of [0,2] (by kernel_rfl) (qq _ x y (by omega) hy hm) rfl ?_;(refine' zg)
    refine bA.go (i+1+1) [3,4,12,13,14] (by rw [show jS l (i+1+1)=z3 l (i+1+1) from rfl];unfold z3;rw [bH hx,oE hy hm];exact vS) ?_ ?_
    ·show l.length - (i+1+1)<l.length - (i+1)
     omega
    ·show i+1+1≤l.length;omega
   ·refine ap.of [0,2] (by kernel_rfl) (oF _ x y (by omega) hy hm) rfl ?_;(refine' zg)
    refine bA.go (i+1+1) [3,4,12,13,14] (by rw [show jS l (i+1+1)=z3 l (i+1+1) from rfl];unfold z3;rw [bH hx,d6 hy hm,List.length_set];exact vS) ?_ ?_
    ·show l.length - (i+1+1)<l.length - (i+1)
     omega
    ·show i+1+1≤l.length;omega
  ·have e:aK l=dj l (i+1):=by
    unfold dj aK;rw [List.take_of_length_le (by omega)]
   rw [e];refine ah.frz 2 (ah.out ?_);(refine' zg)
   rw [List.take_of_length_le (by simp)]
abbrev sN:V:= .d (.lit (.pointer none))
abbrev jD (n:Int) (L:List Se):V:= .d (.pd 2 [.agg [.lit (.int .i64 n),.sd 2 false (L.map lW)]] 0 0)
def ep (n:Int) (x:Se):Bool:=decide (ak x<0)||decide (n<ai x)
def aM (n:Int) (l:List Se):Int:=if n<0∨1099511627776<n then 1 else if l.length=0 then 6 else if 64<l.length then 5 else if l.any (ep n)=true then 1 else 0
def wT (n:Int) (l:List Se):V:=if aM n l=0 then .tup [jD n (aK l),iv 0] else .tup [sN,iv (aM n l)]
theorem iu {n k:Int} {l:List Se} (h:aM n l=k) (hk:k≠0):wT n l = .tup [sN,iv k]:=by unfold wT;rw [h,if_neg hk]
theorem sF {n:Int} {l:List Se} (h:aM n l=0):wT n l = .tup [jD n (aK l),iv 0]:=by unfold wT;rw [if_pos h]
theorem oG {n:Int} {l:List Se} {i:Nat} {x:Se} (hx:l[i]? = some x) (h:(l.take i).any (ep n)=false):(l.take (i+1)).any (ep n)=ep n x:=by
 rw [aX hx,List.any_append,h];simp
theorem qs {n:Int} {l:List Se} {i:Nat} {x:Se} (hx:l[i]? = some x) (h:ep n x=true):l.any (ep n)=true:=
 List.any_eq_true.2 ⟨x,List.mem_of_getElem? hx,h⟩
def z6 (n:Int) (l:List Se) (i:Nat):St:=⟨[(0,iv n),(1,eU l),(24,eU l),(25,iv l.length),(26,iv i)],[],0⟩
attribute [push_cast] z6.eq_def
theorem pS (n:Int) (l:List Se) (hl:l.length≤1000000):aG Tryd.prog G0 8 [iv n,eU l] [] 0 (wT n l) []:=by
 refine vF ab [0,1,4,5,7,8,9,16,20,24,25,26,27,40] Tryd.func8 rfl Tryd.results8 Tryd.ntmps8 ?_;(refine' zo)
 ·exact (iu (by unfold aM;rw [if_pos h]) (by decide)).symm
 ·rename_i g1;exact (iu (by unfold aM;rw [if_neg g1,if_pos (by omega)]) (by decide)).symm
 ·rename_i g1 g2;exact (iu (by unfold aM;rw [if_neg g1,if_neg (by omega),if_pos (by omega)]) (by decide)).symm
 ·rename_i g1 g2;refine vL (lv:=[0,1,4,5,7,8,9,16,20,24,25,26,27,40]) ab (z6 n l) (fun i=>i≤l.length∧(l.take i).any (ep n)=false) (fun i=>l.length - i) (0) ((a7.go [0,1,24,25,26] (by exact vS) rfl)) ?_ ?_
  ·exact ⟨Nat.zero_le _,by simp⟩
  rintro i ⟨hi,ha⟩;(refine' zo)
  ·refine cj.intro fun x hx =>?_
   (repeat' (first|(with_reducible first|exact True.intro|refine vD ?_|refine vG ?_|refine vE ?_)|with_reducible refine ah.out ?_|(with_reducible refine ap.d (bw _) (by kernel_rfl) rfl rfl ?_)|refine vR ?_|refine v6 ?_|with_reducible refine vN ?_|((with_reducible first|refine vB (fun h =>?_) (fun h =>?_)|refine vM (fun h =>?_) (fun h =>?_))<;>(first|(exfalso;omega)|skip))))
   ·have ho:ep n x=true:=by simpa [ep] using h
    exact (iu (by unfold aM;rw [if_neg g1,if_neg (by omega),if_neg (by omega),if_pos (qs hx ho)]) (by decide)).symm
   ·have ho:ep n x=false:=by
     simp only [ep,Bool.or_eq_false_iff,decide_eq_false_iff_not];omega
    refine bA.go (i+1) [0,1,24,25,26] (by exact vS) ?_ ?_
    ·show l.length - (i+1)<l.length - i;omega
    ·exact ⟨by omega,by rw [oG hx ha,ho]⟩
  ·have e:aM n l=0:=by
    rw [List.take_of_length_le (by omega)] at ha;unfold aM;rw [if_neg g1,if_neg (by omega),if_neg (by omega),if_neg (by simp [ha])]
   rw [sF e];refine ap.d (t9 l (by omega) (by omega)) (by kernel_rfl) rfl rfl ?_;(refine' zg)
   refine ah.frz 20 (ah.out ?_);(refine' zg)
theorem kJ (n:Int) (L:List Se):aG Tryd.prog G0 19 [jD n L] [] 0 (iv n) []:=by
 refine vF ab [0,2,4] Tryd.func19 rfl Tryd.results19 Tryd.ntmps19 ?_;(refine' zo)
theorem ez (n:Int) (L:List Se) (h0:0<L.length) (hl:L.length≤100000):aG Tryd.prog G0 18 [jD n L] [] 0 (eU L) []:=by
 refine vF ab [0,2,4] Tryd.func18 rfl Tryd.results18 Tryd.ntmps18 ?_;(refine' zo)
 refine ap.of [] (by kernel_rfl) (ov L h0 hl) rfl ?_;(refine' zg)
 refine ah.frz 28 (ah.out ?_);(refine' zg)
 rw [List.take_of_length_le (by simp)]
theorem cp (es:List Se) (a b:Int):es.map lW++[D.agg [D.lit (.int .i64 a),D.lit (.int .i64 b)]]=(es++[(a,b)]).map lW:=by rw [List.map_append];rfl
def Ah (l:List Se) (x:Nat × List Se):St:=⟨[(3,.so 0 2 0 x.2.length),(6,eU l),(7,iv l.length),(8,iv x.1)],[(0,dd x.2)],1⟩
attribute [push_cast] Ah.eq_def
theorem n7 (l:List Se) (hl:l.length≤100000):aG Tryd.prog G0 7 [eU l] [] 0 (eU l) []:=by
 refine vF ab [0,2,3,5,6,7,8,9] Tryd.func7 rfl Tryd.results7 Tryd.ntmps7 ?_;(refine' zg)
 refine vL (lv:=[0,2,3,5,6,7,8,9]) ab (Ah l) (fun x=>x.1≤l.length∧x.2=l.take x.1) (fun x=>l.length - x.1) ((0,[])) (a7.nil 3 2 (a7.go [3,6,7,8] (by exact vS) rfl)) ?_ ?_
 ·simp
 rintro ⟨i,es⟩ ⟨hi,he⟩;simp only at hi he;have hel:es.length=i:=by rw [he];simp;omega
 (refine' zg)
 ·refine cj.intro fun c hc =>?_
  (refine' zg)
  rw [cp];refine bA.go ((i+1,es++[c])) [3,6,7,8] (by exact vS) ?_ ?_
  ·show l.length - (i+1)<l.length - i;omega
  ·refine ⟨by simp only;omega,?_⟩;rw [he,aX hc]
 ·refine ah.frz 0 (ah.out ?_);(refine' zg)
  rw [he,List.take_of_length_le (by simp),List.take_of_length_le (by omega)]
def Cc (l:List Se) (x:Nat × List Se):St:=⟨[(3,.so 0 2 0 x.2.length),(10,eU l),(11,iv l.length),(12,iv x.1)],[(0,dd x.2)],1⟩
def Ae (l out:List Se) (i:Nat) (x:Se) (y:Nat × Bool × List Se):St:=⟨[(5,.po 0 0),(6,.so 1 2 0 y.2.2.length),(7,bv y.2.1),(10,eU l),(11,iv l.length),(12,iv i),(16,.so 2 2 0 out.length),(17,iv out.length),(18,iv y.1)],
 [(0,.cell [iv x.1,iv x.2]),(1,dd y.2.2),(2,dd out)],3⟩
attribute [push_cast] Cc.eq_def Ae.eq_def
set_option maxHeartbeats 4000000 in
theorem rr (l:List Se) (hl:l.length≤100000):aG Tryd.prog G0 37 [eU l] [] 0 (eU (au l)) []:=by
 refine vF ab [0,2,3,5,6,7,9,10,11,12,13,16,17,18,19,28,39] Tryd.func37 rfl Tryd.results37 Tryd.ntmps37 ?_;(refine' zg)
 refine vL (lv:=[0,2,3,5,6,7,9,10,11,12,13,16,17,18,19,28,39]) ab (Cc l) (fun x=>x.1≤l.length∧x.2=au (l.take x.1)) (fun x=>l.length - x.1) ((0,[])) (a7.nil 3 2 (a7.go [3,10,11,12] (by exact vS) rfl)) ?_ ?_
 ·exact ⟨Nat.zero_le _,rfl⟩
 rintro ⟨i,out⟩ ⟨hi,ho⟩;simp only at hi ho;have hel:out.length=i:=by rw [ho,ax];simp;omega
 (refine' zg)
 ·refine cj.intro fun x hx =>?_
  (refine' zg)
  refine vL (lv:=[0,2,3,5,6,7,9,10,11,12,13,16,17,18,19,28,39]) ab (Ae l out i x) (fun y=>y.1≤out.length∧y.2.2.length≤y.1+y.2.1.toNat∧y.2.2++(if y.2.1=true then out.drop y.1 else bU x (out.drop y.1))=bU x out) (fun y=>out.length - y.1) ((0,false,[])) (a7.nil 6 2 (a7.go [5,6,7,10,11,12,16,17,18] (by exact vS) rfl)) ?_ ?_
  ·exact ⟨Nat.zero_le _,by simp,by simp⟩
  rintro ⟨j,put,es⟩ ⟨hj,hes,he⟩;simp only at hj hes he;rcases put with _|_
  ·have hes:es.length≤j:=by simpa using hes
   (refine' zg)
   ·refine cj.intro fun y hy =>?_
    (repeat' (first|(with_reducible first|exact True.intro|refine vD ?_|refine vG ?_|refine vE ?_)|(with_reducible refine aU.d (oA _ _) (by kernel_rfl) rfl rfl ?_)|(with_reducible refine ap.d (oA _ _) (by kernel_rfl) rfl rfl ?_)|refine vR ?_|refine v6 ?_|with_reducible refine vN ?_|((with_reducible first|refine vB (fun h =>?_) (fun h =>?_)|refine vM (fun h =>?_) (fun h =>?_))<;>(first|(exfalso;omega)|skip))))
    ·rw [cp,cp];refine bA.go ((j+1,true,es++[(x.1,x.2)]++[(y.1,y.2)])) [5,6,7,10,11,12,16,17,18] (by exact vS) ?_ ?_
     ·show out.length - (j+1)<out.length - j;omega
     ·refine ⟨by simp only;omega,by simp;omega,?_⟩;rw [←he,nH hy];simp [bU,h]
    ·rw [cp];refine bA.go ((j+1,false,es++[(y.1,y.2)])) [5,6,7,10,11,12,16,17,18] (by exact vS) ?_ ?_
     ·show out.length - (j+1)<out.length - j;omega
     ·refine ⟨by simp only;omega,by simp;omega,?_⟩;rw [←he,nH hy];simp [bU,h]
   ·rw [cp];refine bA.go ((i+1,es++[(x.1,x.2)])) [3,10,11,12] (by exact vS) ?_ ?_
    ·show l.length - (i+1)<l.length - i;omega
    ·refine ⟨by simp only;omega,?_⟩;rw [aX hx,cP,←ho,←he,List.drop_of_length_le (by omega)];simp [bU]
  ·have hes:es.length≤j+1:=by simpa using hes
   (refine' zg)
   ·refine cj.intro fun y hy =>?_
    (refine' zg)
    ·rw [cp];refine bA.go ((j+1,true,es++[(y.1,y.2)])) [5,6,7,10,11,12,16,17,18] (by exact vS) ?_ ?_
     ·show out.length - (j+1)<out.length - j;omega
     ·refine ⟨by simp only;omega,by simp;omega,?_⟩;rw [←he,nH hy];simp
   ·skip;refine bA.go ((i+1,es)) [3,10,11,12] (by exact vS) ?_ ?_
    ·show l.length - (i+1)<l.length - i;omega
    ·refine ⟨by simp only;omega,?_⟩;rw [aX hx,cP,←ho,←he,List.drop_of_length_le (by omega)];simp
 ·refine ah.frz 0 (ah.out ?_);(refine' zg)
  rw [ho,List.take_of_length_le (by simp [ax]),List.take_of_length_le (by omega)]
def i6 (l:List Se) (x:Nat × List Se):St:=⟨[(3,.so 0 2 0 x.2.length),(9,eU (au l)),(10,iv (au l).length),(11,iv x.1)],[(0,dd x.2)],1⟩
attribute [push_cast] i6.eq_def
theorem zm {out:List Se} {a b:Int} {i:Nat} (k:Nat) (h:i=k):(out.map lW).set i (.agg [.lit (.int .i64 a),.lit (.int .i64 b)])=(out.set k (a,b)).map lW:=by subst h;rw [List.map_set]
theorem f0 (y x:Se) (a b:Int) (h:(y.2<y.1∧b=ak y∧((ai y<ai x∧a=ai x)∨(¬ai y<ai x∧a=ai y)))∨(¬y.2<y.1∧a=ak y∧((ai y<ai x∧b=ai x)∨(¬ai y<ai x∧b=ai y)))):df y x=(a,b):=by
 unfold df;rcases h with ⟨h1,rfl,⟨h2,rfl⟩|⟨h2,rfl⟩⟩|⟨h1,rfl,⟨h2,rfl⟩|⟨h2,rfl⟩⟩<;>simp [h1,h2]
set_option maxHeartbeats 4000000 in
theorem qm (l:List Se) (hl:l.length≤1000):aG Tryd.prog G0 21 [eU l] [] 0 (eU (aK l)) []:=by
 have hsl:=ax l;refine vF ab [0,2,3,5,6,7,9,10,11,12,30,45,60] Tryd.func21 rfl Tryd.results21 Tryd.ntmps21 ?_;(repeat' (first|(with_reducible first|exact True.intro|refine vD ?_|refine vG ?_|refine vE ?_)|(with_reducible refine ap.d (rr _ (by omega)) (by kernel_rfl) rfl rfl ?_)|refine vR ?_|refine v6 ?_|with_reducible refine vN ?_|((with_reducible first|refine vB (fun h =>?_) (fun h =>?_)|refine vM (fun h =>?_) (fun h =>?_))<;>(first|(exfalso;omega)|skip))))
 refine vL (lv:=[0,2,3,5,6,7,9,10,11,12,30,45,60]) ab (i6 l) (fun x=>x.1≤l.length∧x.2=dj l x.1) (fun x=>l.length - x.1) ((0,[])) (a7.nil 3 2 (a7.go [3,9,10,11] (by exact vS) rfl)) ?_ ?_
 ·exact ⟨Nat.zero_le _,rfl⟩
 rintro ⟨i,out⟩ ⟨hi,ho⟩;simp only at hi ho;have h1:out.length≤i:=by rw [ho];exact lL l i
 (refine' zg)
 ·obtain ⟨x,hx⟩ : ∃x,(au l)[i]? = some x:=⟨_,List.getElem?_eq_getElem (by omega)⟩
  refine cj.is i x (by omega) hx ?_;(repeat' (first|(with_reducible first|exact True.intro|refine vD ?_|refine vG ?_|refine vE ?_)|(with_reducible refine aU.d (bM _) (by kernel_rfl) rfl rfl ?_)|(with_reducible refine aU.d (cR _ _ _ _) (by kernel_rfl) rfl rfl ?_)|(with_reducible refine ap.d (bM _) (by kernel_rfl) rfl rfl ?_)|(with_reducible refine ap.d (cR _ _ _ _) (by kernel_rfl) rfl rfl ?_)|refine vR ?_|refine v6 ?_|with_reducible refine vN ?_|((with_reducible first|refine vB (fun h =>?_) (fun h =>?_)|refine vM (fun h =>?_) (fun h =>?_))<;>(first|(exfalso;omega)|skip))))
  ·have h0:out=[]:=List.eq_nil_of_length_eq_zero (by omega);rw [cp];refine bA.go ((i+1,out++[(x.1,x.2)])) [3,9,10,11] (by exact vS) ?_ ?_
   ·show l.length - (i+1)<l.length - i;omega
   ·refine ⟨by simp only;omega,?_⟩;rw [bH hx,←ho,h0,dt];rfl
  ·obtain ⟨y,hy⟩ : ∃y,out[out.length - 1]? = some y:=⟨_,List.getElem?_eq_getElem (by omega)⟩
   refine cj.is (out.length - 1) y (by omega) hy ?_;(repeat' (first|(with_reducible first|exact True.intro|refine vD ?_|refine vG ?_|refine vE ?_)|(with_reducible refine aU.d (bM _) (by kernel_rfl) rfl rfl ?_)|(with_reducible refine aU.d (cR _ _ _ _) (by kernel_rfl) rfl rfl ?_)|(with_reducible refine ap.d (bM _) (by kernel_rfl) rfl rfl ?_)|(with_reducible refine ap.d (cR _ _ _ _) (by kernel_rfl) rfl rfl ?_)|refine vR ?_|refine v6 ?_|with_reducible refine vN ?_|((with_reducible first|refine vB (fun h =>?_) (fun h =>?_)|refine vM (fun h =>?_) (fun h =>?_))<;>(first|(exfalso;omega)|skip))))
   ·have hm:bY y x=false:=by simpa [bY] using h
    rw [cp];refine bA.go ((i+1,out++[(x.1,x.2)])) [3,9,10,11] (by exact vS) ?_ ?_
    ·show l.length - (i+1)<l.length - i;omega
    ·refine ⟨by simp only;omega,?_⟩;rw [bH hx,←ho,oE hy hm]
   ·have hm:bY y x=true:=by simpa [bY] using h
    refine cj.is (out.length - 1) y (by omega) hy ?_;(repeat' (first|(with_reducible first|exact True.intro|refine vD ?_|refine vG ?_|refine vE ?_)|(with_reducible refine aU.d (bM _) (by kernel_rfl) rfl rfl ?_)|(with_reducible refine aU.d (cR _ _ _ _) (by kernel_rfl) rfl rfl ?_)|(with_reducible refine ap.d (bM _) (by kernel_rfl) rfl rfl ?_)|(with_reducible refine ap.d (cR _ _ _ _) (by kernel_rfl) rfl rfl ?_)|refine vR ?_|refine v6 ?_|with_reducible refine vN ?_|((with_reducible first|refine vB (fun h =>?_) (fun h =>?_)|refine vM (fun h =>?_) (fun h =>?_))<;>(first|(exfalso;omega)|skip))))
    all_goals
     refine cj.is (out.length - 1) y (by omega) hy ?_;(refine' zg)
     refine cj.is (out.length - 1) y (by omega) hy ?_;(refine' zg)
    all_goals rw [zm (out.length - 1) (by omega)]
    ·skip;refine bA.go ((i+1,out.set (out.length - 1) (ai x,ak y))) [3,9,10,11] (by simp only [i6,List.length_set];exact vS) ?_ ?_
     ·show l.length - (i+1)<l.length - i;omega
     ·refine ⟨by simp only;omega,?_⟩;rw [bH hx,←ho,d6 hy hm,f0 y x (ai x) (ak y) (by omega)]
    ·skip;refine bA.go ((i+1,out.set (out.length - 1) (ak y,ai x))) [3,9,10,11] (by simp only [i6,List.length_set];exact vS) ?_ ?_
     ·show l.length - (i+1)<l.length - i;omega
     ·refine ⟨by simp only;omega,?_⟩;rw [bH hx,←ho,d6 hy hm,f0 y x (ak y) (ai x) (by omega)]
    ·skip;refine bA.go ((i+1,out.set (out.length - 1) (ai y,ak y))) [3,9,10,11] (by simp only [i6,List.length_set];exact vS) ?_ ?_
     ·show l.length - (i+1)<l.length - i;omega
     ·refine ⟨by simp only;omega,?_⟩;rw [bH hx,←ho,d6 hy hm,f0 y x (ai y) (ak y) (by omega)]
    ·skip;refine bA.go ((i+1,out.set (out.length - 1) (ak y,ai y))) [3,9,10,11] (by simp only [i6,List.length_set];exact vS) ?_ ?_
     ·show l.length - (i+1)<l.length - i;omega
     ·refine ⟨by simp only;omega,?_⟩;rw [bH hx,←ho,d6 hy hm,f0 y x (ak y) (ai y) (by omega)]
 ·refine ah.frz 0 (ah.out ?_);(refine' zg)
  rw [ho,List.take_of_length_le (by simp)];unfold dj aK;rw [List.take_of_length_le (by omega)]
abbrev C3 (e:Int):V:= .d (.agg [.lit (.int .i64 0),.lit (.slice none 0 0),.lit (.int .i64 e)])
abbrev BD (n:Int) (L:List Se):V:= .d (.agg [.lit (.int .i64 n),.sd 2 false (L.map lW),.lit (.int .i64 0)])
def pO (n:Int) (l:List Se):V:=if aM n l=0 then BD n (aK l) else C3 (aM n l)
theorem ew {n k:Int} {l:List Se} (h:aM n l=k) (hk:k≠0):pO n l=C3 k:=by unfold pO;rw [h,if_neg hk]
theorem pP {n:Int} {l:List Se} (h:aM n l=0):pO n l=BD n (aK l):=by unfold pO;rw [if_pos h]
def Ai (n:Int) (l:List Se) (i:Nat):St:=⟨[(0,iv n),(1,eU l),(4,.po 0 0),(22,eU l),(23,iv l.length),(24,iv i)],[(0,.cell [iv 0,.d (.lit (.slice none 0 0)),iv 0])],1⟩
attribute [push_cast] Ai.eq_def
set_option maxHeartbeats 4000000 in
theorem rV (n:Int) (l:List Se) (hl:l.length≤1000000):aG Tryd.prog G0 6 [iv n,eU l] [] 0 (pO n l) []:=by
 refine vF ab [0,1,4,6,12,16,20,22,23,24,25,38] Tryd.func6 rfl Tryd.results6 Tryd.ntmps6 ?_;(refine' zo)
 ·exact (ew (by unfold aM;rw [if_pos h]) (by decide)).symm
 ·rename_i g1;exact (ew (by unfold aM;rw [if_neg g1,if_pos (by omega)]) (by decide)).symm
 ·rename_i g1 g2;exact (ew (by unfold aM;rw [if_neg g1,if_neg (by omega),if_pos (by omega)]) (by decide)).symm
 ·rename_i g1 g2;refine vL (lv:=[0,1,4,6,12,16,20,22,23,24,25,38]) ab (Ai n l) (fun i=>i≤l.length∧(l.take i).any (ep n)=false) (fun i=>l.length - i) (0) ((a7.go [0,1,4,22,23,24] (by exact vS) rfl)) ?_ ?_
  ·exact ⟨Nat.zero_le _,by simp⟩
  rintro i ⟨hi,ha⟩;(refine' zo)
  ·refine cj.intro fun x hx =>?_
   (repeat' (first|(with_reducible first|exact True.intro|refine vD ?_|refine vG ?_|refine vE ?_)|with_reducible refine ah.out ?_|(with_reducible refine aU.d (bM _) (by kernel_rfl) rfl rfl ?_)|(with_reducible refine aU.d (cR _ _ _ _) (by kernel_rfl) rfl rfl ?_)|(with_reducible refine ap.d (bM _) (by kernel_rfl) rfl rfl ?_)|(with_reducible refine ap.d (cR _ _ _ _) (by kernel_rfl) rfl rfl ?_)|refine vR ?_|refine v6 ?_|with_reducible refine vN ?_|((with_reducible first|refine vB (fun h =>?_) (fun h =>?_)|refine vM (fun h =>?_) (fun h =>?_))<;>(first|(exfalso;omega)|skip))))
   ·have ho:ep n x=true:=by simp [ep,h]
    exact (ew (by unfold aM;rw [if_neg g1,if_neg (by omega),if_neg (by omega),if_pos (qs hx ho)]) (by decide)).symm
   ·have ho:ep n x=true:=by simp [ep,h]
    exact (ew (by unfold aM;rw [if_neg g1,if_neg (by omega),if_neg (by omega),if_pos (qs hx ho)]) (by decide)).symm
   ·have ho:ep n x=false:=by
     simp only [ep,Bool.or_eq_false_iff,decide_eq_false_iff_not];omega
    refine bA.go (i+1) [0,1,4,22,23,24] (by exact vS) ?_ ?_
    ·show l.length - (i+1)<l.length - i;omega
    ·exact ⟨by omega,by rw [oG hx ha,ho]⟩
  ·have e:aM n l=0:=by
    rw [List.take_of_length_le (by omega)] at ha;unfold aM;rw [if_neg g1,if_neg (by omega),if_neg (by omega),if_neg (by simp [ha])]
   rw [pP e];refine ap.d (qm l (by omega)) (by kernel_rfl) rfl rfl ?_;(refine' zg)
   refine ah.out ?_;(refine' zg)
end Go.Proofs.YtkhonlnajdfhfaaDoor
