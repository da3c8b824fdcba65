/- What the theorem leans on, part 10. -/
import Derived.WalkKit
import Derived.Laws.Runes
import Derived.Test.YtkkanlcjjpoklaaGreatDoorStVPAA
set_option linter.unusedVariables false
set_option linter.unusedSimpArgs false
namespace Go.Proofs.YtkkanlcjjpoklaaGreatDoor
open Go
def dy (r:Int):Int:=if r<0∨1114111<r∨(55296≤r∧r≤57343) then 0 else if r<128 then 1 else if r<2048 then 2 else if r<65536 then 3 else 4
def ze (r:Int) (n:Int):List Int:=if n=1 then [r] else if n=2 then [192+r / 64,128+r % 64] else if n=3 then [224+r / 4096,128+r / 64 % 64,128+r % 64] else [240+r / 262144,128+r / 4096 % 64,128+r / 64 % 64,128+r % 64]
theorem QI (r:Int):ze r 2=[192+r / 64,128+r % 64]:=by simp [ze]
theorem QJ (r:Int):ze r 3=[224+r / 4096,128+r / 64 % 64,128+r % 64]:=by simp [ze]
theorem QK (r:Int):ze r 4=[240+r / 262144,128+r / 4096 % 64,128+r / 64 % 64,128+r % 64]:=by simp [ze]
theorem dd (r n:Int) (hn:1≤n):dy r=n↔(0≤r∧r≤1114111 ∧ ¬(55296≤r∧r≤57343))∧((n=1∧r<128)∨(n=2∧128≤r∧r<2048)∨(n=3∧2048≤r∧r<65536)∨(n=4∧65536≤r)):=by
 unfold dy;split
 ·omega
 ·split
  ·omega
  ·split
   ·omega
   ·split<;>omega
theorem U1 (b0 b1:Int) (h0:0≤b0∧b0<256) (h1:0≤b1∧b1<256) :
 (dy (64*(b0 - 192)+b1 - 128)=2∧ze (64*(b0 - 192)+b1 - 128) 2=[b0,b1])↔(b0 / 32=6∧b1 / 64=2∧128≤(b0 % 32)*64+b1 % 64):=by
 rw [dd _ _ (by omega),QI];simp only [ab7,adc];obtain ⟨r,hr⟩ : ∃r,r=64*(b0 - 192)+b1 - 128:=⟨_,rfl⟩
 rw [←hr];constructor
 ·rintro ⟨⟨g1,g2⟩,g3,g4⟩;have e1:b0 / 32=6:=by omega
  have e2:b1 / 64=2:=by omega
  have e3:b0 % 32=b0 - 192:=by omega
  have e4:b1 % 64=b1 - 128:=by omega
  rw [e3,e4];exact ⟨e1,e2,by omega⟩
 ·rintro ⟨g1,g2,g3⟩;have e3:b0 % 32=b0 - 192:=by omega
  have e4:b1 % 64=b1 - 128:=by omega
  rw [e3,e4] at g3;have q1:r / 64=b0 - 192:=by omega
  have q2:r % 64=b1 - 128:=by omega
  rw [q1,q2];refine ⟨⟨⟨by omega,by omega,by omega⟩,.inr (.inl ⟨trivial,by omega,by omega⟩)⟩,by omega,by omega⟩
theorem U2 (b0 b1 b2:Int) (h0:0≤b0∧b0<256) (h1:0≤b1∧b1<256) (h2:0≤b2∧b2<256) :
 (dy (64*(64*(b0 - 224)+b1 - 128)+b2 - 128)=3∧ze (64*(64*(b0 - 224)+b1 - 128)+b2 - 128) 3=[b0,b1,b2]) ↔
  (b0 / 16=14∧b1 / 64=2∧b2 / 64=2∧2048≤(b0 % 16)*4096+(b1 % 64)*64+b2 % 64 ∧ ¬(55296≤(b0 % 16)*4096+(b1 % 64)*64+b2 % 64∧(b0 % 16)*4096+(b1 % 64)*64+b2 % 64≤57343)):=by
 rw [dd _ _ (by omega),QJ];simp only [ab7,adc];obtain ⟨r,hr⟩ : ∃r,r=64*(64*(b0 - 224)+b1 - 128)+b2 - 128:=⟨_,rfl⟩
 rw [←hr];constructor
 ·rintro ⟨⟨g1,g2⟩,g3,g4,g5⟩;have e0:b0 / 16=14:=by omega
  have e1:b1 / 64=2:=by omega
  have e2:b2 / 64=2:=by omega
  have q0:b0 % 16=b0 - 224:=by omega
  have q1:b1 % 64=b1 - 128:=by omega
  have q2:b2 % 64=b2 - 128:=by omega
  rw [q0,q1,q2];have e:(b0 - 224)*4096+(b1 - 128)*64+(b2 - 128)=r:=by omega
  rw [e];exact ⟨e0,e1,e2,by omega,by omega⟩
 ·rintro ⟨g1,g2,g3,g4,g5⟩;have q0:b0 % 16=b0 - 224:=by omega
  have q1:b1 % 64=b1 - 128:=by omega
  have q2:b2 % 64=b2 - 128:=by omega
  rw [q0,q1,q2] at g4 g5;have e:(b0 - 224)*4096+(b1 - 128)*64+(b2 - 128)=r:=by omega
  rw [e] at g4 g5;have f1:r / 64=64*(b0 - 224)+(b1 - 128):=by omega
  have f2:r % 64=b2 - 128:=by omega
  have f3:r / 4096=b0 - 224:=by omega
  have f4:(64*(b0 - 224)+(b1 - 128)) % 64=b1 - 128:=by omega
  rw [f3,f1,f4,f2];refine ⟨⟨⟨by omega,by omega,g5⟩,.inr (.inr (.inl ⟨trivial,by omega,by omega⟩))⟩,by omega,by omega,by omega⟩
theorem U3 (b0 b1 b2 b3:Int) (h0:0≤b0∧b0<256) (h1:0≤b1∧b1<256) (h2:0≤b2∧b2<256) (h3:0≤b3∧b3<256) :
 (dy (64*(64*(64*(b0 - 240)+b1 - 128)+b2 - 128)+b3 - 128)=4∧ze (64*(64*(64*(b0 - 240)+b1 - 128)+b2 - 128)+b3 - 128) 4=[b0,b1,b2,b3]) ↔
  (b0 / 8=30∧b1 / 64=2∧b2 / 64=2∧b3 / 64=2∧65536≤(b0 % 8)*262144+(b1 % 64)*4096+(b2 % 64)*64+b3 % 64∧(b0 % 8)*262144+(b1 % 64)*4096+(b2 % 64)*64+b3 % 64≤1114111):=by
 rw [dd _ _ (by omega),QK];simp only [ab7,adc];obtain ⟨r,hr⟩ : ∃r,r=64*(64*(64*(b0 - 240)+b1 - 128)+b2 - 128)+b3 - 128:=⟨_,rfl⟩
 rw [←hr];constructor
 ·rintro ⟨⟨g1,g2⟩,g3,g4,g5,g6⟩;have e1:b1 / 64=2:=by omega
  have e2:b2 / 64=2:=by omega
  have e3:b3 / 64=2:=by omega
  have q1:b1 % 64=b1 - 128:=by omega
  have q2:b2 % 64=b2 - 128:=by omega
  have q3:b3 % 64=b3 - 128:=by omega
  have e0:b0 / 8=30:=by omega
  have q0:b0 % 8=b0 - 240:=by omega
  rw [q0,q1,q2,q3];have e:(b0 - 240)*262144+(b1 - 128)*4096+(b2 - 128)*64+(b3 - 128)=r:=by omega
  rw [e];exact ⟨e0,e1,e2,e3,by omega,by omega⟩
 ·rintro ⟨g1,g2,g3,g4,g5,g6⟩;have q0:b0 % 8=b0 - 240:=by omega
  have q1:b1 % 64=b1 - 128:=by omega
  have q2:b2 % 64=b2 - 128:=by omega
  have q3:b3 % 64=b3 - 128:=by omega
  rw [q0,q1,q2,q3] at g5 g6;have e:(b0 - 240)*262144+(b1 - 128)*4096+(b2 - 128)*64+(b3 - 128)=r:=by omega
  rw [e] at g5 g6;have f2:r % 64=b3 - 128:=by omega
  have f1:r / 64=64*(64*(b0 - 240)+(b1 - 128))+(b2 - 128):=by omega
  have f4:(64*(64*(b0 - 240)+(b1 - 128))+(b2 - 128)) % 64=b2 - 128:=by omega
  have f3:r / 4096=64*(b0 - 240)+(b1 - 128):=by omega
  have f5:(64*(b0 - 240)+(b1 - 128)) % 64=b1 - 128:=by omega
  have f6:r / 262144=b0 - 240:=by omega
  rw [f6,f3,f5,f1,f4,f2];refine ⟨⟨⟨by omega,g6,by omega⟩,.inr (.inr (.inr ⟨trivial,by omega⟩))⟩,by omega,by omega,by omega,by omega⟩
theorem kW (s:ByteArray) (i:Nat):1≤(Utf8.decode s i).2:=by
 unfold Utf8.decode;simp only;repeat' split
 all_goals simp
theorem yx (s:ByteArray) (i:Nat):(Utf8.decode s i).2≤4:=by
 unfold Utf8.decode;simp only;repeat' split
 all_goals simp
def aa (s:ByteArray) (i:Nat):List Int:=if i<s.size then ((Utf8.decode s i).1:Int)::aa s (i+(Utf8.decode s i).2) else []
termination_by s.size - i
decreasing_by
 have:=kW s i;omega
theorem cY {s:ByteArray} {i:Nat} (h:i<s.size):aa s i=((Utf8.decode s i).1:Int)::aa s (i+(Utf8.decode s i).2):=by
 rw [aa,aa3 h]
theorem bQ {s:ByteArray} {i:Nat} (h : ¬i<s.size):aa s i=[]:=by
 rw [aa,aaY h]
end Go.Proofs.YtkkanlcjjpoklaaGreatDoor
