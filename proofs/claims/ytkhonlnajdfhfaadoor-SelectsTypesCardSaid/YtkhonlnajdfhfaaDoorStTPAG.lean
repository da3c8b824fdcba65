/- What the theorem leans on, part 7. -/
import Derived.Laws.Cover4
import Derived.Test.YtkhonlnajdfhfaaDoorStTPAE
import Derived.Test.YtkhonlnajdfhfaaDoorStTPAF
set_option linter.unusedSimpArgs false
set_option linter.unusedVariables false
set_option maxRecDepth 8000
namespace Go.Proofs.YtkhonlnajdfhfaaDoor
abbrev rv (r:Int):V:= .d (.lit (.int .i32 r))
abbrev md (l:List Int):V:= .d (.sd 1 false (l.map Cg))
abbrev sv (s:ByteArray):V:= .d (.lit (.string s))
theorem na (r:Int):aG Tryd.prog G0 33 [rv r] [] 0 (iv (b8 r)) []:=by
 refine vF ab [0,2,16,18,20,22] Tryd.func33 rfl Tryd.results33 Tryd.ntmps33 ?_;(repeat' (first|(with_reducible first|exact True.intro|refine vD ?_|refine vG ?_|refine vE ?_)|with_reducible refine ah.out ?_|refine vR ?_|refine v3 ?_|with_reducible refine vN ?_|((with_reducible first|refine vB (fun h =>?_) (fun h =>?_)|refine vM (fun h =>?_) (fun h =>?_))<;>(first|(exfalso;omega)|skip))))
 all_goals
  congr 3;unfold b8;repeat' split
  all_goals first|rfl|omega
theorem xg (r:Int):aG Tryd.prog G0 86 [rv r] [] 0 (bv (Utf8.valid r)) []:=by
 refine vF ab [0,2] Tryd.func86 rfl Tryd.results86 Tryd.ntmps86 ?_;(repeat' (first|(with_reducible first|exact True.intro|refine vD ?_|refine vG ?_|refine vE ?_)|with_reducible refine ah.out ?_|refine vR ?_|refine v3 ?_|with_reducible refine vN ?_|((with_reducible first|refine vB (fun h =>?_) (fun h =>?_)|refine vM (fun h =>?_) (fun h =>?_))<;>(first|(exfalso;omega)|skip))))
 all_goals
  congr 1;rw [Bool.eq_iff_iff];simp [Utf8.valid];try omega
def BX (s:ByteArray) (x:Nat × Int):St:=⟨[(3,iv x.2),(5,.it 0)],[(0,.iter s x.1)],1⟩
attribute [push_cast] BX.eq_def
theorem vb (s:ByteArray) (hs:s.size≤1000000000):aG Tryd.prog G0 29 [sv s] [] 0 (iv (ae s 0).length) []:=by
 refine vF ab [0,2,3,5,7] Tryd.func29 rfl Tryd.results29 Tryd.ntmps29 ?_;(repeat' (first|(with_reducible first|exact True.intro|refine vD ?_|refine vG ?_|refine vE ?_)|refine vR ?_|refine v3 ?_|with_reducible refine vN ?_|((with_reducible first|refine vB (fun h =>?_) (fun h =>?_)|refine vM (fun h =>?_) (fun h =>?_))<;>(first|(exfalso;omega)|skip))))
 refine vL (lv:=[0,2,3,5,7]) ab (BX s) (fun x=>0≤x.2∧x.2≤x.1∧x.2+(ae s x.1).length=(ae s 0).length∧x.1≤s.size+4) (fun x=>s.size - x.1) ((0,0)) ((a7.go [3,5] (by exact vS) rfl)) ?_ ?_
 ·simp
 rintro ⟨i,n⟩ ⟨h0,h1,h2,h3⟩;simp only at h0 h1 h2 h3;have hp:=fU s i;have hq:=nD s i;(repeat' (first|(with_reducible first|exact True.intro|refine vD ?_|refine vG ?_|refine vE ?_)|with_reducible refine ah.out ?_|refine vR ?_|refine v3 ?_|with_reducible refine vN ?_|((with_reducible first|refine vB (fun h =>?_) (fun h =>?_)|refine vM (fun h =>?_) (fun h =>?_))<;>(first|(exfalso;omega)|skip))))
 ·rw [dJ h,List.length_cons] at h2;refine bA.go ((i+(Utf8.decode s i).2,n+1)) [3,5] (by exact vS) ?_ ?_
  ·show s.size - (i+(Utf8.decode s i).2)<s.size - i;omega
  ·exact ⟨by simp only;omega,by simp only;omega,by simp only;omega,by simp only;omega⟩
 ·rw [b7 h] at h2;simp at h2;rw [h2]
def BZ (s:ByteArray) (x:Nat × List Int):St:=⟨[(3,.so 0 1 0 x.2.length),(7,.it 1)],[(0,.row 1 (x.2.map Cg)),(1,.iter s x.1)],2⟩
attribute [push_cast] BZ.eq_def
theorem sQ (es:List Int) (r:Int):es.map Cg++[D.lit (.int .i32 r)]=(es++[r]).map Cg:=by rw [List.map_append];rfl
theorem s6 (s:ByteArray) (hs:s.size≤1000000000):aG Tryd.prog G0 24 [sv s] [] 0 (md (ae s 0)) []:=by
 refine vF ab [0,2,3,5,7,8,9] Tryd.func24 rfl Tryd.results24 Tryd.ntmps24 ?_;(repeat' (first|(with_reducible first|exact True.intro|refine vD ?_|refine vG ?_|refine vE ?_)|refine vR ?_|refine v3 ?_|with_reducible refine vN ?_|((with_reducible first|refine vB (fun h =>?_) (fun h =>?_)|refine vM (fun h =>?_) (fun h =>?_))<;>(first|(exfalso;omega)|skip))))
 refine vL (lv:=[0,2,3,5,7,8,9]) ab (BZ s) (fun x=>x.2++ae s x.1=ae s 0∧x.2.length≤x.1∧x.1≤s.size+4) (fun x=>s.size - x.1) ((0,[])) (a7.nil 3 1 (a7.go [3,7] (by exact vS) rfl)) ?_ ?_
 ·simp
 rintro ⟨i,es⟩ ⟨h1,h2,h3⟩;simp only at h1 h2 h3;have hp:=fU s i;have hq:=nD s i;(repeat' (first|(with_reducible first|exact True.intro|refine vD ?_|refine vG ?_|refine vE ?_)|refine vR ?_|refine v3 ?_|with_reducible refine vN ?_|((with_reducible first|refine vB (fun h =>?_) (fun h =>?_)|refine vM (fun h =>?_) (fun h =>?_))<;>(first|(exfalso;omega)|skip))))
 ·rw [dJ h] at h1;rw [sQ];refine bA.go ((i+(Utf8.decode s i).2,es++[((Utf8.decode s i).1:Int)])) [3,7] (by exact vS) ?_ ?_
  ·show s.size - (i+(Utf8.decode s i).2)<s.size - i;omega
  ·exact ⟨by rw [←h1];simp,by simp;omega,by simp only;omega⟩
 ·rw [b7 h,List.append_nil] at h1;refine ah.frz 0 (ah.out ?_);(repeat' (first|(with_reducible first|exact True.intro|refine vD ?_|refine vG ?_|refine vE ?_)|refine vR ?_|refine v3 ?_|with_reducible refine vN ?_|((with_reducible first|refine vB (fun h =>?_) (fun h =>?_)|refine vM (fun h =>?_) (fun h =>?_))<;>(first|(exfalso;omega)|skip))))
  rw [h1,List.take_of_length_le (by simp)]
abbrev u6 (b:UInt8):D:= .lit (.int .u8 b.toNat)
theorem tC (b:UInt8):eE (u6 b)=b:=by simp [eE,fc]
theorem mF (l:List UInt8):(l.map u6).map eE=l:=by
 rw [List.map_map];have:(eE ∘ u6)=id:=by funext b;exact tC b
 rw [this,List.map_id]
theorem qQ (l:List UInt8) : ∀y∈l.map u6,i5 y:=by
 intro y hy;obtain ⟨b,_,rfl⟩:=List.mem_map.1 hy;exact ⟨_,rfl⟩
def aD (l:List Int):List UInt8:=l.flatMap fun r=>(Utf8.encode r).data.toList
theorem fV (l:List Int) (r:Int):aD (l++[r])=aD l++(Utf8.encode r).data.toList:=by
 unfold aD;rw [List.flatMap_append,List.flatMap_cons,List.flatMap_nil,List.append_nil]
theorem sP (es t:List UInt8):es.map u6++t.map (fun b=>D.lit (.int .u8 b.toNat))=(es++t).map u6:=by rw [List.map_append]
theorem dx (l:List Int):(aD l).length≤4*l.length:=by
 induction l with
 | nil=>simp [aD]
 | cons r l ih=>
  have:=encode_size_le r;have e:(Utf8.encode r).data.toList.length=(Utf8.encode r).size:=by rw [Array.length_toList];rfl
  simp only [aD,List.flatMap_cons,List.length_append,List.length_cons] at ih ⊢;omega
theorem gB (r:Int) (h:Utf8.valid r=false):Utf8.encode r=Utf8.encode 65533:=by
 unfold Utf8.encode;rw [h];rfl
def EA (l:List Int) (x:Nat × List UInt8):St:=⟨[(3,.so 0 1 0 x.2.length),(6,md l),(7,iv l.length),(8,iv x.1)],[(0,.row 1 (x.2.map u6))],1⟩
attribute [push_cast] EA.eq_def
theorem s7 (l:List Int) (hl:l.length≤1000000000):aG Tryd.prog G0 68 [md l] [] 0 (sv ⟨(aD l).toArray⟩) []:=by
 refine vF ab [0,2,3,5,6,7,8,9,14] Tryd.func68 rfl Tryd.results68 Tryd.ntmps68 ?_;(repeat' (first|(with_reducible first|exact True.intro|refine vD ?_|refine vG ?_|refine vE ?_)|refine vR ?_|refine v3 ?_|with_reducible refine vN ?_|((with_reducible first|refine vB (fun h =>?_) (fun h =>?_)|refine vM (fun h =>?_) (fun h =>?_))<;>(first|(exfalso;omega)|skip))))
 refine vL (lv:=[0,2,3,5,6,7,8,9,14]) ab (EA l) (fun x=>x.1≤l.length∧x.2=aD (l.take x.1)) (fun x=>l.length - x.1) ((0,[])) (a7.nil 3 1 (a7.go [3,6,7,8] (by exact vS) rfl)) ?_ ?_
 ·exact ⟨Nat.zero_le _,rfl⟩
 rintro ⟨i,es⟩ ⟨hi,he⟩;simp only at hi he;have hel:es.length≤4*i:=by
  have:=dx (l.take i);rw [List.length_take] at this;rw [he];omega
 rcases Nat.lt_or_ge i l.length with hil|hil
 ·obtain ⟨r,hr⟩ : ∃r,l[i]? = some r:=⟨_,List.getElem?_eq_getElem hil⟩
  have hz:=encode_size_le r;have hz2:(Utf8.encode 65533).size≤4:=encode_size_le _;(repeat' (first|(with_reducible first|exact True.intro|refine vD ?_|refine vG ?_|refine vE ?_)|refine vR ?_|refine v3 ?_|with_reducible refine vN ?_|((with_reducible first|refine vB (fun h =>?_) (fun h =>?_)|refine vM (fun h =>?_) (fun h =>?_))<;>(first|(exfalso;omega)|skip))))
  refine cj.is i r (by omega) hr ?_;(repeat' (first|(with_reducible first|exact True.intro|refine vD ?_|refine vG ?_|refine vE ?_)|with_reducible refine vC (xg _) ?_|refine vR ?_|refine v3 ?_|with_reducible refine vN ?_|((with_reducible first|refine vB (fun h =>?_) (fun h =>?_)|refine vM (fun h =>?_) (fun h =>?_))<;>(first|(exfalso;omega)|skip))))
  ·have hv:Utf8.valid r=false:=by simpa using h
   rw [sP];refine bA.go ((i+1,es++(Utf8.encode 65533).data.toList)) [3,6,7,8] (by exact vS) ?_ ?_
   ·show l.length - (i+1)<l.length - i;omega
   ·exact ⟨by simp only;omega,by rw [aX hr,fV,←he,gB r hv]⟩
  ·rw [sP];refine bA.go ((i+1,es++(Utf8.encode r).data.toList)) [3,6,7,8] (by exact vS) ?_ ?_
   ·show l.length - (i+1)<l.length - i;omega
   ·exact ⟨by simp only;omega,by rw [aX hr,fV,←he]⟩
 ·skip;(repeat' (first|(with_reducible first|exact True.intro|refine vD ?_|refine vG ?_|refine vE ?_)|with_reducible refine ah.out ?_|refine vR ?_|refine v3 ?_|with_reducible refine vN ?_|((with_reducible first|refine vB (fun h =>?_) (fun h =>?_)|refine vM (fun h =>?_) (fun h =>?_))<;>(first|(exfalso;omega)|skip))))
  rw [List.take_of_length_le (by simp)];refine j7.intro' (qQ es) ?_;rw [mF,he,List.take_of_length_le hil];refine (?_:cE _ _);(repeat' (first|(with_reducible first|exact True.intro|refine vD ?_|refine vG ?_|refine vE ?_)|with_reducible refine ah.out ?_|refine vR ?_|refine v3 ?_|with_reducible refine vN ?_|((with_reducible first|refine vB (fun h =>?_) (fun h =>?_)|refine vM (fun h =>?_) (fun h =>?_))<;>(first|(exfalso;omega)|skip))))
theorem dm (r:Int) (h:0≤r∧r≤1114111 ∧ ¬(55296≤r∧r≤57343)):Utf8.encode r=⟨(if r<128 then [UInt8.ofNat r.toNat] else if r<2048 then [UInt8.ofNat (192+r / 64).toNat,UInt8.ofNat (128+r % 64).toNat]
 else if r<65536 then [UInt8.ofNat (224+r / 4096).toNat,UInt8.ofNat (128+r / 64 % 64).toNat,UInt8.ofNat (128+r % 64).toNat]
 else [UInt8.ofNat (240+r / 262144).toNat,UInt8.ofNat (128+r / 4096 % 64).toNat,UInt8.ofNat (128+r / 64 % 64).toNat,UInt8.ofNat (128+r % 64).toNat]).toArray⟩:=by
 have hv:Utf8.valid r=true:=by simp [Utf8.valid];omega
 obtain ⟨k,rfl⟩ : ∃k:Nat,r=k:=⟨r.toNat,by omega⟩
 unfold Utf8.encode;rw [hv];simp only [if_true,Int.toNat_natCast];have e1:((192:Int)+(k:Int) / 64).toNat=192+k / 64:=by omega
 have e2:((128:Int)+(k:Int) % 64).toNat=128+k % 64:=by omega
 have e3:((224:Int)+(k:Int) / 4096).toNat=224+k / 4096:=by omega
 have e4:((128:Int)+(k:Int) / 64 % 64).toNat=128+k / 64 % 64:=by omega
 have e5:((240:Int)+(k:Int) / 262144).toNat=240+k / 262144:=by omega
 have e6:((128:Int)+(k:Int) / 4096 % 64).toNat=128+k / 4096 % 64:=by
  obtain ⟨q,hq⟩ : ∃q:Nat,q=k / 4096:=⟨_,rfl⟩
  have:(k:Int) / 4096=(q:Int):=by omega
  rw [this,←hq];omega
 rw [e1,e2,e3,e4,e5,e6];by_cases h1:k<128
 ·have g1:(k:Int)<128:=by omega
  simp only [if_pos h1,if_pos g1]
 ·have g1 : ¬(k:Int)<128:=by omega
  by_cases h2:k<2048
  ·have g2:(k:Int)<2048:=by omega
   simp only [if_neg h1,if_neg g1,if_pos h2,if_pos g2]
  ·have g2 : ¬(k:Int)<2048:=by omega
   by_cases h3:k<65536
   ·have g3:(k:Int)<65536:=by omega
    simp only [if_neg h1,if_neg g1,if_neg h2,if_neg g2,if_pos h3,if_pos g3]
   ·have g3 : ¬(k:Int)<65536:=by omega
    simp only [if_neg h1,if_neg g1,if_neg h2,if_neg g2,if_neg h3,if_neg g3]
set_option maxHeartbeats 1000000 in
theorem rl (r n:Int) (h:b8 r=n) (hn:1≤n):aG Tryd.prog G0 34 [rv r,iv n] [] 0 (sv (Utf8.encode r)) []:=by
 rw [bO r n hn] at h;rw [dm r h.1];refine vF ab [0,1,4,5,6,12,24] Tryd.func34 rfl Tryd.results34 Tryd.ntmps34 ?_;(repeat' (first|(with_reducible first|exact True.intro|refine vD ?_|refine vG ?_|refine vE ?_)|with_reducible refine ah.out ?_|refine vR ?_|refine v3 ?_|with_reducible refine vN ?_|((with_reducible first|refine vB (fun h =>?_) (fun h =>?_)|refine vM (fun h =>?_) (fun h =>?_))<;>(first|(exfalso;omega)|skip))))
 ·rw [if_pos (by omega)]
 ·rw [if_neg (by omega),if_pos (by omega)]
 ·rw [if_neg (by omega),if_neg (by omega),if_pos (by omega)]
 ·rw [if_neg (by omega),if_neg (by omega),if_neg (by omega)]
def bq (t:ByteArray) (i:Nat):Int:=(t.data.getD i 0).toNat
theorem bB (t:ByteArray) (i:Nat):0≤bq t i∧bq t i<256:=by
 have:=(t.data.getD i 0).toNat_lt;unfold bq;omega
theorem Ay (t:ByteArray) (i:Nat):((t.data.getD i 0).toNat:Int)=bq t i:=rfl
attribute [push_cast] Ay
def dX (n:Nat):Int:=if n=2 then 192 else if n=3 then 224 else 240
def cg (t:ByteArray):Nat→Int
 | 0=>0
 | 1=>bq t 0 - dX t.size
 | i+2=>64*cg t (i+1)+bq t (i+1) - 128
def bK (t:ByteArray):Int:=if t.size=1 then bq t 0 else cg t t.size
def DJ (t:ByteArray) (i:Nat):St:=⟨[(0,sv t),(3,rv (cg t i)),(4,iv i)],[],0⟩
attribute [push_cast] DJ.eq_def
theorem w9 (t:ByteArray) (i:Nat) (h:1≤i) (h4:i≤4):(i=1 ∧ -240≤cg t i∧cg t i≤300)∨(i=2 ∧ -16000≤cg t i∧cg t i≤20000)∨(i=3 ∧ -1100000≤cg t i∧cg t i≤1300000)∨(i=4 ∧ -71000000≤cg t i∧cg t i≤84000000):=by
 have b0:=bB t 0;have b1:=bB t 1;have b2:=bB t 2;have b3:=bB t 3;have ho:192≤dX t.size∧dX t.size≤240:=by unfold dX;repeat' split<;>omega
 have h4':i=1∨i=2∨i=3∨i=4:=by omega
 have e1:cg t 1=bq t 0 - dX t.size:=rfl;have e2:cg t 2=64*cg t 1+bq t 1 - 128:=rfl;have e3:cg t 3=64*cg t 2+bq t 2 - 128:=rfl;have e4:cg t 4=64*cg t 3+bq t 3 - 128:=rfl;rcases h4' with rfl|rfl|rfl|rfl
 ·left;omega
 ·right;left;omega
 ·right;right;left;omega
 ·right;right;right;omega
theorem rt (t:ByteArray) (i:Nat) (h:1≤i):cg t (i+1)=64*cg t i+bq t i - 128:=by
 obtain ⟨k,rfl⟩ : ∃k,i=k+1:=⟨i - 1,by omega⟩
 rfl
set_option maxHeartbeats 1000000 in
theorem ux (t:ByteArray) (h0:0<t.size) (h4:t.size≤4):aG Tryd.prog G0 36 [sv t] [] 0 (rv (bK t)) []:=by
 have b0:=bB t 0;refine vF ab [0,2,3,4,9,12,15,19,26] Tryd.func36 rfl Tryd.results36 Tryd.ntmps36 ?_;rcases Nat.lt_or_ge t.size 2 with hz|hz
 ·have hz1:t.size=1:=by omega
  (repeat' (first|(with_reducible first|exact True.intro|refine vD ?_|refine vG ?_|refine vE ?_)|with_reducible refine ah.out ?_|refine vR ?_|refine v3 ?_|with_reducible refine vN ?_|((with_reducible first|refine vB (fun h =>?_) (fun h =>?_)|refine vM (fun h =>?_) (fun h =>?_))<;>(first|(exfalso;omega)|skip))))
  rw [bK,if_pos hz1]
 ·have e1:cg t 1=bq t 0 - dX t.size:=rfl;have ho:(t.size=2∧dX t.size=192)∨(t.size=3∧dX t.size=224)∨(t.size=4∧dX t.size=240):=by unfold dX;repeat' split<;>omega
  have hn:bK t=cg t t.size:=by rw [bK,if_neg (by omega)]
  rw [hn];(repeat' (first|(with_reducible first|exact True.intro|refine vD ?_|refine vG ?_|refine vE ?_)|with_reducible refine ah.out ?_|refine vR ?_|refine v3 ?_|with_reducible refine vN ?_|((with_reducible first|refine vB (fun h =>?_) (fun h =>?_)|refine vM (fun h =>?_) (fun h =>?_))<;>(first|(exfalso;omega)|skip))))
  all_goals
   refine vL (lv:=[0,2,3,4,9,12,15,19,26]) ab (DJ t) (fun i=>1≤i∧i≤t.size) (fun i=>t.size - i) (1) ((a7.go [0,3,4] (by exact vS) rfl)) ?_ ?_
   ·exact ⟨by omega,by omega⟩
   rintro i ⟨hi1,hi2⟩;have hp:=w9 t i hi1 (by omega);have hb:=bB t i;(repeat' (first|(with_reducible first|exact True.intro|refine vD ?_|refine vG ?_|refine vE ?_)|with_reducible refine ah.out ?_|refine vR ?_|refine v3 ?_|with_reducible refine vN ?_|((with_reducible first|refine vB (fun h =>?_) (fun h =>?_)|refine vM (fun h =>?_) (fun h =>?_))<;>(first|(exfalso;omega)|skip))))
   ·refine bA.go (i+1) [0,3,4] (by unfold DJ;rw [rt t i hi1];exact vS) ?_ ?_
    ·show t.size - (i+1)<t.size - i;omega
    ·exact ⟨by omega,by omega⟩
   ·rw [show i=t.size by omega]
theorem dh (x:Int) (b:UInt8) (h0:0≤x) (h1:x<256):UInt8.ofNat x.toNat=b↔x=(b.toNat:Int):=by
 constructor
 ·rintro rfl;simp;omega
 ·intro h;rw [h];simp
theorem aZ {t:ByteArray} {l:List UInt8} (h:t=⟨l.toArray⟩) (i:Nat):bq t i=((l.getD i 0).toNat:Int):=by
 subst h;unfold bq;simp [Array.getD_eq_getD_getElem?,List.getD_eq_getElem?_getD]
theorem gV (t:ByteArray):t=⟨t.data.toList.toArray⟩:=by cases t;simp
theorem EH (t:ByteArray) (ht:t.size=1):(b8 (bK t)=1∧Utf8.encode (bK t)=t)↔bq t 0<128:=by
 have hn:bK t=bq t 0:=by rw [bK,if_pos ht]
 have hb:=bB t 0;rw [hn,bO _ _ (by omega)];constructor
 ·rintro ⟨h1,_⟩;omega
 ·intro h;refine ⟨by omega,?_⟩;rw [dm _ (by omega),if_pos h];obtain ⟨l,hl⟩ : ∃l,l=t.data.toList:=⟨_,rfl⟩
  have ht':=gV t;rw [←hl] at ht';have hll:l.length=1:=by rw [hl,Array.length_toList];exact ht
  match l,hll with
  | [a],_=>
   have:=aZ ht' 0;simp only [List.getD_cons_zero] at this;rw [this];simp;exact ht'.symm
theorem EI (t:ByteArray) (ht:t.size=2):(b8 (bK t)=2∧Utf8.encode (bK t)=t)↔(bq t 0 / 32=6∧bq t 1 / 64=2∧128≤(bq t 0 % 32)*64+bq t 1 % 64):=by
 have hn:bK t=64*(bq t 0 - 192)+bq t 1 - 128:=by rw [bK,if_neg (by omega),ht];show 64*(bq t 0 - dX t.size)+bq t 1 - 128=_;rw [ht];rfl
 rw [←Ck _ _ (bB t 0) (bB t 1),←hn];refine and_congr_right fun hs =>?_
 rw [bO _ _ (by omega)] at hs;rw [dm _ hs.1,if_neg (by omega),if_pos (by omega),Ab];obtain ⟨l,hl⟩ : ∃l,l=t.data.toList:=⟨_,rfl⟩
 have ht':=gV t;rw [←hl] at ht';have hll:l.length=2:=by rw [hl,Array.length_toList];exact ht
 match l,hll with
 | [a,b],_=>
  have e0:=aZ ht' 0;have e1:=aZ ht' 1;simp only [List.getD_cons_zero,List.getD_cons_succ] at e0 e1;rw [e0,e1];generalize bK t=r at hs;conv=>lhs;rhs;rw [ht']
  simp only [ByteArray.mk.injEq,List.toArray_inj,List.cons.injEq,and_true,Array.mk.injEq];rw [dh _ _ (by omega) (by omega),dh _ _ (by omega) (by omega)]
theorem EJ (t:ByteArray) (ht:t.size=3):(b8 (bK t)=3∧Utf8.encode (bK t)=t) ↔
 (bq t 0 / 16=14∧bq t 1 / 64=2∧bq t 2 / 64=2∧2048≤(bq t 0 % 16)*4096+(bq t 1 % 64)*64+bq t 2 % 64 ∧ ¬(55296≤(bq t 0 % 16)*4096+(bq t 1 % 64)*64+bq t 2 % 64∧(bq t 0 % 16)*4096+(bq t 1 % 64)*64+bq t 2 % 64≤57343)):=by
 have hn:bK t=64*(64*(bq t 0 - 224)+bq t 1 - 128)+bq t 2 - 128:=by rw [bK,if_neg (by omega),ht];show 64*(64*(bq t 0 - dX t.size)+bq t 1 - 128)+bq t 2 - 128=_;rw [ht];rfl
 rw [←Cl _ _ _ (bB t 0) (bB t 1) (bB t 2),←hn];refine and_congr_right fun hs =>?_
 rw [bO _ _ (by omega)] at hs;rw [dm _ hs.1,if_neg (by omega),if_neg (by omega),if_pos (by omega),Ac];obtain ⟨l,hl⟩ : ∃l,l=t.data.toList:=⟨_,rfl⟩
 have ht':=gV t;rw [←hl] at ht';have hll:l.length=3:=by rw [hl,Array.length_toList];exact ht
 match l,hll with
 | [a,b,c],_=>
  have e0:=aZ ht' 0;have e1:=aZ ht' 1;have e2:=aZ ht' 2;simp only [List.getD_cons_zero,List.getD_cons_succ] at e0 e1 e2;rw [e0,e1,e2];generalize bK t=r at hs;conv=>lhs;rhs;rw [ht']
  simp only [ByteArray.mk.injEq,List.toArray_inj,List.cons.injEq,and_true,Array.mk.injEq];rw [dh _ _ (by omega) (by omega),dh _ _ (by omega) (by omega),dh _ _ (by omega) (by omega)]
theorem EK (t:ByteArray) (ht:t.size=4):(b8 (bK t)=4∧Utf8.encode (bK t)=t) ↔
 (bq t 0 / 8=30∧bq t 1 / 64=2∧bq t 2 / 64=2∧bq t 3 / 64=2∧65536≤(bq t 0 % 8)*262144+(bq t 1 % 64)*4096+(bq t 2 % 64)*64+bq t 3 % 64∧(bq t 0 % 8)*262144+(bq t 1 % 64)*4096+(bq t 2 % 64)*64+bq t 3 % 64≤1114111):=by
 have hn:bK t=64*(64*(64*(bq t 0 - 240)+bq t 1 - 128)+bq t 2 - 128)+bq t 3 - 128:=by rw [bK,if_neg (by omega),ht];show 64*(64*(64*(bq t 0 - dX t.size)+bq t 1 - 128)+bq t 2 - 128)+bq t 3 - 128=_;rw [ht];rfl
 rw [←Cm _ _ _ _ (bB t 0) (bB t 1) (bB t 2) (bB t 3),←hn];refine and_congr_right fun hs =>?_
 rw [bO _ _ (by omega)] at hs;rw [dm _ hs.1,if_neg (by omega),if_neg (by omega),if_neg (by omega),Ad];obtain ⟨l,hl⟩ : ∃l,l=t.data.toList:=⟨_,rfl⟩
 have ht':=gV t;rw [←hl] at ht';have hll:l.length=4:=by rw [hl,Array.length_toList];exact ht
 match l,hll with
 | [a,b,c,d],_=>
  have e0:=aZ ht' 0;have e1:=aZ ht' 1;have e2:=aZ ht' 2;have e3:=aZ ht' 3;simp only [List.getD_cons_zero,List.getD_cons_succ] at e0 e1 e2 e3;rw [e0,e1,e2,e3];generalize bK t=r at hs;conv=>lhs;rhs;rw [ht']
  simp only [ByteArray.mk.injEq,List.toArray_inj,List.cons.injEq,and_true,Array.mk.injEq];rw [dh _ _ (by omega) (by omega),dh _ _ (by omega) (by omega),dh _ _ (by omega) (by omega),dh _ _ (by omega) (by omega)]
abbrev bR (s:ByteArray) (i n:Nat):ByteArray:=s.extract i (i+n)
theorem cN {s:ByteArray} {i n:Nat} (h:i+n≤s.size):(bR s i n).size=n:=by
 rw [ByteArray.size_extract];omega
theorem bc {s:ByteArray} {i n k:Nat} (h:i+n≤s.size) (hk:k<n):bq (bR s i n) k=bq s (i+k):=by
 have hk2:k<(bR s i n).size:=by rw [cN h];exact hk
 have hs:i+k<s.size:=by omega
 unfold bq;have e1:(bR s i n).data.getD k 0=s.data.getD (i+k) 0:=by
  rw [ByteArray.data_extract];simp only [Array.getD_eq_getD_getElem?,Array.getElem?_extract];rw [if_pos (by have:s.data.size=s.size:=rfl;omega)]
 rw [e1]
def A3 (s:ByteArray) (i n:Nat):Prop:=b8 (bK (bR s i n))=n∧Utf8.encode (bK (bR s i n))=bR s i n
theorem dQ (s:ByteArray) (i:Nat):((s.get! i).toNat:Int)=bq s i:=by
 unfold bq ByteArray.get!;congr 2
theorem qF {s:ByteArray} {i n:Nat} (hn:1≤n) (hn4:n≤4) (h:i+n≤s.size) (hok:A3 s i n):((Utf8.decode s i).1:Int)=bK (bR s i n)∧(Utf8.decode s i).2=n:=by
 have hsz:=cN h;have b0:=dQ s (i+0);have b1:=dQ s (i+1);have b2:=dQ s (i+2);have b3:=dQ s (i+3);have g0:=bB s (i+0);have g1:=bB s (i+1);have g2:=bB s (i+2);have g3:=bB s (i+3);simp only [Nat.add_zero] at b0 g0;have h4:n=1∨n=2∨n=3∨n=4:=by omega
 unfold A3 at hok;rcases h4 with rfl|rfl|rfl|rfl
 ·have hk:=(EH _ hsz).1 hok;have e0:=bc (k:=0) h (by omega);simp only [Nat.add_zero] at e0;have hnum:bK (bR s i 1)=bq (bR s i 1) 0:=by rw [bK,if_pos hsz]
  rw [hnum];rw [e0] at hk ⊢;unfold Utf8.decode;simp only [Nat.add_zero];rw [if_pos (by omega)];exact ⟨b0,rfl⟩
 ·have hk:=(EI _ hsz).1 hok;have e0:=bc (k:=0) h (by omega);simp only [Nat.add_zero] at e0;have e1:=bc (k:=1) h (by omega);have hnum:bK (bR s i 2)=64*(bq (bR s i 2) 0 - 192)+bq (bR s i 2) 1 - 128:=by rw [bK,if_neg (by omega),hsz];show 64*(bq (bR s i 2) 0 - dX (bR s i 2).size)+bq (bR s i 2) 1 - 128=_;rw [hsz];rfl
  rw [hnum];rw [e0,e1] at hk ⊢;unfold Utf8.decode;simp only [Nat.add_zero];rw [if_neg (by omega),if_pos (by simp;omega),if_pos (by omega)];exact ⟨by simp only;omega,rfl⟩
 ·have hk:=(EJ _ hsz).1 hok;have e0:=bc (k:=0) h (by omega);simp only [Nat.add_zero] at e0;have e1:=bc (k:=1) h (by omega);have e2:=bc (k:=2) h (by omega);have hnum:bK (bR s i 3)=64*(64*(bq (bR s i 3) 0 - 224)+bq (bR s i 3) 1 - 128)+bq (bR s i 3) 2 - 128:=by rw [bK,if_neg (by omega),hsz];show 64*(64*(bq (bR s i 3) 0 - dX (bR s i 3).size)+bq (bR s i 3) 1 - 128)+bq (bR s i 3) 2 - 128=_;rw [hsz];rfl
  rw [hnum];rw [e0,e1,e2] at hk ⊢;unfold Utf8.decode;simp only [Nat.add_zero];rw [if_neg (by omega),if_neg (by simp;omega),if_pos (by simp;omega),if_pos (by simp [Utf8.valid];omega)];exact ⟨by simp only;omega,rfl⟩
 ·have hk:=(EK _ hsz).1 hok;have e0:=bc (k:=0) h (by omega);simp only [Nat.add_zero] at e0;have e1:=bc (k:=1) h (by omega);have e2:=bc (k:=2) h (by omega);have e3:=bc (k:=3) h (by omega);have hnum:bK (bR s i 4)=64*(64*(64*(bq (bR s i 4) 0 - 240)+bq (bR s i 4) 1 - 128)+bq (bR s i 4) 2 - 128)+bq (bR s i 4) 3 - 128:=by rw [bK,if_neg (by omega),hsz];show 64*(64*(64*(bq (bR s i 4) 0 - dX (bR s i 4).size)+bq (bR s i 4) 1 - 128)+bq (bR s i 4) 2 - 128)+bq (bR s i 4) 3 - 128=_;rw [hsz];rfl
  rw [hnum];rw [e0,e1,e2,e3] at hk ⊢;unfold Utf8.decode;simp only [Nat.add_zero];rw [if_neg (by omega),if_neg (by simp;omega),if_neg (by simp;omega),if_pos (by simp;omega),if_pos (by simp [Utf8.valid];omega)];exact ⟨by simp only;omega,rfl⟩
theorem sc {s:ByteArray} {i:Nat} (h:Utf8.decode s i=(65533,1)):((Utf8.decode s i).1:Int)=65533∧((Utf8.decode s i).2:Int)=1:=by rw [h];exact ⟨rfl,rfl⟩
theorem qE {s:ByteArray} {i:Nat} (h:i<s.size) (hno : ∀n,1≤n→n≤4→i+n≤s.size → ¬A3 s i n):Utf8.decode s i=(65533,1):=by
 have b0:=dQ s (i+0);have b1:=dQ s (i+1);have b2:=dQ s (i+2);have b3:=dQ s (i+3);have g0:=bB s (i+0);simp only [Nat.add_zero] at b0 g0;have k1 : ¬bq s i<128:=by
  intro hk;refine hno 1 (by omega) (by omega) (by omega) ((EH _ (cN (by omega))).2 ?_);rw [bc (by omega) (by omega),Nat.add_zero];exact hk
 unfold Utf8.decode;simp only [Nat.add_zero];rw [if_neg (by omega)];split
 ·rename_i hc;simp at hc;rw [if_neg ?_]
  ·rfl
  ·intro hk;refine hno 2 (by omega) (by omega) (by omega) ((EI _ (cN (by omega))).2 ?_);rw [bc (by omega) (by omega),bc (by omega) (by omega),Nat.add_zero];omega
 ·split
  ·rename_i hc;simp at hc;rw [if_neg ?_]
   ·rfl
   ·intro hk;simp [Utf8.valid] at hk;refine hno 3 (by omega) (by omega) (by omega) ((EJ _ (cN (by omega))).2 ?_);rw [bc (by omega) (by omega),bc (by omega) (by omega),bc (by omega) (by omega),Nat.add_zero];omega
  ·split
   ·rename_i hc;simp at hc;rw [if_neg ?_]
    ·rfl
    ·intro hk;simp [Utf8.valid] at hk;refine hno 4 (by omega) (by omega) (by omega) ((EK _ (cN (by omega))).2 ?_);rw [bc (by omega) (by omega),bc (by omega) (by omega),bc (by omega) (by omega),bc (by omega) (by omega),Nat.add_zero];omega
   ·rfl
theorem xD (a b:ByteArray):(a.toList==b.toList)=true↔a=b:=by
 rw [beq_iff_eq,ByteArray.toList_eq,ByteArray.toList_eq];constructor
 ·intro h;cases a;cases b;simpa using h
 ·rintro rfl;rfl
theorem sn (a:List UInt8) (t:ByteArray):(⟨a.toArray⟩:ByteArray)++t=⟨(a++t.data.toList).toArray⟩:=by
 have h:((⟨a.toArray⟩:ByteArray)++t).data=(a++t.data.toList).toArray:=by
  rw [ByteArray.data_append];simp
 rw [←h]
def EP (s:ByteArray) (i:Nat) (n:Nat):St:=⟨[(0,sv s),(1,iv i),(4,.po 0 0),(5,iv n)],[(0,.cell [rv 0,iv 0])],1⟩
attribute [push_cast] EP.eq_def
set_option maxHeartbeats 4000000 in
theorem x7 (s:ByteArray) (i:Nat) (hs:s.size≤1000000000) (hi:i<s.size):aG Tryd.prog G0 20 [sv s,iv i] [] 0 (.d (.agg [.lit (.int .i32 (Utf8.decode s i).1),.lit (.int .i64 (Utf8.decode s i).2)])) []:=by
 refine vF ab [0,1,4,5,6,7,15,26,47] Tryd.func20 rfl Tryd.results20 Tryd.ntmps20 ?_;(repeat' (first|(with_reducible first|exact True.intro|refine vD ?_|refine vG ?_|refine vE ?_)|refine vR ?_|refine v3 ?_|with_reducible refine vN ?_|((with_reducible first|refine vB (fun h =>?_) (fun h =>?_)|refine vM (fun h =>?_) (fun h =>?_))<;>(first|(exfalso;omega)|skip))))
 refine vL (lv:=[0,1,4,5,6,7,15,26,47]) ab (EP s i) (fun n=>1≤n∧n≤5∧n≤s.size - i+1 ∧ ∀k,1≤k→k<n → ¬A3 s i k) (fun n=>5 - n) (1) ((a7.go [0,1,4,5] (by exact vS) rfl)) ?_ ?_
 ·exact ⟨by omega,by omega,by omega,fun k h1 h2=>by omega⟩
 rintro n ⟨h1,h2,h3,h4⟩;rcases Nat.lt_or_ge n 5 with hn5|hn5;rotate_left
 ·obtain ⟨hd1,hd2⟩:=sc (qE hi (fun k a b c=>h4 k a (by omega)));rw [hd1,hd2];(repeat' (first|(with_reducible first|exact True.intro|refine vD ?_|refine vG ?_|refine vE ?_)|with_reducible refine ah.out ?_|refine vR ?_|refine v3 ?_|with_reducible refine vN ?_|((with_reducible first|refine vB (fun h =>?_) (fun h =>?_)|refine vM (fun h =>?_) (fun h =>?_))<;>(first|(exfalso;omega)|skip))))
 rcases Nat.lt_or_ge (s.size - i) n with hnr|hnr
 ·obtain ⟨hd1,hd2⟩:=sc (qE hi (fun k a b c=>h4 k a (by omega)));rw [hd1,hd2];(repeat' (first|(with_reducible first|exact True.intro|refine vD ?_|refine vG ?_|refine vE ?_)|with_reducible refine ah.out ?_|refine vR ?_|refine v3 ?_|with_reducible refine vN ?_|((with_reducible first|refine vB (fun h =>?_) (fun h =>?_)|refine vM (fun h =>?_) (fun h =>?_))<;>(first|(exfalso;omega)|skip))))
 have hz:=cN (s:=s) (i:=i) (n:=n) (by omega);(repeat' (first|(with_reducible first|exact True.intro|refine vD ?_|refine vG ?_|refine vE ?_)|(with_reducible refine ap.d (ux (bR s i n) (by omega) (by omega)) (by kernel_rfl) rfl rfl ?_)|(with_reducible refine ap.d (na _) (by kernel_rfl) rfl rfl ?_)|(with_reducible refine ap.d (rl _ _ (by assumption) (by omega)) (by kernel_rfl) rfl rfl ?_)|with_reducible refine ah.out ?_|refine vR ?_|refine v3 ?_|with_reducible refine vN ?_|((with_reducible first|refine vB (fun h =>?_) (fun h =>?_)|refine vM (fun h =>?_) (fun h =>?_))<;>(first|(exfalso;omega)|skip))))
 ·rename_i hsz;rw [xD] at h;obtain ⟨d1,d2⟩:=qF h1 (by omega) (by omega) (show A3 s i n from ⟨hsz,h⟩);rw [d1,d2]
 ·rw [←Bool.not_eq_true,xD] at h;refine bA.go (n+1) [0,1,4,5] (by exact vS) ?_ ?_
  ·show 5 - (n+1)<5 - n;omega
  ·refine ⟨by omega,by omega,by omega,fun k a b =>?_⟩;rcases Nat.lt_or_ge k n with hk|hk
   ·exact h4 k a hk
   ·have:k=n:=by omega
    subst this;exact fun hok=>h hok.2
 ·refine bA.go (n+1) [0,1,4,5] (by exact vS) ?_ ?_
  ·show 5 - (n+1)<5 - n;omega
  ·refine ⟨by omega,by omega,by omega,fun k a b =>?_⟩;rcases Nat.lt_or_ge k n with hk|hk
   ·exact h4 k a hk
   ·have:k=n:=by omega
    subst this;exact fun hok=>h hok.1
def EM (s:ByteArray) (x:Nat × List Int):St:=⟨[(0,sv s),(3,.so 0 1 0 x.2.length),(4,iv x.1)],[(0,.row 1 (x.2.map Cg))],1⟩
attribute [push_cast] EM.eq_def
theorem dq (s:ByteArray) (hs:s.size≤1000000000):aG Tryd.prog G0 5 [sv s] [] 0 (md (ae s 0)) []:=by
 refine vF ab [0,2,3,4,5,9] Tryd.func5 rfl Tryd.results5 Tryd.ntmps5 ?_;(repeat' (first|(with_reducible first|exact True.intro|refine vD ?_|refine vG ?_|refine vE ?_)|refine vR ?_|refine v3 ?_|with_reducible refine vN ?_|((with_reducible first|refine vB (fun h =>?_) (fun h =>?_)|refine vM (fun h =>?_) (fun h =>?_))<;>(first|(exfalso;omega)|skip))))
 refine vL (lv:=[0,2,3,4,5,9]) ab (EM s) (fun x=>x.2++ae s x.1=ae s 0∧x.2.length≤x.1∧x.1≤s.size+4) (fun x=>s.size - x.1) ((0,[])) (a7.nil 3 1 (a7.go [0,3,4] (by exact vS) rfl)) ?_ ?_
 ·simp
 rintro ⟨i,es⟩ ⟨h1,h2,h3⟩;simp only at h1 h2 h3;have hp:=fU s i;have hq:=nD s i;rcases Nat.lt_or_ge i s.size with hi|hi
 ·rw [dJ hi] at h1;(repeat' (first|(with_reducible first|exact True.intro|refine vD ?_|refine vG ?_|refine vE ?_)|with_reducible refine vC (x7 s i hs hi) ?_|refine vR ?_|refine v3 ?_|with_reducible refine vN ?_|((with_reducible first|refine vB (fun h =>?_) (fun h =>?_)|refine vM (fun h =>?_) (fun h =>?_))<;>(first|(exfalso;omega)|skip))))
  rw [sQ];refine bA.go ((i+(Utf8.decode s i).2,es++[((Utf8.decode s i).1:Int)])) [0,3,4] (by exact vS) ?_ ?_
  ·show s.size - (i+(Utf8.decode s i).2)<s.size - i;omega
  ·exact ⟨by rw [←h1];simp,by simp;omega,by simp only;omega⟩
 ·rw [b7 (by omega),List.append_nil] at h1;(repeat' (first|(with_reducible first|exact True.intro|refine vD ?_|refine vG ?_|refine vE ?_)|refine vR ?_|refine v3 ?_|with_reducible refine vN ?_|((with_reducible first|refine vB (fun h =>?_) (fun h =>?_)|refine vM (fun h =>?_) (fun h =>?_))<;>(first|(exfalso;omega)|skip))))
  refine ah.frz 0 (ah.out ?_);(repeat' (first|(with_reducible first|exact True.intro|refine vD ?_|refine vG ?_|refine vE ?_)|refine vR ?_|refine v3 ?_|with_reducible refine vN ?_|((with_reducible first|refine vB (fun h =>?_) (fun h =>?_)|refine vM (fun h =>?_) (fun h =>?_))<;>(first|(exfalso;omega)|skip))))
  rw [h1,List.take_of_length_le (by simp)]
def C1 (l:List Int) (i:Nat):St:=⟨[(3,sv ⟨(aD (l.take i)).toArray⟩),(7,md l),(8,iv l.length),(9,iv i)],[],0⟩
attribute [push_cast] C1.eq_def
theorem dU (r:Int):(1≤b8 r↔Utf8.valid r=true)∧(b8 r=0↔Utf8.valid r=false):=by
 have h:Utf8.valid r=true↔(0≤r∧r≤1114111 ∧ ¬(55296≤r∧r≤57343)):=by simp [Utf8.valid];omega
 have h2:Utf8.valid r=false ↔ ¬(0≤r∧r≤1114111 ∧ ¬(55296≤r∧r≤57343)):=by rw [←h];simp
 rw [h,h2];unfold b8;repeat' split
 all_goals omega
theorem kK (l:List Int) (hl:l.length≤1000000000):aG Tryd.prog G0 17 [md l] [] 0 (sv ⟨(aD l).toArray⟩) []:=by
 refine vF ab [0,2,3,5,6,7,8,9,10,16] Tryd.func17 rfl Tryd.results17 Tryd.ntmps17 ?_;(repeat' (first|(with_reducible first|exact True.intro|refine vD ?_|refine vG ?_|refine vE ?_)|refine vR ?_|refine v3 ?_|with_reducible refine vN ?_|((with_reducible first|refine vB (fun h =>?_) (fun h =>?_)|refine vM (fun h =>?_) (fun h =>?_))<;>(first|(exfalso;omega)|skip))))
 refine vL (lv:=[0,2,3,5,6,7,8,9,10,16]) ab (C1 l) (fun i=>i≤l.length) (fun i=>l.length - i) (0) ((a7.go [3,7,8,9] (by exact vS) rfl)) ?_ ?_
 ·exact Nat.zero_le _
 intro i hi;rcases Nat.lt_or_ge i l.length with hil|hil
 ·obtain ⟨r,hr⟩ : ∃r,l[i]? = some r:=⟨_,List.getElem?_eq_getElem hil⟩
  obtain ⟨v1,v2⟩:=dU r;have hsz:b8 r=0∨1≤b8 r:=by unfold b8;repeat' split<;>omega
  have hel:=dx (l.take i);have hb:b8 65533=3:=by decide
  have hz:=encode_size_le r;have hz2:(Utf8.encode 65533).size≤4:=encode_size_le _;have hz3:({ data:=(aD (l.take i)).toArray } : ByteArray).size=(aD (l.take i)).length:=by simp [ByteArray.size]
  rw [List.length_take,Nat.min_eq_left hi] at hel;(repeat' (first|(with_reducible first|exact True.intro|refine vD ?_|refine vG ?_|refine vE ?_)|refine vR ?_|refine v3 ?_|with_reducible refine vN ?_|((with_reducible first|refine vB (fun h =>?_) (fun h =>?_)|refine vM (fun h =>?_) (fun h =>?_))<;>(first|(exfalso;omega)|skip))))
  refine cj.is i r (by omega) hr ?_;(repeat' (first|(with_reducible first|exact True.intro|refine vD ?_|refine vG ?_|refine vE ?_)|with_reducible refine vC (na _) ?_|with_reducible refine vC (rl 65533 3 hb (by omega)) ?_|with_reducible refine vC (rl r _ rfl (by omega)) ?_|refine vR ?_|refine v3 ?_|with_reducible refine vN ?_|((with_reducible first|refine vB (fun h =>?_) (fun h =>?_)|refine vM (fun h =>?_) (fun h =>?_))<;>(first|(exfalso;omega)|skip))))
  ·have hv:=v2.1 h;rw [sn];refine bA.go (i+1) [3,7,8,9] (by unfold C1;rw [aX hr,fV,gB r hv];exact vS) ?_ ?_
   ·show l.length - (i+1)<l.length - i;omega
   ·show i+1≤l.length;omega
  ·rw [sn];refine bA.go (i+1) [3,7,8,9] (by unfold C1;rw [aX hr,fV];exact vS) ?_ ?_
   ·show l.length - (i+1)<l.length - i;omega
   ·show i+1≤l.length;omega
 ·skip;(repeat' (first|(with_reducible first|exact True.intro|refine vD ?_|refine vG ?_|refine vE ?_)|with_reducible refine ah.out ?_|refine vR ?_|refine v3 ?_|with_reducible refine vN ?_|((with_reducible first|refine vB (fun h =>?_) (fun h =>?_)|refine vM (fun h =>?_) (fun h =>?_))<;>(first|(exfalso;omega)|skip))))
  rw [List.take_of_length_le hil]
theorem xL {r:Int} (hv:Utf8.valid r=true):0≤r∧r≤1114111 ∧ ¬(55296≤r∧r≤57343):=by
 simp [Utf8.valid] at hv;omega
theorem sI {r:Int} (hv:Utf8.valid r=true):bK (Utf8.encode r)=r∧b8 r=(Utf8.encode r).size:=by
 have h:=xL hv;have eb:=dm r h;by_cases h1:r<128
 ·rw [if_pos h1] at eb;have b0:=aZ eb 0;simp only [List.getD_cons_zero] at b0;have sz:(Utf8.encode r).size=1:=by rw [eb];rfl
  refine ⟨?_,?_⟩
  ·rw [bK,if_pos sz,b0];simp;omega
  ·rw [sz,(bO r 1 (by omega)).2 (by omega)];rfl
 ·rw [if_neg h1] at eb;by_cases h2:r<2048
  ·rw [if_pos h2] at eb;have b0:=aZ eb 0;have b1:=aZ eb 1;simp only [List.getD_cons_zero,List.getD_cons_succ] at b0 b1;have sz:(Utf8.encode r).size=2:=by rw [eb];rfl
   refine ⟨?_,?_⟩
   ·rw [bK,if_neg (by omega),sz];show 64*(bq _ 0 - dX (Utf8.encode r).size)+bq _ 1 - 128=r;rw [sz,b0,b1];show 64*((UInt8.ofNat (192+r / 64).toNat).toNat - (192:Int))+(UInt8.ofNat (128+r % 64).toNat).toNat - 128=r;simp;omega
   ·rw [sz,(bO r 2 (by omega)).2 (by omega)];rfl
  ·rw [if_neg h2] at eb;by_cases h3:r<65536
   ·rw [if_pos h3] at eb;have b0:=aZ eb 0;have b1:=aZ eb 1;have b2:=aZ eb 2;simp only [List.getD_cons_zero,List.getD_cons_succ] at b0 b1 b2;have sz:(Utf8.encode r).size=3:=by rw [eb];rfl
    refine ⟨?_,?_⟩
    ·rw [bK,if_neg (by omega),sz];show 64*(64*(bq _ 0 - dX (Utf8.encode r).size)+bq _ 1 - 128)+bq _ 2 - 128=r;rw [sz,b0,b1,b2,show dX 3=224 from rfl];simp;omega
    ·rw [sz,(bO r 3 (by omega)).2 (by omega)];rfl
   ·rw [if_neg h3] at eb;have b0:=aZ eb 0;have b1:=aZ eb 1;have b2:=aZ eb 2;have b3:=aZ eb 3;simp only [List.getD_cons_zero,List.getD_cons_succ] at b0 b1 b2 b3;have sz:(Utf8.encode r).size=4:=by rw [eb];rfl
    refine ⟨?_,?_⟩
    ·rw [bK,if_neg (by omega),sz];show 64*(64*(64*(bq _ 0 - dX (Utf8.encode r).size)+bq _ 1 - 128)+bq _ 2 - 128)+bq _ 3 - 128=r;rw [sz,b0,b1,b2,b3,show dX 4=240 from rfl];simp;omega
    ·rw [sz,(bO r 4 (by omega)).2 (by omega)];rfl
def fQ (l:List Int):ByteArray:=⟨(aD l).toArray⟩
def CY (l:List Int):Prop:= ∀r∈l,Utf8.valid r=true
theorem da (l:List Int):(fQ l).size=(aD l).length:=by simp [fQ,ByteArray.size]
theorem ky (r:Int):aD [r]=(Utf8.encode r).data.toList:=by simp [aD]
theorem ba (a b:List Int):aD (a++b)=aD a++aD b:=by simp [aD]
theorem yr (a b:List Int) (r:Int):bR (fQ (a++r::b)) (aD a).length (Utf8.encode r).size=Utf8.encode r:=by
 have e:aD (a++r::b)=aD a++((Utf8.encode r).data.toList++aD b):=by
  rw [ba,show r::b=[r]++b from rfl,ba,ky]
 have hs:(Utf8.encode r).data.toList.length=(Utf8.encode r).size:=by rw [Array.length_toList];rfl
 apply ByteArray.ext;apply Array.ext';rw [bR,ByteArray.data_extract];simp only [fQ,e,Array.toList_extract,List.extract_eq_take_drop];rw [List.drop_left,show (aD a).length+(Utf8.encode r).size - (aD a).length=(Utf8.encode r).data.toList.length by omega,List.take_left]
theorem yw (a b:List Int) (r:Int) (hv:Utf8.valid r=true):((Utf8.decode (fQ (a++r::b)) (aD a).length).1:Int)=r∧(Utf8.decode (fQ (a++r::b)) (aD a).length).2=(Utf8.encode r).size:=by
 obtain ⟨h1,h2⟩:=sI hv;have h3:=(dU r).1.2 hv;have h4:b8 r≤4:=by unfold b8;repeat' split<;>omega
 have hc:=yr a b r;have hle:(aD a).length+(Utf8.encode r).size≤(fQ (a++r::b)).size:=by
  rw [da,ba,List.length_append,show r::b=[r]++b from rfl,ba,ky,List.length_append];rw [Array.length_toList];exact Nat.add_le_add_left (Nat.le_add_right _ _) _
 have:=qF (s:=fQ (a++r::b)) (i:=(aD a).length) (n:=(Utf8.encode r).size) (by omega) (by omega) hle (by
  unfold A3;rw [hc,h1];exact ⟨h2,rfl⟩)
 rw [hc,h1] at this;exact this
theorem tP (s:ByteArray) (i:Nat) (h:i<s.size):Utf8.valid ((Utf8.decode s i).1:Int)=true:=by
 by_cases hex : ∃n,1≤n∧n≤4∧i+n≤s.size∧A3 s i n
 ·obtain ⟨n,h1,h4,hle,hok⟩:=hex;rw [(qF h1 h4 hle hok).1];refine (dU _).1.1 ?_;rw [hok.1];omega
 ·rw [qE h (fun n h1 h4 hle hok=>hex ⟨n,h1,h4,hle,hok⟩)];decide
theorem j2 (s:ByteArray) : ∀(k i:Nat),s.size - i≤k→CY (ae s i)
 | 0,i,h=>by
  rw [b7 (by omega)];intro r hr;cases hr
 | k+1,i,h=>by
  by_cases hi:i<s.size
  ·rw [dJ hi];have:=fU s i;intro r hr;rcases List.mem_cons.1 hr with rfl|hr
   ·exact tP s i hi
   ·exact j2 s k _ (by omega) r hr
  ·rw [b7 hi];intro r hr;cases hr
end Go.Proofs.YtkhonlnajdfhfaaDoor
