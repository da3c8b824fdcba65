/- What the theorem leans on, part 11. -/
import Derived.Laws.Cover4
import Derived.Test.YtkhonlnajdfhfaaGreatDoorLtYPAG
import Derived.Test.YtkhonlnajdfhfaaGreatDoorLtYPAJ
set_option linter.unusedSimpArgs false
set_option linter.unusedVariables false
set_option maxRecDepth 8000
namespace Go.Proofs.YtkhonlnajdfhfaaGreatDoor
abbrev rv (r:Int):V:= .d (.lit (.int .i32 r))
abbrev ruL (l:List Int):V:= .d (.sd 1 false (l.map ruD))
abbrev sv (s:ByteArray):V:= .d (.lit (.string s))
theorem rfSize_fn (r:Int):OFn Tryz.prog G0 63 [rv r] [] 0 (iv (sizeR r)) []:=by
 refine vF mixed [0,2,16,18,20,22] Tryz.func63 rfl Tryz.results63 Tryz.ntmps63 ?_
 (repeat' (first|(with_reducible first|exact True.intro|refine vD ?_|refine vG ?_|refine vE ?_)|with_reducible refine DoneW.out ?_|refine vR ?_|refine v3 ?_|with_reducible refine vN ?_|((with_reducible first|refine vB (fun h =>?_) (fun h =>?_)|refine vM (fun h =>?_) (fun h =>?_))<;>(first|(exfalso;omega)|skip))))
 all_goals
  congr 3
  unfold sizeR
  repeat' split
  all_goals first|rfl|omega
theorem right_fn (r:Int):OFn Tryz.prog G0 103 [rv r] [] 0 (bv (Utf8.valid r)) []:=by
 refine vF mixed [0,2] Tryz.func103 rfl Tryz.results103 Tryz.ntmps103 ?_
 (repeat' (first|(with_reducible first|exact True.intro|refine vD ?_|refine vG ?_|refine vE ?_)|with_reducible refine DoneW.out ?_|refine vR ?_|refine v3 ?_|with_reducible refine vN ?_|((with_reducible first|refine vB (fun h =>?_) (fun h =>?_)|refine vM (fun h =>?_) (fun h =>?_))<;>(first|(exfalso;omega)|skip))))
 all_goals
  congr 1
  rw [Bool.eq_iff_iff]
  simp [Utf8.valid]
  try omega
def cntS (s:ByteArray) (x:Nat × Int):St:=⟨[(3,iv x.2),(5,.it 0)],[(0,.iter s x.1)],1⟩
attribute [push_cast] cntS.eq_def
theorem Count_fn (s:ByteArray) (hs:s.size≤1000000000):OFn Tryz.prog G0 18 [sv s] [] 0 (iv (runesAt s 0).length) []:=by
 refine vF mixed [0,2,3,5,7] Tryz.func18 rfl Tryz.results18 Tryz.ntmps18 ?_
 (repeat' (first|(with_reducible first|exact True.intro|refine vD ?_|refine vG ?_|refine vE ?_)|refine vR ?_|refine v3 ?_|with_reducible refine vN ?_|((with_reducible first|refine vB (fun h =>?_) (fun h =>?_)|refine vM (fun h =>?_) (fun h =>?_))<;>(first|(exfalso;omega)|skip))))
 refine vL (lv:=[0,2,3,5,7]) mixed (cntS s) (fun x=>0≤x.2∧x.2≤x.1∧x.2+(runesAt s x.1).length=(runesAt s 0).length∧x.1≤s.size+4) (fun x=>s.size - x.1) ((0,0)) ((GhW.go [3,5] (by exact vS) rfl)) ?_ ?_
 ·simp
 rintro ⟨i,n⟩ ⟨h0,h1,h2,h3⟩
 simp only at h0 h1 h2 h3
 have hp:=dec_pos s i
 have hq:=dec_two s i
 (repeat' (first|(with_reducible first|exact True.intro|refine vD ?_|refine vG ?_|refine vE ?_)|with_reducible refine DoneW.out ?_|refine vR ?_|refine v3 ?_|with_reducible refine vN ?_|((with_reducible first|refine vB (fun h =>?_) (fun h =>?_)|refine vM (fun h =>?_) (fun h =>?_))<;>(first|(exfalso;omega)|skip))))
 ·rw [runesAt_in h,List.length_cons] at h2
  refine AgW.go ((i+(Utf8.decode s i).2,n+1)) [3,5] (by exact vS) ?_ ?_
  ·show s.size - (i+(Utf8.decode s i).2)<s.size - i
   omega
  ·exact ⟨by simp only;omega,by simp only;omega,by simp only;omega,by simp only;omega⟩
 ·rw [runesAt_out h] at h2
  simp at h2
  rw [h2]
def decS (s:ByteArray) (x:Nat × List Int):St:=⟨[(3,.so 0 1 0 x.2.length),(7,.it 1)],[(0,.row 1 (x.2.map ruD)),(1,.iter s x.1)],2⟩
attribute [push_cast] decS.eq_def
theorem snoc_ru (es:List Int) (r:Int):es.map ruD++[D.lit (.int .i32 r)]=(es++[r]).map ruD:=by rw [List.map_append];rfl
theorem Decode_fn (s:ByteArray) (hs:s.size≤1000000000):OFn Tryz.prog G0 35 [sv s] [] 0 (ruL (runesAt s 0)) []:=by
 refine vF mixed [0,2,3,5,7,8,9] Tryz.func35 rfl Tryz.results35 Tryz.ntmps35 ?_
 (repeat' (first|(with_reducible first|exact True.intro|refine vD ?_|refine vG ?_|refine vE ?_)|refine vR ?_|refine v3 ?_|with_reducible refine vN ?_|((with_reducible first|refine vB (fun h =>?_) (fun h =>?_)|refine vM (fun h =>?_) (fun h =>?_))<;>(first|(exfalso;omega)|skip))))
 refine vL (lv:=[0,2,3,5,7,8,9]) mixed (decS s) (fun x=>x.2++runesAt s x.1=runesAt s 0∧x.2.length≤x.1∧x.1≤s.size+4) (fun x=>s.size - x.1) ((0,[])) (GhW.nil 3 1 (GhW.go [3,7] (by exact vS) rfl)) ?_ ?_
 ·simp
 rintro ⟨i,es⟩ ⟨h1,h2,h3⟩
 simp only at h1 h2 h3
 have hp:=dec_pos s i
 have hq:=dec_two s i
 (repeat' (first|(with_reducible first|exact True.intro|refine vD ?_|refine vG ?_|refine vE ?_)|refine vR ?_|refine v3 ?_|with_reducible refine vN ?_|((with_reducible first|refine vB (fun h =>?_) (fun h =>?_)|refine vM (fun h =>?_) (fun h =>?_))<;>(first|(exfalso;omega)|skip))))
 ·rw [runesAt_in h] at h1
  rw [snoc_ru]
  refine AgW.go ((i+(Utf8.decode s i).2,es++[((Utf8.decode s i).1:Int)])) [3,7] (by exact vS) ?_ ?_
  ·show s.size - (i+(Utf8.decode s i).2)<s.size - i
   omega
  ·exact ⟨by rw [←h1];simp,by simp;omega,by simp only;omega⟩
 ·rw [runesAt_out h,List.append_nil] at h1
  refine DoneW.frz 0 (DoneW.out ?_)
  (repeat' (first|(with_reducible first|exact True.intro|refine vD ?_|refine vG ?_|refine vE ?_)|refine vR ?_|refine v3 ?_|with_reducible refine vN ?_|((with_reducible first|refine vB (fun h =>?_) (fun h =>?_)|refine vM (fun h =>?_) (fun h =>?_))<;>(first|(exfalso;omega)|skip))))
  rw [h1,List.take_of_length_le (by simp)]
abbrev byD (b:UInt8):D:= .lit (.int .u8 b.toNat)
theorem byteOf_by (b:UInt8):byteOf (byD b)=b:=by simp [byteOf,byteN]
theorem bytes_map (l:List UInt8):(l.map byD).map byteOf=l:=by
 rw [List.map_map]
 have:(byteOf ∘ byD)=id:=by funext b;exact byteOf_by b
 rw [this,List.map_id]
theorem isByte_map (l:List UInt8) : ∀y∈l.map byD,isByte y:=by
 intro y hy
 obtain ⟨b,_,rfl⟩:=List.mem_map.1 hy
 exact ⟨_,rfl⟩
def encL (l:List Int):List UInt8:=l.flatMap fun r=>(Utf8.encode r).data.toList
theorem encL_snoc (l:List Int) (r:Int):encL (l++[r])=encL l++(Utf8.encode r).data.toList:=by
 unfold encL
 rw [List.flatMap_append,List.flatMap_cons,List.flatMap_nil,List.append_nil]
theorem snoc_by (es t:List UInt8):es.map byD++t.map (fun b=>D.lit (.int .u8 b.toNat))=(es++t).map byD:=by rw [List.map_append]
theorem encL_len (l:List Int):(encL l).length≤4*l.length:=by
 induction l with
 | nil=>simp [encL]
 | cons r l ih=>
  have:=encode_size_le r
  have e:(Utf8.encode r).data.toList.length=(Utf8.encode r).size:=by rw [Array.length_toList];rfl
  simp only [encL,List.flatMap_cons,List.length_append,List.length_cons] at ih ⊢
  omega
theorem encode_bad (r:Int) (h:Utf8.valid r=false):Utf8.encode r=Utf8.encode 65533:=by
 unfold Utf8.encode
 rw [h]
 rfl
def enS (l:List Int) (x:Nat × List UInt8):St:=⟨[(3,.so 0 1 0 x.2.length),(6,ruL l),(7,iv l.length),(8,iv x.1)],[(0,.row 1 (x.2.map byD))],1⟩
attribute [push_cast] enS.eq_def
theorem Encode_fn (l:List Int) (hl:l.length≤1000000000):OFn Tryz.prog G0 70 [ruL l] [] 0 (sv ⟨(encL l).toArray⟩) []:=by
 refine vF mixed [0,2,3,5,6,7,8,9,14] Tryz.func70 rfl Tryz.results70 Tryz.ntmps70 ?_
 (repeat' (first|(with_reducible first|exact True.intro|refine vD ?_|refine vG ?_|refine vE ?_)|refine vR ?_|refine v3 ?_|with_reducible refine vN ?_|((with_reducible first|refine vB (fun h =>?_) (fun h =>?_)|refine vM (fun h =>?_) (fun h =>?_))<;>(first|(exfalso;omega)|skip))))
 refine vL (lv:=[0,2,3,5,6,7,8,9,14]) mixed (enS l) (fun x=>x.1≤l.length∧x.2=encL (l.take x.1)) (fun x=>l.length - x.1) ((0,[])) (GhW.nil 3 1 (GhW.go [3,6,7,8] (by exact vS) rfl)) ?_ ?_
 ·exact ⟨Nat.zero_le _,rfl⟩
 rintro ⟨i,es⟩ ⟨hi,he⟩
 simp only at hi he
 have hel:es.length≤4*i:=by
  have:=encL_len (l.take i)
  rw [List.length_take] at this
  rw [he]
  omega
 rcases Nat.lt_or_ge i l.length with hil|hil
 ·obtain ⟨r,hr⟩ : ∃r,l[i]? = some r:=⟨_,List.getElem?_eq_getElem hil⟩
  have hz:=encode_size_le r
  have hz2:(Utf8.encode 65533).size≤4:=encode_size_le _
  (repeat' (first|(with_reducible first|exact True.intro|refine vD ?_|refine vG ?_|refine vE ?_)|refine vR ?_|refine v3 ?_|with_reducible refine vN ?_|((with_reducible first|refine vB (fun h =>?_) (fun h =>?_)|refine vM (fun h =>?_) (fun h =>?_))<;>(first|(exfalso;omega)|skip))))
  refine elX.is i r (by omega) hr ?_
  (repeat' (first|(with_reducible first|exact True.intro|refine vD ?_|refine vG ?_|refine vE ?_)|with_reducible refine vC (right_fn _) ?_|refine vR ?_|refine v3 ?_|with_reducible refine vN ?_|((with_reducible first|refine vB (fun h =>?_) (fun h =>?_)|refine vM (fun h =>?_) (fun h =>?_))<;>(first|(exfalso;omega)|skip))))
  ·have hv:Utf8.valid r=false:=by simpa using h
   rw [snoc_by]
   refine AgW.go ((i+1,es++(Utf8.encode 65533).data.toList)) [3,6,7,8] (by exact vS) ?_ ?_
   ·show l.length - (i+1)<l.length - i
    omega
   ·exact ⟨by simp only;omega,by rw [take_snoc' hr,encL_snoc,←he,encode_bad r hv]⟩
  ·rw [snoc_by]
   refine AgW.go ((i+1,es++(Utf8.encode r).data.toList)) [3,6,7,8] (by exact vS) ?_ ?_
   ·show l.length - (i+1)<l.length - i
    omega
   ·exact ⟨by simp only;omega,by rw [take_snoc' hr,encL_snoc,←he]⟩
 ·skip
  (repeat' (first|(with_reducible first|exact True.intro|refine vD ?_|refine vG ?_|refine vE ?_)|with_reducible refine DoneW.out ?_|refine vR ?_|refine v3 ?_|with_reducible refine vN ?_|((with_reducible first|refine vB (fun h =>?_) (fun h =>?_)|refine vM (fun h =>?_) (fun h =>?_))<;>(first|(exfalso;omega)|skip))))
  rw [List.take_of_length_le (by simp)]
  refine ndW.intro' (isByte_map es) ?_
  rw [bytes_map,he,List.take_of_length_le hil]
  refine (?_:letW _ _)
  (repeat' (first|(with_reducible first|exact True.intro|refine vD ?_|refine vG ?_|refine vE ?_)|with_reducible refine DoneW.out ?_|refine vR ?_|refine v3 ?_|with_reducible refine vN ?_|((with_reducible first|refine vB (fun h =>?_) (fun h =>?_)|refine vM (fun h =>?_) (fun h =>?_))<;>(first|(exfalso;omega)|skip))))
theorem enc_bytes (r:Int) (h:0≤r∧r≤1114111 ∧ ¬(55296≤r∧r≤57343)):Utf8.encode r=⟨(if r<128 then [UInt8.ofNat r.toNat] else if r<2048 then [UInt8.ofNat (192+r / 64).toNat,UInt8.ofNat (128+r % 64).toNat]
 else if r<65536 then [UInt8.ofNat (224+r / 4096).toNat,UInt8.ofNat (128+r / 64 % 64).toNat,UInt8.ofNat (128+r % 64).toNat]
 else [UInt8.ofNat (240+r / 262144).toNat,UInt8.ofNat (128+r / 4096 % 64).toNat,UInt8.ofNat (128+r / 64 % 64).toNat,UInt8.ofNat (128+r % 64).toNat]).toArray⟩:=by
 have hv:Utf8.valid r=true:=by simp [Utf8.valid];omega
 obtain ⟨k,rfl⟩ : ∃k:Nat,r=k:=⟨r.toNat,by omega⟩
 unfold Utf8.encode
 rw [hv]
 simp only [if_true,Int.toNat_natCast]
 have e1:((192:Int)+(k:Int) / 64).toNat=192+k / 64:=by omega
 have e2:((128:Int)+(k:Int) % 64).toNat=128+k % 64:=by omega
 have e3:((224:Int)+(k:Int) / 4096).toNat=224+k / 4096:=by omega
 have e4:((128:Int)+(k:Int) / 64 % 64).toNat=128+k / 64 % 64:=by omega
 have e5:((240:Int)+(k:Int) / 262144).toNat=240+k / 262144:=by omega
 have e6:((128:Int)+(k:Int) / 4096 % 64).toNat=128+k / 4096 % 64:=by
  obtain ⟨q,hq⟩ : ∃q:Nat,q=k / 4096:=⟨_,rfl⟩
  have:(k:Int) / 4096=(q:Int):=by omega
  rw [this,←hq]
  omega
 rw [e1,e2,e3,e4,e5,e6]
 by_cases h1:k<128
 ·have g1:(k:Int)<128:=by omega
  simp only [if_pos h1,if_pos g1]
 ·have g1 : ¬(k:Int)<128:=by omega
  by_cases h2:k<2048
  ·have g2:(k:Int)<2048:=by omega
   simp only [if_neg h1,if_neg g1,if_pos h2,if_pos g2]
  ·have g2 : ¬(k:Int)<2048:=by omega
   by_cases h3:k<65536
   ·have g3:(k:Int)<65536:=by omega
    simp only [if_neg h1,if_neg g1,if_neg h2,if_neg g2,if_pos h3,if_pos g3]
   ·have g3 : ¬(k:Int)<65536:=by omega
    simp only [if_neg h1,if_neg g1,if_neg h2,if_neg g2,if_neg h3,if_neg g3]
set_option maxHeartbeats 1000000 in
theorem one_fn (r n:Int) (h:sizeR r=n) (hn:1≤n):OFn Tryz.prog G0 64 [rv r,iv n] [] 0 (sv (Utf8.encode r)) []:=by
 rw [sizeR_is r n hn] at h
 rw [enc_bytes r h.1]
 refine vF mixed [0,1,4,5,6,12,24] Tryz.func64 rfl Tryz.results64 Tryz.ntmps64 ?_
 (repeat' (first|(with_reducible first|exact True.intro|refine vD ?_|refine vG ?_|refine vE ?_)|with_reducible refine DoneW.out ?_|refine vR ?_|refine v3 ?_|with_reducible refine vN ?_|((with_reducible first|refine vB (fun h =>?_) (fun h =>?_)|refine vM (fun h =>?_) (fun h =>?_))<;>(first|(exfalso;omega)|skip))))
 ·rw [if_pos (by omega)]
 ·rw [if_neg (by omega),if_pos (by omega)]
 ·rw [if_neg (by omega),if_neg (by omega),if_pos (by omega)]
 ·rw [if_neg (by omega),if_neg (by omega),if_neg (by omega)]
def bAt (t:ByteArray) (i:Nat):Int:=(t.data.getD i 0).toNat
theorem bAt_in (t:ByteArray) (i:Nat):0≤bAt t i∧bAt t i<256:=by
 have:=(t.data.getD i 0).toNat_lt
 unfold bAt
 omega
theorem bAt_eq (t:ByteArray) (i:Nat):((t.data.getD i 0).toNat:Int)=bAt t i:=rfl
attribute [push_cast] bAt_eq
def offT (n:Nat):Int:=if n=2 then 192 else if n=3 then 224 else 240
def partT (t:ByteArray):Nat→Int
 | 0=>0
 | 1=>bAt t 0 - offT t.size
 | i+2=>64*partT t (i+1)+bAt t (i+1) - 128
def numT (t:ByteArray):Int:=if t.size=1 then bAt t 0 else partT t t.size
def nbS (t:ByteArray) (i:Nat):St:=⟨[(0,sv t),(3,rv (partT t i)),(4,iv i)],[],0⟩
attribute [push_cast] nbS.eq_def
theorem partT_in (t:ByteArray) (i:Nat) (h:1≤i) (h4:i≤4):(i=1 ∧ -240≤partT t i∧partT t i≤300)∨(i=2 ∧ -16000≤partT t i∧partT t i≤20000)∨(i=3 ∧ -1100000≤partT t i∧partT t i≤1300000)∨(i=4 ∧ -71000000≤partT t i∧partT t i≤84000000):=by
 have b0:=bAt_in t 0
 have b1:=bAt_in t 1
 have b2:=bAt_in t 2
 have b3:=bAt_in t 3
 have ho:192≤offT t.size∧offT t.size≤240:=by unfold offT;repeat' split<;>omega
 have h4':i=1∨i=2∨i=3∨i=4:=by omega
 have e1:partT t 1=bAt t 0 - offT t.size:=rfl
 have e2:partT t 2=64*partT t 1+bAt t 1 - 128:=rfl
 have e3:partT t 3=64*partT t 2+bAt t 2 - 128:=rfl
 have e4:partT t 4=64*partT t 3+bAt t 3 - 128:=rfl
 rcases h4' with rfl|rfl|rfl|rfl
 ·left;omega
 ·right;left;omega
 ·right;right;left;omega
 ·right;right;right;omega
theorem partT_succ (t:ByteArray) (i:Nat) (h:1≤i):partT t (i+1)=64*partT t i+bAt t i - 128:=by
 obtain ⟨k,rfl⟩ : ∃k,i=k+1:=⟨i - 1,by omega⟩
 rfl
set_option maxHeartbeats 1000000 in
theorem number_fn (t:ByteArray) (h0:0<t.size) (h4:t.size≤4):OFn Tryz.prog G0 62 [sv t] [] 0 (rv (numT t)) []:=by
 have b0:=bAt_in t 0
 refine vF mixed [0,2,3,4,9,12,15,19,26] Tryz.func62 rfl Tryz.results62 Tryz.ntmps62 ?_
 rcases Nat.lt_or_ge t.size 2 with hz|hz
 ·have hz1:t.size=1:=by omega
  (repeat' (first|(with_reducible first|exact True.intro|refine vD ?_|refine vG ?_|refine vE ?_)|with_reducible refine DoneW.out ?_|refine vR ?_|refine v3 ?_|with_reducible refine vN ?_|((with_reducible first|refine vB (fun h =>?_) (fun h =>?_)|refine vM (fun h =>?_) (fun h =>?_))<;>(first|(exfalso;omega)|skip))))
  rw [numT,if_pos hz1]
 ·have e1:partT t 1=bAt t 0 - offT t.size:=rfl
  have ho:(t.size=2∧offT t.size=192)∨(t.size=3∧offT t.size=224)∨(t.size=4∧offT t.size=240):=by unfold offT;repeat' split<;>omega
  have hn:numT t=partT t t.size:=by rw [numT,if_neg (by omega)]
  rw [hn]
  (repeat' (first|(with_reducible first|exact True.intro|refine vD ?_|refine vG ?_|refine vE ?_)|with_reducible refine DoneW.out ?_|refine vR ?_|refine v3 ?_|with_reducible refine vN ?_|((with_reducible first|refine vB (fun h =>?_) (fun h =>?_)|refine vM (fun h =>?_) (fun h =>?_))<;>(first|(exfalso;omega)|skip))))
  all_goals
   refine vL (lv:=[0,2,3,4,9,12,15,19,26]) mixed (nbS t) (fun i=>1≤i∧i≤t.size) (fun i=>t.size - i) (1) ((GhW.go [0,3,4] (by exact vS) rfl)) ?_ ?_
   ·exact ⟨by omega,by omega⟩
   rintro i ⟨hi1,hi2⟩
   have hp:=partT_in t i hi1 (by omega)
   have hb:=bAt_in t i
   (repeat' (first|(with_reducible first|exact True.intro|refine vD ?_|refine vG ?_|refine vE ?_)|with_reducible refine DoneW.out ?_|refine vR ?_|refine v3 ?_|with_reducible refine vN ?_|((with_reducible first|refine vB (fun h =>?_) (fun h =>?_)|refine vM (fun h =>?_) (fun h =>?_))<;>(first|(exfalso;omega)|skip))))
   ·refine AgW.go (i+1) [0,3,4] (by unfold nbS;rw [partT_succ t i hi1];exact vS) ?_ ?_
    ·show t.size - (i+1)<t.size - i
     omega
    ·exact ⟨by omega,by omega⟩
   ·rw [show i=t.size by omega]
theorem byte_eq (x:Int) (b:UInt8) (h0:0≤x) (h1:x<256):UInt8.ofNat x.toNat=b↔x=(b.toNat:Int):=by
 constructor
 ·rintro rfl
  simp
  omega
 ·intro h
  rw [h]
  simp
theorem bAt_list {t:ByteArray} {l:List UInt8} (h:t=⟨l.toArray⟩) (i:Nat):bAt t i=((l.getD i 0).toNat:Int):=by
 subst h
 unfold bAt
 simp [Array.getD_eq_getD_getElem?,List.getD_eq_getElem?_getD]
theorem bytes_of (t:ByteArray):t=⟨t.data.toList.toArray⟩:=by cases t;simp
theorem ok1 (t:ByteArray) (ht:t.size=1):(sizeR (numT t)=1∧Utf8.encode (numT t)=t)↔bAt t 0<128:=by
 have hn:numT t=bAt t 0:=by rw [numT,if_pos ht]
 have hb:=bAt_in t 0
 rw [hn,sizeR_is _ _ (by omega)]
 constructor
 ·rintro ⟨h1,_⟩;omega
 ·intro h
  refine ⟨by omega,?_⟩
  rw [enc_bytes _ (by omega),if_pos h]
  obtain ⟨l,hl⟩ : ∃l,l=t.data.toList:=⟨_,rfl⟩
  have ht':=bytes_of t
  rw [←hl] at ht'
  have hll:l.length=1:=by rw [hl,Array.length_toList];exact ht
  match l,hll with
  | [a],_=>
   have:=bAt_list ht' 0
   simp only [List.getD_cons_zero] at this
   rw [this]
   simp
   exact ht'.symm
theorem ok2 (t:ByteArray) (ht:t.size=2):(sizeR (numT t)=2∧Utf8.encode (numT t)=t)↔(bAt t 0 / 32=6∧bAt t 1 / 64=2∧128≤(bAt t 0 % 32)*64+bAt t 1 % 64):=by
 have hn:numT t=64*(bAt t 0 - 192)+bAt t 1 - 128:=by rw [numT,if_neg (by omega),ht];show 64*(bAt t 0 - offT t.size)+bAt t 1 - 128=_;rw [ht];rfl
 rw [←step2 _ _ (bAt_in t 0) (bAt_in t 1),←hn]
 refine and_congr_right fun hs =>?_
 rw [sizeR_is _ _ (by omega)] at hs
 rw [enc_bytes _ hs.1,if_neg (by omega),if_pos (by omega),oneR2]
 obtain ⟨l,hl⟩ : ∃l,l=t.data.toList:=⟨_,rfl⟩
 have ht':=bytes_of t
 rw [←hl] at ht'
 have hll:l.length=2:=by rw [hl,Array.length_toList];exact ht
 match l,hll with
 | [a,b],_=>
  have e0:=bAt_list ht' 0
  have e1:=bAt_list ht' 1
  simp only [List.getD_cons_zero,List.getD_cons_succ] at e0 e1
  rw [e0,e1]
  generalize numT t=r at hs
  conv=>lhs;rhs;rw [ht']
  simp only [ByteArray.mk.injEq,List.toArray_inj,List.cons.injEq,and_true,Array.mk.injEq]
  rw [byte_eq _ _ (by omega) (by omega),byte_eq _ _ (by omega) (by omega)]
theorem ok3 (t:ByteArray) (ht:t.size=3):(sizeR (numT t)=3∧Utf8.encode (numT t)=t) ↔
 (bAt t 0 / 16=14∧bAt t 1 / 64=2∧bAt t 2 / 64=2∧2048≤(bAt t 0 % 16)*4096+(bAt t 1 % 64)*64+bAt t 2 % 64 ∧ ¬(55296≤(bAt t 0 % 16)*4096+(bAt t 1 % 64)*64+bAt t 2 % 64∧(bAt t 0 % 16)*4096+(bAt t 1 % 64)*64+bAt t 2 % 64≤57343)):=by
 have hn:numT t=64*(64*(bAt t 0 - 224)+bAt t 1 - 128)+bAt t 2 - 128:=by rw [numT,if_neg (by omega),ht];show 64*(64*(bAt t 0 - offT t.size)+bAt t 1 - 128)+bAt t 2 - 128=_;rw [ht];rfl
 rw [←step3 _ _ _ (bAt_in t 0) (bAt_in t 1) (bAt_in t 2),←hn]
 refine and_congr_right fun hs =>?_
 rw [sizeR_is _ _ (by omega)] at hs
 rw [enc_bytes _ hs.1,if_neg (by omega),if_neg (by omega),if_pos (by omega),oneR3]
 obtain ⟨l,hl⟩ : ∃l,l=t.data.toList:=⟨_,rfl⟩
 have ht':=bytes_of t
 rw [←hl] at ht'
 have hll:l.length=3:=by rw [hl,Array.length_toList];exact ht
 match l,hll with
 | [a,b,c],_=>
  have e0:=bAt_list ht' 0
  have e1:=bAt_list ht' 1
  have e2:=bAt_list ht' 2
  simp only [List.getD_cons_zero,List.getD_cons_succ] at e0 e1 e2
  rw [e0,e1,e2]
  generalize numT t=r at hs
  conv=>lhs;rhs;rw [ht']
  simp only [ByteArray.mk.injEq,List.toArray_inj,List.cons.injEq,and_true,Array.mk.injEq]
  rw [byte_eq _ _ (by omega) (by omega),byte_eq _ _ (by omega) (by omega),byte_eq _ _ (by omega) (by omega)]
theorem ok4 (t:ByteArray) (ht:t.size=4):(sizeR (numT t)=4∧Utf8.encode (numT t)=t) ↔
 (bAt t 0 / 8=30∧bAt t 1 / 64=2∧bAt t 2 / 64=2∧bAt t 3 / 64=2∧65536≤(bAt t 0 % 8)*262144+(bAt t 1 % 64)*4096+(bAt t 2 % 64)*64+bAt t 3 % 64∧(bAt t 0 % 8)*262144+(bAt t 1 % 64)*4096+(bAt t 2 % 64)*64+bAt t 3 % 64≤1114111):=by
 have hn:numT t=64*(64*(64*(bAt t 0 - 240)+bAt t 1 - 128)+bAt t 2 - 128)+bAt t 3 - 128:=by rw [numT,if_neg (by omega),ht];show 64*(64*(64*(bAt t 0 - offT t.size)+bAt t 1 - 128)+bAt t 2 - 128)+bAt t 3 - 128=_;rw [ht];rfl
 rw [←step4 _ _ _ _ (bAt_in t 0) (bAt_in t 1) (bAt_in t 2) (bAt_in t 3),←hn]
 refine and_congr_right fun hs =>?_
 rw [sizeR_is _ _ (by omega)] at hs
 rw [enc_bytes _ hs.1,if_neg (by omega),if_neg (by omega),if_neg (by omega),oneR4]
 obtain ⟨l,hl⟩ : ∃l,l=t.data.toList:=⟨_,rfl⟩
 have ht':=bytes_of t
 rw [←hl] at ht'
 have hll:l.length=4:=by rw [hl,Array.length_toList];exact ht
 match l,hll with
 | [a,b,c,d],_=>
  have e0:=bAt_list ht' 0
  have e1:=bAt_list ht' 1
  have e2:=bAt_list ht' 2
  have e3:=bAt_list ht' 3
  simp only [List.getD_cons_zero,List.getD_cons_succ] at e0 e1 e2 e3
  rw [e0,e1,e2,e3]
  generalize numT t=r at hs
  conv=>lhs;rhs;rw [ht']
  simp only [ByteArray.mk.injEq,List.toArray_inj,List.cons.injEq,and_true,Array.mk.injEq]
  rw [byte_eq _ _ (by omega) (by omega),byte_eq _ _ (by omega) (by omega),byte_eq _ _ (by omega) (by omega),byte_eq _ _ (by omega) (by omega)]
abbrev cutT (s:ByteArray) (i n:Nat):ByteArray:=s.extract i (i+n)
theorem cutT_size {s:ByteArray} {i n:Nat} (h:i+n≤s.size):(cutT s i n).size=n:=by
 rw [ByteArray.size_extract]
 omega
theorem cutT_at {s:ByteArray} {i n k:Nat} (h:i+n≤s.size) (hk:k<n):bAt (cutT s i n) k=bAt s (i+k):=by
 have hk2:k<(cutT s i n).size:=by rw [cutT_size h];exact hk
 have hs:i+k<s.size:=by omega
 unfold bAt
 have e1:(cutT s i n).data.getD k 0=s.data.getD (i+k) 0:=by
  rw [ByteArray.data_extract]
  simp only [Array.getD_eq_getD_getElem?,Array.getElem?_extract]
  rw [if_pos (by have:s.data.size=s.size:=rfl;omega)]
 rw [e1]
def okT (s:ByteArray) (i n:Nat):Prop:=sizeR (numT (cutT s i n))=n∧Utf8.encode (numT (cutT s i n))=cutT s i n
theorem get_bAt (s:ByteArray) (i:Nat):((s.get! i).toNat:Int)=bAt s i:=by
 unfold bAt ByteArray.get!
 congr 2
theorem dec_ok {s:ByteArray} {i n:Nat} (hn:1≤n) (hn4:n≤4) (h:i+n≤s.size) (hok:okT s i n):((Utf8.decode s i).1:Int)=numT (cutT s i n)∧(Utf8.decode s i).2=n:=by
 have hsz:=cutT_size h
 have b0:=get_bAt s (i+0)
 have b1:=get_bAt s (i+1)
 have b2:=get_bAt s (i+2)
 have b3:=get_bAt s (i+3)
 have g0:=bAt_in s (i+0)
 have g1:=bAt_in s (i+1)
 have g2:=bAt_in s (i+2)
 have g3:=bAt_in s (i+3)
 simp only [Nat.add_zero] at b0 g0
 have h4:n=1∨n=2∨n=3∨n=4:=by omega
 unfold okT at hok
 rcases h4 with rfl|rfl|rfl|rfl
 ·have hk:=(ok1 _ hsz).1 hok
  have e0:=cutT_at (k:=0) h (by omega)
  simp only [Nat.add_zero] at e0
  have hnum:numT (cutT s i 1)=bAt (cutT s i 1) 0:=by rw [numT,if_pos hsz]
  rw [hnum]
  rw [e0] at hk ⊢
  unfold Utf8.decode
  simp only [Nat.add_zero]
  rw [if_pos (by omega)]
  exact ⟨b0,rfl⟩
 ·have hk:=(ok2 _ hsz).1 hok
  have e0:=cutT_at (k:=0) h (by omega)
  simp only [Nat.add_zero] at e0
  have e1:=cutT_at (k:=1) h (by omega)
  have hnum:numT (cutT s i 2)=64*(bAt (cutT s i 2) 0 - 192)+bAt (cutT s i 2) 1 - 128:=by rw [numT,if_neg (by omega),hsz];show 64*(bAt (cutT s i 2) 0 - offT (cutT s i 2).size)+bAt (cutT s i 2) 1 - 128=_;rw [hsz];rfl
  rw [hnum]
  rw [e0,e1] at hk ⊢
  unfold Utf8.decode
  simp only [Nat.add_zero]
  rw [if_neg (by omega),if_pos (by simp;omega),if_pos (by omega)]
  exact ⟨by simp only;omega,rfl⟩
 ·have hk:=(ok3 _ hsz).1 hok
  have e0:=cutT_at (k:=0) h (by omega)
  simp only [Nat.add_zero] at e0
  have e1:=cutT_at (k:=1) h (by omega)
  have e2:=cutT_at (k:=2) h (by omega)
  have hnum:numT (cutT s i 3)=64*(64*(bAt (cutT s i 3) 0 - 224)+bAt (cutT s i 3) 1 - 128)+bAt (cutT s i 3) 2 - 128:=by rw [numT,if_neg (by omega),hsz];show 64*(64*(bAt (cutT s i 3) 0 - offT (cutT s i 3).size)+bAt (cutT s i 3) 1 - 128)+bAt (cutT s i 3) 2 - 128=_;rw [hsz];rfl
  rw [hnum]
  rw [e0,e1,e2] at hk ⊢
  unfold Utf8.decode
  simp only [Nat.add_zero]
  rw [if_neg (by omega),if_neg (by simp;omega),if_pos (by simp;omega),if_pos (by simp [Utf8.valid];omega)]
  exact ⟨by simp only;omega,rfl⟩
 ·have hk:=(ok4 _ hsz).1 hok
  have e0:=cutT_at (k:=0) h (by omega)
  simp only [Nat.add_zero] at e0
  have e1:=cutT_at (k:=1) h (by omega)
  have e2:=cutT_at (k:=2) h (by omega)
  have e3:=cutT_at (k:=3) h (by omega)
  have hnum:numT (cutT s i 4)=64*(64*(64*(bAt (cutT s i 4) 0 - 240)+bAt (cutT s i 4) 1 - 128)+bAt (cutT s i 4) 2 - 128)+bAt (cutT s i 4) 3 - 128:=by rw [numT,if_neg (by omega),hsz];show 64*(64*(64*(bAt (cutT s i 4) 0 - offT (cutT s i 4).size)+bAt (cutT s i 4) 1 - 128)+bAt (cutT s i 4) 2 - 128)+bAt (cutT s i 4) 3 - 128=_;rw [hsz];rfl
  rw [hnum]
  rw [e0,e1,e2,e3] at hk ⊢
  unfold Utf8.decode
  simp only [Nat.add_zero]
  rw [if_neg (by omega),if_neg (by simp;omega),if_neg (by simp;omega),if_pos (by simp;omega),if_pos (by simp [Utf8.valid];omega)]
  exact ⟨by simp only;omega,rfl⟩
theorem dec_no' {s:ByteArray} {i:Nat} (h:Utf8.decode s i=(65533,1)):((Utf8.decode s i).1:Int)=65533∧((Utf8.decode s i).2:Int)=1:=by rw [h];exact ⟨rfl,rfl⟩
theorem dec_no {s:ByteArray} {i:Nat} (h:i<s.size) (hno : ∀n,1≤n→n≤4→i+n≤s.size → ¬okT s i n):Utf8.decode s i=(65533,1):=by
 have b0:=get_bAt s (i+0)
 have b1:=get_bAt s (i+1)
 have b2:=get_bAt s (i+2)
 have b3:=get_bAt s (i+3)
 have g0:=bAt_in s (i+0)
 simp only [Nat.add_zero] at b0 g0
 have k1 : ¬bAt s i<128:=by
  intro hk
  refine hno 1 (by omega) (by omega) (by omega) ((ok1 _ (cutT_size (by omega))).2 ?_)
  rw [cutT_at (by omega) (by omega),Nat.add_zero]
  exact hk
 unfold Utf8.decode
 simp only [Nat.add_zero]
 rw [if_neg (by omega)]
 split
 ·rename_i hc
  simp at hc
  rw [if_neg ?_]
  ·rfl
  ·intro hk
   refine hno 2 (by omega) (by omega) (by omega) ((ok2 _ (cutT_size (by omega))).2 ?_)
   rw [cutT_at (by omega) (by omega),cutT_at (by omega) (by omega),Nat.add_zero]
   omega
 ·split
  ·rename_i hc
   simp at hc
   rw [if_neg ?_]
   ·rfl
   ·intro hk
    simp [Utf8.valid] at hk
    refine hno 3 (by omega) (by omega) (by omega) ((ok3 _ (cutT_size (by omega))).2 ?_)
    rw [cutT_at (by omega) (by omega),cutT_at (by omega) (by omega),cutT_at (by omega) (by omega),Nat.add_zero]
    omega
  ·split
   ·rename_i hc
    simp at hc
    rw [if_neg ?_]
    ·rfl
    ·intro hk
     simp [Utf8.valid] at hk
     refine hno 4 (by omega) (by omega) (by omega) ((ok4 _ (cutT_size (by omega))).2 ?_)
     rw [cutT_at (by omega) (by omega),cutT_at (by omega) (by omega),cutT_at (by omega) (by omega),cutT_at (by omega) (by omega),Nat.add_zero]
     omega
   ·rfl
theorem str_eq (a b:ByteArray):(a.toList==b.toList)=true↔a=b:=by
 rw [beq_iff_eq,ByteArray.toList_eq,ByteArray.toList_eq]
 constructor
 ·intro h
  cases a;cases b
  simpa using h
 ·rintro rfl;rfl
theorem enc_app (a:List UInt8) (t:ByteArray):(⟨a.toArray⟩:ByteArray)++t=⟨(a++t.data.toList).toArray⟩:=by
 have h:((⟨a.toArray⟩:ByteArray)++t).data=(a++t.data.toList).toArray:=by
  rw [ByteArray.data_append]
  simp
 rw [←h]
def spS (s:ByteArray) (i:Nat) (n:Nat):St:=⟨[(0,sv s),(1,iv i),(4,.po 0 0),(5,iv n)],[(0,.cell [rv 0,iv 0])],1⟩
attribute [push_cast] spS.eq_def
set_option maxHeartbeats 4000000 in
theorem Step_fn (s:ByteArray) (i:Nat) (hs:s.size≤1000000000) (hi:i<s.size):OFn Tryz.prog G0 31 [sv s,iv i] [] 0 (.d (.agg [.lit (.int .i32 (Utf8.decode s i).1),.lit (.int .i64 (Utf8.decode s i).2)])) []:=by
 refine vF mixed [0,1,4,5,6,7,15,26,47] Tryz.func31 rfl Tryz.results31 Tryz.ntmps31 ?_
 (repeat' (first|(with_reducible first|exact True.intro|refine vD ?_|refine vG ?_|refine vE ?_)|refine vR ?_|refine v3 ?_|with_reducible refine vN ?_|((with_reducible first|refine vB (fun h =>?_) (fun h =>?_)|refine vM (fun h =>?_) (fun h =>?_))<;>(first|(exfalso;omega)|skip))))
 refine vL (lv:=[0,1,4,5,6,7,15,26,47]) mixed (spS s i) (fun n=>1≤n∧n≤5∧n≤s.size - i+1 ∧ ∀k,1≤k→k<n → ¬okT s i k) (fun n=>5 - n) (1) ((GhW.go [0,1,4,5] (by exact vS) rfl)) ?_ ?_
 ·exact ⟨by omega,by omega,by omega,fun k h1 h2=>by omega⟩
 rintro n ⟨h1,h2,h3,h4⟩
 rcases Nat.lt_or_ge n 5 with hn5|hn5
 rotate_left
 ·obtain ⟨hd1,hd2⟩:=dec_no' (dec_no hi (fun k a b c=>h4 k a (by omega)))
  rw [hd1,hd2]
  (repeat' (first|(with_reducible first|exact True.intro|refine vD ?_|refine vG ?_|refine vE ?_)|with_reducible refine DoneW.out ?_|refine vR ?_|refine v3 ?_|with_reducible refine vN ?_|((with_reducible first|refine vB (fun h =>?_) (fun h =>?_)|refine vM (fun h =>?_) (fun h =>?_))<;>(first|(exfalso;omega)|skip))))
 rcases Nat.lt_or_ge (s.size - i) n with hnr|hnr
 ·obtain ⟨hd1,hd2⟩:=dec_no' (dec_no hi (fun k a b c=>h4 k a (by omega)))
  rw [hd1,hd2]
  (repeat' (first|(with_reducible first|exact True.intro|refine vD ?_|refine vG ?_|refine vE ?_)|with_reducible refine DoneW.out ?_|refine vR ?_|refine v3 ?_|with_reducible refine vN ?_|((with_reducible first|refine vB (fun h =>?_) (fun h =>?_)|refine vM (fun h =>?_) (fun h =>?_))<;>(first|(exfalso;omega)|skip))))
 have hz:=cutT_size (s:=s) (i:=i) (n:=n) (by omega)
 (repeat' (first|(with_reducible first|exact True.intro|refine vD ?_|refine vG ?_|refine vE ?_)|(with_reducible refine CallW.d (number_fn (cutT s i n) (by omega) (by omega)) (by kernel_rfl) rfl rfl ?_)|(with_reducible refine CallW.d (rfSize_fn _) (by kernel_rfl) rfl rfl ?_)|(with_reducible refine CallW.d (one_fn _ _ (by assumption) (by omega)) (by kernel_rfl) rfl rfl ?_)|with_reducible refine DoneW.out ?_|refine vR ?_|refine v3 ?_|with_reducible refine vN ?_|((with_reducible first|refine vB (fun h =>?_) (fun h =>?_)|refine vM (fun h =>?_) (fun h =>?_))<;>(first|(exfalso;omega)|skip))))
 ·rename_i hsz
  rw [str_eq] at h
  obtain ⟨d1,d2⟩:=dec_ok h1 (by omega) (by omega) (show okT s i n from ⟨hsz,h⟩)
  rw [d1,d2]
 ·rw [←Bool.not_eq_true,str_eq] at h
  refine AgW.go (n+1) [0,1,4,5] (by exact vS) ?_ ?_
  ·show 5 - (n+1)<5 - n
   omega
  ·refine ⟨by omega,by omega,by omega,fun k a b =>?_⟩
   rcases Nat.lt_or_ge k n with hk|hk
   ·exact h4 k a hk
   ·have:k=n:=by omega
    subst this
    exact fun hok=>h hok.2
 ·refine AgW.go (n+1) [0,1,4,5] (by exact vS) ?_ ?_
  ·show 5 - (n+1)<5 - n
   omega
  ·refine ⟨by omega,by omega,by omega,fun k a b =>?_⟩
   rcases Nat.lt_or_ge k n with hk|hk
   ·exact h4 k a hk
   ·have:k=n:=by omega
    subst this
    exact fun hok=>h hok.1
def rdS (s:ByteArray) (x:Nat × List Int):St:=⟨[(0,sv s),(3,.so 0 1 0 x.2.length),(4,iv x.1)],[(0,.row 1 (x.2.map ruD))],1⟩
attribute [push_cast] rdS.eq_def
theorem RDecode_fn (s:ByteArray) (hs:s.size≤1000000000):OFn Tryz.prog G0 12 [sv s] [] 0 (ruL (runesAt s 0)) []:=by
 refine vF mixed [0,2,3,4,5,9] Tryz.func12 rfl Tryz.results12 Tryz.ntmps12 ?_
 (repeat' (first|(with_reducible first|exact True.intro|refine vD ?_|refine vG ?_|refine vE ?_)|refine vR ?_|refine v3 ?_|with_reducible refine vN ?_|((with_reducible first|refine vB (fun h =>?_) (fun h =>?_)|refine vM (fun h =>?_) (fun h =>?_))<;>(first|(exfalso;omega)|skip))))
 refine vL (lv:=[0,2,3,4,5,9]) mixed (rdS s) (fun x=>x.2++runesAt s x.1=runesAt s 0∧x.2.length≤x.1∧x.1≤s.size+4) (fun x=>s.size - x.1) ((0,[])) (GhW.nil 3 1 (GhW.go [0,3,4] (by exact vS) rfl)) ?_ ?_
 ·simp
 rintro ⟨i,es⟩ ⟨h1,h2,h3⟩
 simp only at h1 h2 h3
 have hp:=dec_pos s i
 have hq:=dec_two s i
 rcases Nat.lt_or_ge i s.size with hi|hi
 ·rw [runesAt_in hi] at h1
  (repeat' (first|(with_reducible first|exact True.intro|refine vD ?_|refine vG ?_|refine vE ?_)|with_reducible refine vC (Step_fn s i hs hi) ?_|refine vR ?_|refine v3 ?_|with_reducible refine vN ?_|((with_reducible first|refine vB (fun h =>?_) (fun h =>?_)|refine vM (fun h =>?_) (fun h =>?_))<;>(first|(exfalso;omega)|skip))))
  rw [snoc_ru]
  refine AgW.go ((i+(Utf8.decode s i).2,es++[((Utf8.decode s i).1:Int)])) [0,3,4] (by exact vS) ?_ ?_
  ·show s.size - (i+(Utf8.decode s i).2)<s.size - i
   omega
  ·exact ⟨by rw [←h1];simp,by simp;omega,by simp only;omega⟩
 ·rw [runesAt_out (by omega),List.append_nil] at h1
  (repeat' (first|(with_reducible first|exact True.intro|refine vD ?_|refine vG ?_|refine vE ?_)|refine vR ?_|refine v3 ?_|with_reducible refine vN ?_|((with_reducible first|refine vB (fun h =>?_) (fun h =>?_)|refine vM (fun h =>?_) (fun h =>?_))<;>(first|(exfalso;omega)|skip))))
  refine DoneW.frz 0 (DoneW.out ?_)
  (repeat' (first|(with_reducible first|exact True.intro|refine vD ?_|refine vG ?_|refine vE ?_)|refine vR ?_|refine v3 ?_|with_reducible refine vN ?_|((with_reducible first|refine vB (fun h =>?_) (fun h =>?_)|refine vM (fun h =>?_) (fun h =>?_))<;>(first|(exfalso;omega)|skip))))
  rw [h1,List.take_of_length_le (by simp)]
def reS (l:List Int) (i:Nat):St:=⟨[(3,sv ⟨(encL (l.take i)).toArray⟩),(7,ruL l),(8,iv l.length),(9,iv i)],[],0⟩
attribute [push_cast] reS.eq_def
theorem sizeR_valid (r:Int):(1≤sizeR r↔Utf8.valid r=true)∧(sizeR r=0↔Utf8.valid r=false):=by
 have h:Utf8.valid r=true↔(0≤r∧r≤1114111 ∧ ¬(55296≤r∧r≤57343)):=by simp [Utf8.valid];omega
 have h2:Utf8.valid r=false ↔ ¬(0≤r∧r≤1114111 ∧ ¬(55296≤r∧r≤57343)):=by rw [←h];simp
 rw [h,h2]
 unfold sizeR
 repeat' split
 all_goals omega
theorem REncode_fn (l:List Int) (hl:l.length≤1000000000):OFn Tryz.prog G0 33 [ruL l] [] 0 (sv ⟨(encL l).toArray⟩) []:=by
 refine vF mixed [0,2,3,5,6,7,8,9,10,16] Tryz.func33 rfl Tryz.results33 Tryz.ntmps33 ?_
 (repeat' (first|(with_reducible first|exact True.intro|refine vD ?_|refine vG ?_|refine vE ?_)|refine vR ?_|refine v3 ?_|with_reducible refine vN ?_|((with_reducible first|refine vB (fun h =>?_) (fun h =>?_)|refine vM (fun h =>?_) (fun h =>?_))<;>(first|(exfalso;omega)|skip))))
 refine vL (lv:=[0,2,3,5,6,7,8,9,10,16]) mixed (reS l) (fun i=>i≤l.length) (fun i=>l.length - i) (0) ((GhW.go [3,7,8,9] (by exact vS) rfl)) ?_ ?_
 ·exact Nat.zero_le _
 intro i hi
 rcases Nat.lt_or_ge i l.length with hil|hil
 ·obtain ⟨r,hr⟩ : ∃r,l[i]? = some r:=⟨_,List.getElem?_eq_getElem hil⟩
  obtain ⟨v1,v2⟩:=sizeR_valid r
  have hsz:sizeR r=0∨1≤sizeR r:=by unfold sizeR;repeat' split<;>omega
  have hel:=encL_len (l.take i)
  have hb:sizeR 65533=3:=by decide
  have hz:=encode_size_le r
  have hz2:(Utf8.encode 65533).size≤4:=encode_size_le _
  have hz3:({ data:=(encL (l.take i)).toArray } : ByteArray).size=(encL (l.take i)).length:=by simp [ByteArray.size]
  rw [List.length_take,Nat.min_eq_left hi] at hel
  (repeat' (first|(with_reducible first|exact True.intro|refine vD ?_|refine vG ?_|refine vE ?_)|refine vR ?_|refine v3 ?_|with_reducible refine vN ?_|((with_reducible first|refine vB (fun h =>?_) (fun h =>?_)|refine vM (fun h =>?_) (fun h =>?_))<;>(first|(exfalso;omega)|skip))))
  refine elX.is i r (by omega) hr ?_
  (repeat' (first|(with_reducible first|exact True.intro|refine vD ?_|refine vG ?_|refine vE ?_)|with_reducible refine vC (rfSize_fn _) ?_|with_reducible refine vC (one_fn 65533 3 hb (by omega)) ?_|with_reducible refine vC (one_fn r _ rfl (by omega)) ?_|refine vR ?_|refine v3 ?_|with_reducible refine vN ?_|((with_reducible first|refine vB (fun h =>?_) (fun h =>?_)|refine vM (fun h =>?_) (fun h =>?_))<;>(first|(exfalso;omega)|skip))))
  ·have hv:=v2.1 h
   rw [enc_app]
   refine AgW.go (i+1) [3,7,8,9] (by unfold reS;rw [take_snoc' hr,encL_snoc,encode_bad r hv];exact vS) ?_ ?_
   ·show l.length - (i+1)<l.length - i
    omega
   ·show i+1≤l.length
    omega
  ·rw [enc_app]
   refine AgW.go (i+1) [3,7,8,9] (by unfold reS;rw [take_snoc' hr,encL_snoc];exact vS) ?_ ?_
   ·show l.length - (i+1)<l.length - i
    omega
   ·show i+1≤l.length
    omega
 ·skip
  (repeat' (first|(with_reducible first|exact True.intro|refine vD ?_|refine vG ?_|refine vE ?_)|with_reducible refine DoneW.out ?_|refine vR ?_|refine v3 ?_|with_reducible refine vN ?_|((with_reducible first|refine vB (fun h =>?_) (fun h =>?_)|refine vM (fun h =>?_) (fun h =>?_))<;>(first|(exfalso;omega)|skip))))
  rw [List.take_of_length_le hil]
theorem valid_in {r:Int} (hv:Utf8.valid r=true):0≤r∧r≤1114111 ∧ ¬(55296≤r∧r≤57343):=by
 simp [Utf8.valid] at hv
 omega
theorem num_enc {r:Int} (hv:Utf8.valid r=true):numT (Utf8.encode r)=r∧sizeR r=(Utf8.encode r).size:=by
 have h:=valid_in hv
 have eb:=enc_bytes r h
 by_cases h1:r<128
 ·rw [if_pos h1] at eb
  have b0:=bAt_list eb 0
  simp only [List.getD_cons_zero] at b0
  have sz:(Utf8.encode r).size=1:=by rw [eb];rfl
  refine ⟨?_,?_⟩
  ·rw [numT,if_pos sz,b0];simp;omega
  ·rw [sz,(sizeR_is r 1 (by omega)).2 (by omega)];rfl
 ·rw [if_neg h1] at eb
  by_cases h2:r<2048
  ·rw [if_pos h2] at eb
   have b0:=bAt_list eb 0
   have b1:=bAt_list eb 1
   simp only [List.getD_cons_zero,List.getD_cons_succ] at b0 b1
   have sz:(Utf8.encode r).size=2:=by rw [eb];rfl
   refine ⟨?_,?_⟩
   ·rw [numT,if_neg (by omega),sz]
    show 64*(bAt _ 0 - offT (Utf8.encode r).size)+bAt _ 1 - 128=r
    rw [sz,b0,b1]
    show 64*((UInt8.ofNat (192+r / 64).toNat).toNat - (192:Int))+(UInt8.ofNat (128+r % 64).toNat).toNat - 128=r
    simp;omega
   ·rw [sz,(sizeR_is r 2 (by omega)).2 (by omega)];rfl
  ·rw [if_neg h2] at eb
   by_cases h3:r<65536
   ·rw [if_pos h3] at eb
    have b0:=bAt_list eb 0
    have b1:=bAt_list eb 1
    have b2:=bAt_list eb 2
    simp only [List.getD_cons_zero,List.getD_cons_succ] at b0 b1 b2
    have sz:(Utf8.encode r).size=3:=by rw [eb];rfl
    refine ⟨?_,?_⟩
    ·rw [numT,if_neg (by omega),sz]
     show 64*(64*(bAt _ 0 - offT (Utf8.encode r).size)+bAt _ 1 - 128)+bAt _ 2 - 128=r
     rw [sz,b0,b1,b2,show offT 3=224 from rfl]
     simp;omega
    ·rw [sz,(sizeR_is r 3 (by omega)).2 (by omega)];rfl
   ·rw [if_neg h3] at eb
    have b0:=bAt_list eb 0
    have b1:=bAt_list eb 1
    have b2:=bAt_list eb 2
    have b3:=bAt_list eb 3
    simp only [List.getD_cons_zero,List.getD_cons_succ] at b0 b1 b2 b3
    have sz:(Utf8.encode r).size=4:=by rw [eb];rfl
    refine ⟨?_,?_⟩
    ·rw [numT,if_neg (by omega),sz]
     show 64*(64*(64*(bAt _ 0 - offT (Utf8.encode r).size)+bAt _ 1 - 128)+bAt _ 2 - 128)+bAt _ 3 - 128=r
     rw [sz,b0,b1,b2,b3,show offT 4=240 from rfl]
     simp;omega
    ·rw [sz,(sizeR_is r 4 (by omega)).2 (by omega)];rfl
def txt (l:List Int):ByteArray:=⟨(encL l).toArray⟩
def okR (l:List Int):Prop:= ∀r∈l,Utf8.valid r=true
theorem txt_size (l:List Int):(txt l).size=(encL l).length:=by simp [txt,ByteArray.size]
theorem enc_one (r:Int):encL [r]=(Utf8.encode r).data.toList:=by simp [encL]
theorem encL_app (a b:List Int):encL (a++b)=encL a++encL b:=by simp [encL]
theorem cut_mid (a b:List Int) (r:Int):cutT (txt (a++r::b)) (encL a).length (Utf8.encode r).size=Utf8.encode r:=by
 have e:encL (a++r::b)=encL a++((Utf8.encode r).data.toList++encL b):=by
  rw [encL_app,show r::b=[r]++b from rfl,encL_app,enc_one]
 have hs:(Utf8.encode r).data.toList.length=(Utf8.encode r).size:=by rw [Array.length_toList];rfl
 apply ByteArray.ext
 apply Array.ext'
 rw [cutT,ByteArray.data_extract]
 simp only [txt,e,Array.toList_extract,List.extract_eq_take_drop]
 rw [List.drop_left,show (encL a).length+(Utf8.encode r).size - (encL a).length=(Utf8.encode r).data.toList.length by omega,List.take_left]
theorem dec_mid (a b:List Int) (r:Int) (hv:Utf8.valid r=true):((Utf8.decode (txt (a++r::b)) (encL a).length).1:Int)=r∧(Utf8.decode (txt (a++r::b)) (encL a).length).2=(Utf8.encode r).size:=by
 obtain ⟨h1,h2⟩:=num_enc hv
 have h3:=(sizeR_valid r).1.2 hv
 have h4:sizeR r≤4:=by unfold sizeR;repeat' split<;>omega
 have hc:=cut_mid a b r
 have hle:(encL a).length+(Utf8.encode r).size≤(txt (a++r::b)).size:=by
  rw [txt_size,encL_app,List.length_append,show r::b=[r]++b from rfl,encL_app,enc_one,List.length_append]
  rw [Array.length_toList];exact Nat.add_le_add_left (Nat.le_add_right _ _) _
 have:=dec_ok (s:=txt (a++r::b)) (i:=(encL a).length) (n:=(Utf8.encode r).size) (by omega) (by omega) hle (by
  unfold okT
  rw [hc,h1]
  exact ⟨h2,rfl⟩)
 rw [hc,h1] at this
 exact this
theorem runesAt_txt : ∀(b a:List Int),okR b→runesAt (txt (a++b)) (encL a).length=b
 | [],a,_=>by
  rw [List.append_nil,runesAt_out (by rw [txt_size];omega)]
 | r::b,a,h=>by
  have hv:=h r (by simp)
  obtain ⟨h1,h2⟩:=dec_mid a b r hv
  have h3:=(sizeR_valid r).1.2 hv
  have h4:=(num_enc hv).2
  have hlt:(encL a).length<(txt (a++r::b)).size:=by
   rw [txt_size,encL_app,List.length_append,show r::b=[r]++b from rfl,encL_app,enc_one,List.length_append,show (Utf8.encode r).data.toList.length=(Utf8.encode r).size by rw [Array.length_toList];rfl]
   omega
  rw [runesAt_in hlt,h1,h2]
  have:=runesAt_txt b (a++[r]) (fun x hx=>h x (by simp [hx]))
  rw [encL_app,List.length_append,enc_one,show (Utf8.encode r).data.toList.length=(Utf8.encode r).size by rw [Array.length_toList];rfl,List.append_assoc,List.singleton_append] at this
  rw [this]
theorem dec_valid (s:ByteArray) (i:Nat) (h:i<s.size):Utf8.valid ((Utf8.decode s i).1:Int)=true:=by
 by_cases hex : ∃n,1≤n∧n≤4∧i+n≤s.size∧okT s i n
 ·obtain ⟨n,h1,h4,hle,hok⟩:=hex
  rw [(dec_ok h1 h4 hle hok).1]
  refine (sizeR_valid _).1.1 ?_
  rw [hok.1]
  omega
 ·rw [dec_no h (fun n h1 h4 hle hok=>hex ⟨n,h1,h4,hle,hok⟩)]
  decide
theorem runes_valid (s:ByteArray) : ∀(k i:Nat),s.size - i≤k→okR (runesAt s i)
 | 0,i,h=>by
  rw [runesAt_out (by omega)]
  intro r hr
  cases hr
 | k+1,i,h=>by
  by_cases hi:i<s.size
  ·rw [runesAt_in hi]
   have:=dec_pos s i
   intro r hr
   rcases List.mem_cons.1 hr with rfl|hr
   ·exact dec_valid s i hi
   ·exact runes_valid s k _ (by omega) r hr
  ·rw [runesAt_out hi]
   intro r hr
   cases hr
end Go.Proofs.YtkhonlnajdfhfaaGreatDoor
