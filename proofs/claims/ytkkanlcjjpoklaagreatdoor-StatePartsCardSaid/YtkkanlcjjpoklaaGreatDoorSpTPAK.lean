/- What the theorem leans on, part 11. -/
import Derived.Laws.Cover4
import Derived.Test.YtkkanlcjjpoklaaGreatDoorSpTPAG
import Derived.Test.YtkkanlcjjpoklaaGreatDoorSpTPAJ
set_option linter.unusedSimpArgs false
set_option linter.unusedVariables false
set_option maxRecDepth 8000
namespace Go.Proofs.YtkkanlcjjpoklaaGreatDoor
abbrev rv (r:Int):V:= .d (.lit (.int .i32 r))
abbrev Ig (l:List Int):V:= .d (.sd 1 false (l.map gu))
abbrev sv (s:ByteArray):V:= .d (.lit (.string s))
theorem Ed (r:Int):aq Tryz.prog G0 174 [rv r] [] 0 (bv (Utf8.valid r)) []:=by
 refine vF ab [0,2] Tryz.func174 rfl Tryz.results174 Tryz.ntmps174 ?_;(repeat' (first|(with_reducible first|exact True.intro|refine vD ?_|refine vG ?_|refine vE ?_)|with_reducible refine ah.out ?_|refine vR ?_|refine v3 ?_|with_reducible refine vN ?_|((with_reducible first|refine vB (fun h =>?_) (fun h =>?_)|refine vM (fun h =>?_) (fun h =>?_))<;>(first|(exfalso;omega)|skip))))
 all_goals
  congr 1;rw [Bool.eq_iff_iff];simp [Utf8.valid];try omega
def KI (s:ByteArray) (x:Nat × Int):St:=⟨[(3,iv x.2),(5,.it 0)],[(0,.iter s x.1)],1⟩
attribute [push_cast] KI.eq_def
theorem jO (s:ByteArray) (hs:s.size≤1000000000):aq Tryz.prog G0 21 [sv s] [] 0 (iv (aa s 0).length) []:=by
 refine vF ab [0,2,3,5,7] Tryz.func21 rfl Tryz.results21 Tryz.ntmps21 ?_;(repeat' (first|(with_reducible first|exact True.intro|refine vD ?_|refine vG ?_|refine vE ?_)|refine vR ?_|refine v3 ?_|with_reducible refine vN ?_|((with_reducible first|refine vB (fun h =>?_) (fun h =>?_)|refine vM (fun h =>?_) (fun h =>?_))<;>(first|(exfalso;omega)|skip))))
 refine vL (lv:=[0,2,3,5,7]) ab (KI s) (fun x=>0≤x.2∧x.2≤x.1∧x.2+(aa s x.1).length=(aa s 0).length∧x.1≤s.size+4) (fun x=>s.size - x.1) ((0,0)) ((aN.go [3,5] (by exact vS) rfl)) ?_ ?_
 ·simp
 rintro ⟨i,n⟩ ⟨h0,h1,h2,h3⟩;simp only at h0 h1 h2 h3;have hp:=j4 s i;have hq:=za s i;(repeat' (first|(with_reducible first|exact True.intro|refine vD ?_|refine vG ?_|refine vE ?_)|with_reducible refine ah.out ?_|refine vR ?_|refine v3 ?_|with_reducible refine vN ?_|((with_reducible first|refine vB (fun h =>?_) (fun h =>?_)|refine vM (fun h =>?_) (fun h =>?_))<;>(first|(exfalso;omega)|skip))))
 ·rw [eI h,List.length_cons] at h2;refine bH.go ((i+(Utf8.decode s i).2,n+1)) [3,5] (by exact vS) ?_ ?_
  ·show s.size - (i+(Utf8.decode s i).2)<s.size - i;omega
  ·exact ⟨by simp only;omega,by simp only;omega,by simp only;omega,by simp only;omega⟩
 ·rw [cj h] at h2;simp at h2;rw [h2]
def KK (s:ByteArray) (x:Nat × List Int):St:=⟨[(3,.so 0 1 0 x.2.length),(7,.it 1)],[(0,.row 1 (x.2.map gu)),(1,.iter s x.1)],2⟩
attribute [push_cast] KK.eq_def
theorem Hc (es:List Int) (r:Int):es.map gu++[D.lit (.int .i32 r)]=(es++[r]).map gu:=by rw [List.map_append];rfl
theorem k8 (s:ByteArray) (hs:s.size≤1000000000):aq Tryz.prog G0 57 [sv s] [] 0 (Ig (aa s 0)) []:=by
 refine vF ab [0,2,3,5,7,8,9] Tryz.func57 rfl Tryz.results57 Tryz.ntmps57 ?_;(repeat' (first|(with_reducible first|exact True.intro|refine vD ?_|refine vG ?_|refine vE ?_)|refine vR ?_|refine v3 ?_|with_reducible refine vN ?_|((with_reducible first|refine vB (fun h =>?_) (fun h =>?_)|refine vM (fun h =>?_) (fun h =>?_))<;>(first|(exfalso;omega)|skip))))
 refine vL (lv:=[0,2,3,5,7,8,9]) ab (KK s) (fun x=>x.2++aa s x.1=aa s 0∧x.2.length≤x.1∧x.1≤s.size+4) (fun x=>s.size - x.1) ((0,[])) (aN.nil 3 1 (aN.go [3,7] (by exact vS) rfl)) ?_ ?_
 ·simp
 rintro ⟨i,es⟩ ⟨h1,h2,h3⟩;simp only at h1 h2 h3;have hp:=j4 s i;have hq:=za s i;(repeat' (first|(with_reducible first|exact True.intro|refine vD ?_|refine vG ?_|refine vE ?_)|refine vR ?_|refine v3 ?_|with_reducible refine vN ?_|((with_reducible first|refine vB (fun h =>?_) (fun h =>?_)|refine vM (fun h =>?_) (fun h =>?_))<;>(first|(exfalso;omega)|skip))))
 ·rw [eI h] at h1;rw [Hc];refine bH.go ((i+(Utf8.decode s i).2,es++[((Utf8.decode s i).1:Int)])) [3,7] (by exact vS) ?_ ?_
  ·show s.size - (i+(Utf8.decode s i).2)<s.size - i;omega
  ·exact ⟨by rw [←h1];simp,by simp;omega,by simp only;omega⟩
 ·rw [cj h,List.append_nil] at h1;refine ah.frz 0 (ah.out ?_);(repeat' (first|(with_reducible first|exact True.intro|refine vD ?_|refine vG ?_|refine vE ?_)|refine vR ?_|refine v3 ?_|with_reducible refine vN ?_|((with_reducible first|refine vB (fun h =>?_) (fun h =>?_)|refine vM (fun h =>?_) (fun h =>?_))<;>(first|(exfalso;omega)|skip))))
  rw [h1,List.take_of_length_le (by simp)]
abbrev Cj (b:UInt8):D:= .lit (.int .u8 b.toNat)
theorem AC (b:UInt8):gT (Cj b)=b:=by simp [gT,gA]
theorem qO (l:List UInt8):(l.map Cj).map gT=l:=by
 rw [List.map_map];have:(gT ∘ Cj)=id:=by funext b;exact AC b
 rw [this,List.map_id]
theorem xZ (l:List UInt8) : ∀y∈l.map Cj,lC y:=by
 intro y hy;obtain ⟨b,_,rfl⟩:=List.mem_map.1 hy;exact ⟨_,rfl⟩
def aA (l:List Int):List UInt8:=l.flatMap fun r=>(Utf8.encode r).data.toList
theorem qW (l:List Int) (r:Int):aA (l++[r])=aA l++(Utf8.encode r).data.toList:=by
 unfold aA;rw [List.flatMap_append,List.flatMap_cons,List.flatMap_nil,List.append_nil]
theorem zV (es t:List UInt8):es.map Cj++t.map (fun b=>D.lit (.int .u8 b.toNat))=(es++t).map Cj:=by rw [List.map_append]
theorem bX (l:List Int):(aA l).length≤4*l.length:=by
 induction l with
 | nil=>simp [aA]
 | cons r l ih=>
  have:=encode_size_le r;have e:(Utf8.encode r).data.toList.length=(Utf8.encode r).size:=by rw [Array.length_toList];rfl
  simp only [aA,List.flatMap_cons,List.length_append,List.length_cons] at ih ⊢;omega
theorem n9 (r:Int) (h:Utf8.valid r=false):Utf8.encode r=Utf8.encode 65533:=by
 unfold Utf8.encode;rw [h];rfl
def PC (l:List Int) (x:Nat × List UInt8):St:=⟨[(3,.so 0 1 0 x.2.length),(6,Ig l),(7,iv l.length),(8,iv x.1)],[(0,.row 1 (x.2.map Cj))],1⟩
attribute [push_cast] PC.eq_def
theorem Ak (l:List Int) (hl:l.length≤1000000000):aq Tryz.prog G0 119 [Ig l] [] 0 (sv ⟨(aA l).toArray⟩) []:=by
 refine vF ab [0,2,3,5,6,7,8,9,14] Tryz.func119 rfl Tryz.results119 Tryz.ntmps119 ?_;(repeat' (first|(with_reducible first|exact True.intro|refine vD ?_|refine vG ?_|refine vE ?_)|refine vR ?_|refine v3 ?_|with_reducible refine vN ?_|((with_reducible first|refine vB (fun h =>?_) (fun h =>?_)|refine vM (fun h =>?_) (fun h =>?_))<;>(first|(exfalso;omega)|skip))))
 refine vL (lv:=[0,2,3,5,6,7,8,9,14]) ab (PC l) (fun x=>x.1≤l.length∧x.2=aA (l.take x.1)) (fun x=>l.length - x.1) ((0,[])) (aN.nil 3 1 (aN.go [3,6,7,8] (by exact vS) rfl)) ?_ ?_
 ·exact ⟨Nat.zero_le _,rfl⟩
 rintro ⟨i,es⟩ ⟨hi,he⟩;simp only at hi he;have hel:es.length≤4*i:=by
  have:=bX (l.take i);rw [List.length_take] at this;rw [he];omega
 rcases Nat.lt_or_ge i l.length with hil|hil
 ·obtain ⟨r,hr⟩ : ∃r,l[i]? = some r:=⟨_,List.getElem?_eq_getElem hil⟩
  have hz:=encode_size_le r;have hz2:(Utf8.encode 65533).size≤4:=encode_size_le _;(repeat' (first|(with_reducible first|exact True.intro|refine vD ?_|refine vG ?_|refine vE ?_)|refine vR ?_|refine v3 ?_|with_reducible refine vN ?_|((with_reducible first|refine vB (fun h =>?_) (fun h =>?_)|refine vM (fun h =>?_) (fun h =>?_))<;>(first|(exfalso;omega)|skip))))
  refine dV.is i r (by omega) hr ?_;(repeat' (first|(with_reducible first|exact True.intro|refine vD ?_|refine vG ?_|refine vE ?_)|with_reducible refine vC (Ed _) ?_|refine vR ?_|refine v3 ?_|with_reducible refine vN ?_|((with_reducible first|refine vB (fun h =>?_) (fun h =>?_)|refine vM (fun h =>?_) (fun h =>?_))<;>(first|(exfalso;omega)|skip))))
  ·have hv:Utf8.valid r=false:=by simpa using h
   rw [zV];refine bH.go ((i+1,es++(Utf8.encode 65533).data.toList)) [3,6,7,8] (by exact vS) ?_ ?_
   ·show l.length - (i+1)<l.length - i;omega
   ·exact ⟨by simp only;omega,by rw [aJ hr,qW,←he,n9 r hv]⟩
  ·rw [zV];refine bH.go ((i+1,es++(Utf8.encode r).data.toList)) [3,6,7,8] (by exact vS) ?_ ?_
   ·show l.length - (i+1)<l.length - i;omega
   ·exact ⟨by simp only;omega,by rw [aJ hr,qW,←he]⟩
 ·skip;(repeat' (first|(with_reducible first|exact True.intro|refine vD ?_|refine vG ?_|refine vE ?_)|with_reducible refine ah.out ?_|refine vR ?_|refine v3 ?_|with_reducible refine vN ?_|((with_reducible first|refine vB (fun h =>?_) (fun h =>?_)|refine vM (fun h =>?_) (fun h =>?_))<;>(first|(exfalso;omega)|skip))))
  rw [List.take_of_length_le (by simp)];refine mr.intro' (xZ es) ?_;rw [qO,he,List.take_of_length_le hil];refine (?_:dj _ _);(repeat' (first|(with_reducible first|exact True.intro|refine vD ?_|refine vG ?_|refine vE ?_)|with_reducible refine ah.out ?_|refine vR ?_|refine v3 ?_|with_reducible refine vN ?_|((with_reducible first|refine vB (fun h =>?_) (fun h =>?_)|refine vM (fun h =>?_) (fun h =>?_))<;>(first|(exfalso;omega)|skip))))
theorem ee (r:Int) (h:0≤r∧r≤1114111 ∧ ¬(55296≤r∧r≤57343)):Utf8.encode r=⟨(if r<128 then [UInt8.ofNat r.toNat] else if r<2048 then [UInt8.ofNat (192+r / 64).toNat,UInt8.ofNat (128+r % 64).toNat]
 else if r<65536 then [UInt8.ofNat (224+r / 4096).toNat,UInt8.ofNat (128+r / 64 % 64).toNat,UInt8.ofNat (128+r % 64).toNat]
 else [UInt8.ofNat (240+r / 262144).toNat,UInt8.ofNat (128+r / 4096 % 64).toNat,UInt8.ofNat (128+r / 64 % 64).toNat,UInt8.ofNat (128+r % 64).toNat]).toArray⟩:=by
 have hv:Utf8.valid r=true:=by simp [Utf8.valid];omega
 obtain ⟨k,rfl⟩ : ∃k:Nat,r=k:=⟨r.toNat,by omega⟩
 unfold Utf8.encode;rw [hv];simp only [if_true,Int.toNat_natCast];have e1:((192:Int)+(k:Int) / 64).toNat=192+k / 64:=by omega
 have e2:((128:Int)+(k:Int) % 64).toNat=128+k % 64:=by omega
 have e3:((224:Int)+(k:Int) / 4096).toNat=224+k / 4096:=by omega
 have e4:((128:Int)+(k:Int) / 64 % 64).toNat=128+k / 64 % 64:=by omega
 have e5:((240:Int)+(k:Int) / 262144).toNat=240+k / 262144:=by omega
 have e6:((128:Int)+(k:Int) / 4096 % 64).toNat=128+k / 4096 % 64:=by
  obtain ⟨q,hq⟩ : ∃q:Nat,q=k / 4096:=⟨_,rfl⟩
  have:(k:Int) / 4096=(q:Int):=by omega
  rw [this,←hq];omega
 rw [e1,e2,e3,e4,e5,e6];by_cases h1:k<128
 ·have g1:(k:Int)<128:=by omega
  simp only [if_pos h1,if_pos g1]
 ·have g1 : ¬(k:Int)<128:=by omega
  by_cases h2:k<2048
  ·have g2:(k:Int)<2048:=by omega
   simp only [if_neg h1,if_neg g1,if_pos h2,if_pos g2]
  ·have g2 : ¬(k:Int)<2048:=by omega
   by_cases h3:k<65536
   ·have g3:(k:Int)<65536:=by omega
    simp only [if_neg h1,if_neg g1,if_neg h2,if_neg g2,if_pos h3,if_pos g3]
   ·have g3 : ¬(k:Int)<65536:=by omega
    simp only [if_neg h1,if_neg g1,if_neg h2,if_neg g2,if_neg h3,if_neg g3]
def bz (t:ByteArray) (i:Nat):Int:=(t.data.getD i 0).toNat
theorem cM (t:ByteArray) (i:Nat):0≤bz t i∧bz t i<256:=by
 have:=(t.data.getD i 0).toNat_lt;unfold bz;omega
def mY (n:Nat):Int:=if n=2 then 192 else if n=3 then 224 else 240
def Ic (t:ByteArray):Nat→Int
 | 0=>0
 | 1=>bz t 0 - mY t.size
 | i+2=>64*Ic t (i+1)+bz t (i+1) - 128
def cf (t:ByteArray):Int:=if t.size=1 then bz t 0 else Ic t t.size
theorem dU (x:Int) (b:UInt8) (h0:0≤x) (h1:x<256):UInt8.ofNat x.toNat=b↔x=(b.toNat:Int):=by
 constructor
 ·rintro rfl;simp;omega
 ·intro h;rw [h];simp
theorem a4 {t:ByteArray} {l:List UInt8} (h:t=⟨l.toArray⟩) (i:Nat):bz t i=((l.getD i 0).toNat:Int):=by
 subst h;unfold bz;simp [Array.getD_eq_getD_getElem?,List.getD_eq_getElem?_getD]
theorem jW (t:ByteArray):t=⟨t.data.toList.toArray⟩:=by cases t;simp
theorem PR (t:ByteArray) (ht:t.size=1):(dR (cf t)=1∧Utf8.encode (cf t)=t)↔bz t 0<128:=by
 have hn:cf t=bz t 0:=by rw [cf,if_pos ht]
 have hb:=cM t 0;rw [hn,ck _ _ (by omega)];constructor
 ·rintro ⟨h1,_⟩;omega
 ·intro h;refine ⟨by omega,?_⟩;rw [ee _ (by omega),if_pos h];obtain ⟨l,hl⟩ : ∃l,l=t.data.toList:=⟨_,rfl⟩
  have ht':=jW t;rw [←hl] at ht';have hll:l.length=1:=by rw [hl,Array.length_toList];exact ht
  match l,hll with
  | [a],_=>
   have:=a4 ht' 0;simp only [List.getD_cons_zero] at this;rw [this];simp;exact ht'.symm
theorem PS (t:ByteArray) (ht:t.size=2):(dR (cf t)=2∧Utf8.encode (cf t)=t)↔(bz t 0 / 32=6∧bz t 1 / 64=2∧128≤(bz t 0 % 32)*64+bz t 1 % 64):=by
 have hn:cf t=64*(bz t 0 - 192)+bz t 1 - 128:=by rw [cf,if_neg (by omega),ht];show 64*(bz t 0 - mY t.size)+bz t 1 - 128=_;rw [ht];rfl
 rw [←Ll _ _ (cM t 0) (cM t 1),←hn];refine and_congr_right fun hs =>?_
 rw [ck _ _ (by omega)] at hs;rw [ee _ hs.1,if_neg (by omega),if_pos (by omega),H9];obtain ⟨l,hl⟩ : ∃l,l=t.data.toList:=⟨_,rfl⟩
 have ht':=jW t;rw [←hl] at ht';have hll:l.length=2:=by rw [hl,Array.length_toList];exact ht
 match l,hll with
 | [a,b],_=>
  have e0:=a4 ht' 0;have e1:=a4 ht' 1;simp only [List.getD_cons_zero,List.getD_cons_succ] at e0 e1;rw [e0,e1];generalize cf t=r at hs;conv=>lhs;rhs;rw [ht']
  simp only [ByteArray.mk.injEq,List.toArray_inj,List.cons.injEq,and_true,Array.mk.injEq];rw [dU _ _ (by omega) (by omega),dU _ _ (by omega) (by omega)]
theorem PT (t:ByteArray) (ht:t.size=3):(dR (cf t)=3∧Utf8.encode (cf t)=t) ↔
 (bz t 0 / 16=14∧bz t 1 / 64=2∧bz t 2 / 64=2∧2048≤(bz t 0 % 16)*4096+(bz t 1 % 64)*64+bz t 2 % 64 ∧ ¬(55296≤(bz t 0 % 16)*4096+(bz t 1 % 64)*64+bz t 2 % 64∧(bz t 0 % 16)*4096+(bz t 1 % 64)*64+bz t 2 % 64≤57343)):=by
 have hn:cf t=64*(64*(bz t 0 - 224)+bz t 1 - 128)+bz t 2 - 128:=by rw [cf,if_neg (by omega),ht];show 64*(64*(bz t 0 - mY t.size)+bz t 1 - 128)+bz t 2 - 128=_;rw [ht];rfl
 rw [←Lm _ _ _ (cM t 0) (cM t 1) (cM t 2),←hn];refine and_congr_right fun hs =>?_
 rw [ck _ _ (by omega)] at hs;rw [ee _ hs.1,if_neg (by omega),if_neg (by omega),if_pos (by omega),Ia];obtain ⟨l,hl⟩ : ∃l,l=t.data.toList:=⟨_,rfl⟩
 have ht':=jW t;rw [←hl] at ht';have hll:l.length=3:=by rw [hl,Array.length_toList];exact ht
 match l,hll with
 | [a,b,c],_=>
  have e0:=a4 ht' 0;have e1:=a4 ht' 1;have e2:=a4 ht' 2;simp only [List.getD_cons_zero,List.getD_cons_succ] at e0 e1 e2;rw [e0,e1,e2];generalize cf t=r at hs;conv=>lhs;rhs;rw [ht']
  simp only [ByteArray.mk.injEq,List.toArray_inj,List.cons.injEq,and_true,Array.mk.injEq];rw [dU _ _ (by omega) (by omega),dU _ _ (by omega) (by omega),dU _ _ (by omega) (by omega)]
theorem PU (t:ByteArray) (ht:t.size=4):(dR (cf t)=4∧Utf8.encode (cf t)=t) ↔
 (bz t 0 / 8=30∧bz t 1 / 64=2∧bz t 2 / 64=2∧bz t 3 / 64=2∧65536≤(bz t 0 % 8)*262144+(bz t 1 % 64)*4096+(bz t 2 % 64)*64+bz t 3 % 64∧(bz t 0 % 8)*262144+(bz t 1 % 64)*4096+(bz t 2 % 64)*64+bz t 3 % 64≤1114111):=by
 have hn:cf t=64*(64*(64*(bz t 0 - 240)+bz t 1 - 128)+bz t 2 - 128)+bz t 3 - 128:=by rw [cf,if_neg (by omega),ht];show 64*(64*(64*(bz t 0 - mY t.size)+bz t 1 - 128)+bz t 2 - 128)+bz t 3 - 128=_;rw [ht];rfl
 rw [←Ln _ _ _ _ (cM t 0) (cM t 1) (cM t 2) (cM t 3),←hn];refine and_congr_right fun hs =>?_
 rw [ck _ _ (by omega)] at hs;rw [ee _ hs.1,if_neg (by omega),if_neg (by omega),if_neg (by omega),Ib];obtain ⟨l,hl⟩ : ∃l,l=t.data.toList:=⟨_,rfl⟩
 have ht':=jW t;rw [←hl] at ht';have hll:l.length=4:=by rw [hl,Array.length_toList];exact ht
 match l,hll with
 | [a,b,c,d],_=>
  have e0:=a4 ht' 0;have e1:=a4 ht' 1;have e2:=a4 ht' 2;have e3:=a4 ht' 3;simp only [List.getD_cons_zero,List.getD_cons_succ] at e0 e1 e2 e3;rw [e0,e1,e2,e3];generalize cf t=r at hs;conv=>lhs;rhs;rw [ht']
  simp only [ByteArray.mk.injEq,List.toArray_inj,List.cons.injEq,and_true,Array.mk.injEq];rw [dU _ _ (by omega) (by omega),dU _ _ (by omega) (by omega),dU _ _ (by omega) (by omega),dU _ _ (by omega) (by omega)]
abbrev b8 (s:ByteArray) (i n:Nat):ByteArray:=s.extract i (i+n)
theorem d9 {s:ByteArray} {i n:Nat} (h:i+n≤s.size):(b8 s i n).size=n:=by
 rw [ByteArray.size_extract];omega
theorem bi {s:ByteArray} {i n k:Nat} (h:i+n≤s.size) (hk:k<n):bz (b8 s i n) k=bz s (i+k):=by
 have hk2:k<(b8 s i n).size:=by rw [d9 h];exact hk
 have hs:i+k<s.size:=by omega
 unfold bz;have e1:(b8 s i n).data.getD k 0=s.data.getD (i+k) 0:=by
  rw [ByteArray.data_extract];simp only [Array.getD_eq_getD_getElem?,Array.getElem?_extract];rw [if_pos (by have:s.data.size=s.size:=rfl;omega)]
 rw [e1]
def okT (s:ByteArray) (i n:Nat):Prop:=dR (cf (b8 s i n))=n∧Utf8.encode (cf (b8 s i n))=b8 s i n
theorem eY (s:ByteArray) (i:Nat):((s.get! i).toNat:Int)=bz s i:=by
 unfold bz ByteArray.get!;congr 2
theorem C7 {s:ByteArray} {i n:Nat} (hn:1≤n) (hn4:n≤4) (h:i+n≤s.size) (hok:okT s i n):((Utf8.decode s i).1:Int)=cf (b8 s i n)∧(Utf8.decode s i).2=n:=by
 have hsz:=d9 h;have b0:=eY s (i+0);have b1:=eY s (i+1);have b2:=eY s (i+2);have b3:=eY s (i+3);have g0:=cM s (i+0);have g1:=cM s (i+1);have g2:=cM s (i+2);have g3:=cM s (i+3);simp only [Nat.add_zero] at b0 g0;have h4:n=1∨n=2∨n=3∨n=4:=by omega
 unfold okT at hok;rcases h4 with rfl|rfl|rfl|rfl
 ·have hk:=(PR _ hsz).1 hok;have e0:=bi (k:=0) h (by omega);simp only [Nat.add_zero] at e0;have hnum:cf (b8 s i 1)=bz (b8 s i 1) 0:=by rw [cf,if_pos hsz]
  rw [hnum];rw [e0] at hk ⊢;unfold Utf8.decode;simp only [Nat.add_zero];rw [if_pos (by omega)];exact ⟨b0,rfl⟩
 ·have hk:=(PS _ hsz).1 hok;have e0:=bi (k:=0) h (by omega);simp only [Nat.add_zero] at e0;have e1:=bi (k:=1) h (by omega);have hnum:cf (b8 s i 2)=64*(bz (b8 s i 2) 0 - 192)+bz (b8 s i 2) 1 - 128:=by rw [cf,if_neg (by omega),hsz];show 64*(bz (b8 s i 2) 0 - mY (b8 s i 2).size)+bz (b8 s i 2) 1 - 128=_;rw [hsz];rfl
  rw [hnum];rw [e0,e1] at hk ⊢;unfold Utf8.decode;simp only [Nat.add_zero];rw [if_neg (by omega),if_pos (by simp;omega),if_pos (by omega)];exact ⟨by simp only;omega,rfl⟩
 ·have hk:=(PT _ hsz).1 hok;have e0:=bi (k:=0) h (by omega);simp only [Nat.add_zero] at e0;have e1:=bi (k:=1) h (by omega);have e2:=bi (k:=2) h (by omega);have hnum:cf (b8 s i 3)=64*(64*(bz (b8 s i 3) 0 - 224)+bz (b8 s i 3) 1 - 128)+bz (b8 s i 3) 2 - 128:=by rw [cf,if_neg (by omega),hsz];show 64*(64*(bz (b8 s i 3) 0 - mY (b8 s i 3).size)+bz (b8 s i 3) 1 - 128)+bz (b8 s i 3) 2 - 128=_;rw [hsz];rfl
  rw [hnum];rw [e0,e1,e2] at hk ⊢;unfold Utf8.decode;simp only [Nat.add_zero];rw [if_neg (by omega),if_neg (by simp;omega),if_pos (by simp;omega),if_pos (by simp [Utf8.valid];omega)];exact ⟨by simp only;omega,rfl⟩
 ·have hk:=(PU _ hsz).1 hok;have e0:=bi (k:=0) h (by omega);simp only [Nat.add_zero] at e0;have e1:=bi (k:=1) h (by omega);have e2:=bi (k:=2) h (by omega);have e3:=bi (k:=3) h (by omega);have hnum:cf (b8 s i 4)=64*(64*(64*(bz (b8 s i 4) 0 - 240)+bz (b8 s i 4) 1 - 128)+bz (b8 s i 4) 2 - 128)+bz (b8 s i 4) 3 - 128:=by rw [cf,if_neg (by omega),hsz];show 64*(64*(64*(bz (b8 s i 4) 0 - mY (b8 s i 4).size)+bz (b8 s i 4) 1 - 128)+bz (b8 s i 4) 2 - 128)+bz (b8 s i 4) 3 - 128=_;rw [hsz];rfl
  rw [hnum];rw [e0,e1,e2,e3] at hk ⊢;unfold Utf8.decode;simp only [Nat.add_zero];rw [if_neg (by omega),if_neg (by simp;omega),if_neg (by simp;omega),if_pos (by simp;omega),if_pos (by simp [Utf8.valid];omega)];exact ⟨by simp only;omega,rfl⟩
theorem IT {s:ByteArray} {i:Nat} (h:i<s.size) (hno : ∀n,1≤n→n≤4→i+n≤s.size → ¬okT s i n):Utf8.decode s i=(65533,1):=by
 have b0:=eY s (i+0);have b1:=eY s (i+1);have b2:=eY s (i+2);have b3:=eY s (i+3);have g0:=cM s (i+0);simp only [Nat.add_zero] at b0 g0;have k1 : ¬bz s i<128:=by
  intro hk;refine hno 1 (by omega) (by omega) (by omega) ((PR _ (d9 (by omega))).2 ?_);rw [bi (by omega) (by omega),Nat.add_zero];exact hk
 unfold Utf8.decode;simp only [Nat.add_zero];rw [if_neg (by omega)];split
 ·rename_i hc;simp at hc;rw [if_neg ?_]
  ·rfl
  ·intro hk;refine hno 2 (by omega) (by omega) (by omega) ((PS _ (d9 (by omega))).2 ?_);rw [bi (by omega) (by omega),bi (by omega) (by omega),Nat.add_zero];omega
 ·split
  ·rename_i hc;simp at hc;rw [if_neg ?_]
   ·rfl
   ·intro hk;simp [Utf8.valid] at hk;refine hno 3 (by omega) (by omega) (by omega) ((PT _ (d9 (by omega))).2 ?_);rw [bi (by omega) (by omega),bi (by omega) (by omega),bi (by omega) (by omega),Nat.add_zero];omega
  ·split
   ·rename_i hc;simp at hc;rw [if_neg ?_]
    ·rfl
    ·intro hk;simp [Utf8.valid] at hk;refine hno 4 (by omega) (by omega) (by omega) ((PU _ (d9 (by omega))).2 ?_);rw [bi (by omega) (by omega),bi (by omega) (by omega),bi (by omega) (by omega),bi (by omega) (by omega),Nat.add_zero];omega
   ·rfl
theorem fb (r:Int):(1≤dR r↔Utf8.valid r=true)∧(dR r=0↔Utf8.valid r=false):=by
 have h:Utf8.valid r=true↔(0≤r∧r≤1114111 ∧ ¬(55296≤r∧r≤57343)):=by simp [Utf8.valid];omega
 have h2:Utf8.valid r=false ↔ ¬(0≤r∧r≤1114111 ∧ ¬(55296≤r∧r≤57343)):=by rw [←h];simp
 rw [h,h2];unfold dR;repeat' split
 all_goals omega
theorem w5 {r:Int} (hv:Utf8.valid r=true):0≤r∧r≤1114111 ∧ ¬(55296≤r∧r≤57343):=by
 simp [Utf8.valid] at hv;omega
theorem tp {r:Int} (hv:Utf8.valid r=true):cf (Utf8.encode r)=r∧dR r=(Utf8.encode r).size:=by
 have h:=w5 hv;have eb:=ee r h;by_cases h1:r<128
 ·rw [if_pos h1] at eb;have b0:=a4 eb 0;simp only [List.getD_cons_zero] at b0;have sz:(Utf8.encode r).size=1:=by rw [eb];rfl
  refine ⟨?_,?_⟩
  ·rw [cf,if_pos sz,b0];simp;omega
  ·rw [sz,(ck r 1 (by omega)).2 (by omega)];rfl
 ·rw [if_neg h1] at eb;by_cases h2:r<2048
  ·rw [if_pos h2] at eb;have b0:=a4 eb 0;have b1:=a4 eb 1;simp only [List.getD_cons_zero,List.getD_cons_succ] at b0 b1;have sz:(Utf8.encode r).size=2:=by rw [eb];rfl
   refine ⟨?_,?_⟩
   ·rw [cf,if_neg (by omega),sz];show 64*(bz _ 0 - mY (Utf8.encode r).size)+bz _ 1 - 128=r;rw [sz,b0,b1];show 64*((UInt8.ofNat (192+r / 64).toNat).toNat - (192:Int))+(UInt8.ofNat (128+r % 64).toNat).toNat - 128=r;simp;omega
   ·rw [sz,(ck r 2 (by omega)).2 (by omega)];rfl
  ·rw [if_neg h2] at eb;by_cases h3:r<65536
   ·rw [if_pos h3] at eb;have b0:=a4 eb 0;have b1:=a4 eb 1;have b2:=a4 eb 2;simp only [List.getD_cons_zero,List.getD_cons_succ] at b0 b1 b2;have sz:(Utf8.encode r).size=3:=by rw [eb];rfl
    refine ⟨?_,?_⟩
    ·rw [cf,if_neg (by omega),sz];show 64*(64*(bz _ 0 - mY (Utf8.encode r).size)+bz _ 1 - 128)+bz _ 2 - 128=r;rw [sz,b0,b1,b2,show mY 3=224 from rfl];simp;omega
    ·rw [sz,(ck r 3 (by omega)).2 (by omega)];rfl
   ·rw [if_neg h3] at eb;have b0:=a4 eb 0;have b1:=a4 eb 1;have b2:=a4 eb 2;have b3:=a4 eb 3;simp only [List.getD_cons_zero,List.getD_cons_succ] at b0 b1 b2 b3;have sz:(Utf8.encode r).size=4:=by rw [eb];rfl
    refine ⟨?_,?_⟩
    ·rw [cf,if_neg (by omega),sz];show 64*(64*(64*(bz _ 0 - mY (Utf8.encode r).size)+bz _ 1 - 128)+bz _ 2 - 128)+bz _ 3 - 128=r;rw [sz,b0,b1,b2,b3,show mY 4=240 from rfl];simp;omega
    ·rw [sz,(ck r 4 (by omega)).2 (by omega)];rfl
def c8 (l:List Int):ByteArray:=⟨(aA l).toArray⟩
def Cn (l:List Int):Prop:= ∀r∈l,Utf8.valid r=true
theorem bh (l:List Int):(c8 l).size=(aA l).length:=by simp [c8,ByteArray.size]
theorem iR (r:Int):aA [r]=(Utf8.encode r).data.toList:=by simp [aA]
theorem aP (a b:List Int):aA (a++b)=aA a++aA b:=by simp [aA]
theorem FQ (a b:List Int) (r:Int):b8 (c8 (a++r::b)) (aA a).length (Utf8.encode r).size=Utf8.encode r:=by
 have e:aA (a++r::b)=aA a++((Utf8.encode r).data.toList++aA b):=by
  rw [aP,show r::b=[r]++b from rfl,aP,iR]
 have hs:(Utf8.encode r).data.toList.length=(Utf8.encode r).size:=by rw [Array.length_toList];rfl
 apply ByteArray.ext;apply Array.ext';rw [b8,ByteArray.data_extract];simp only [c8,e,Array.toList_extract,List.extract_eq_take_drop];rw [List.drop_left,show (aA a).length+(Utf8.encode r).size - (aA a).length=(Utf8.encode r).data.toList.length by omega,List.take_left]
theorem sH (a b:List Int) (r:Int) (hv:Utf8.valid r=true):((Utf8.decode (c8 (a++r::b)) (aA a).length).1:Int)=r∧(Utf8.decode (c8 (a++r::b)) (aA a).length).2=(Utf8.encode r).size:=by
 obtain ⟨h1,h2⟩:=tp hv;have h3:=(fb r).1.2 hv;have h4:dR r≤4:=by unfold dR;repeat' split<;>omega
 have hc:=FQ a b r;have hle:(aA a).length+(Utf8.encode r).size≤(c8 (a++r::b)).size:=by
  rw [bh,aP,List.length_append,show r::b=[r]++b from rfl,aP,iR,List.length_append];rw [Array.length_toList];exact Nat.add_le_add_left (Nat.le_add_right _ _) _
 have:=C7 (s:=c8 (a++r::b)) (i:=(aA a).length) (n:=(Utf8.encode r).size) (by omega) (by omega) hle (by
  unfold okT;rw [hc,h1];exact ⟨h2,rfl⟩)
 rw [hc,h1] at this;exact this
theorem mH : ∀(b a:List Int),Cn b→aa (c8 (a++b)) (aA a).length=b
 | [],a,_=>by
  rw [List.append_nil,cj (by rw [bh];omega)]
 | r::b,a,h=>by
  have hv:=h r (by simp);obtain ⟨h1,h2⟩:=sH a b r hv;have h3:=(fb r).1.2 hv;have h4:=(tp hv).2;have hlt:(aA a).length<(c8 (a++r::b)).size:=by
   rw [bh,aP,List.length_append,show r::b=[r]++b from rfl,aP,iR,List.length_append,show (Utf8.encode r).data.toList.length=(Utf8.encode r).size by rw [Array.length_toList];rfl];omega
  rw [eI hlt,h1,h2];have:=mH b (a++[r]) (fun x hx=>h x (by simp [hx]));rw [aP,List.length_append,iR,show (Utf8.encode r).data.toList.length=(Utf8.encode r).size by rw [Array.length_toList];rfl,List.append_assoc,List.singleton_append] at this;rw [this]
theorem AX (s:ByteArray) (i:Nat) (h:i<s.size):Utf8.valid ((Utf8.decode s i).1:Int)=true:=by
 by_cases hex : ∃n,1≤n∧n≤4∧i+n≤s.size∧okT s i n
 ·obtain ⟨n,h1,h4,hle,hok⟩:=hex;rw [(C7 h1 h4 hle hok).1];refine (fb _).1.1 ?_;rw [hok.1];omega
 ·rw [IT h (fun n h1 h4 hle hok=>hex ⟨n,h1,h4,hle,hok⟩)];decide
theorem iB (s:ByteArray) : ∀(k i:Nat),s.size - i≤k→Cn (aa s i)
 | 0,i,h=>by
  rw [cj (by omega)];intro r hr;cases hr
 | k+1,i,h=>by
  by_cases hi:i<s.size
  ·rw [eI hi];have:=j4 s i;intro r hr;rcases List.mem_cons.1 hr with rfl|hr
   ·exact AX s i hi
   ·exact iB s k _ (by omega) r hr
  ·rw [cj hi];intro r hr;cases hr
end Go.Proofs.YtkkanlcjjpoklaaGreatDoor
