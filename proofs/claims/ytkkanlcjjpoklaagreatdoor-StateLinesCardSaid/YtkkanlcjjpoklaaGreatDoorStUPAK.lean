/- What the theorem leans on, part 11. -/
import Derived.Laws.Cover4
import Derived.Test.YtkkanlcjjpoklaaGreatDoorStUPAG
import Derived.Test.YtkkanlcjjpoklaaGreatDoorStUPAJ
set_option linter.unusedSimpArgs false
set_option linter.unusedVariables false
set_option maxRecDepth 8000
namespace Go.Proofs.YtkkanlcjjpoklaaGreatDoor
abbrev rv (r:Int):V:= .d (.lit (.int .i32 r))
abbrev yE (l:List Int):V:= .d (.sd 1 false (l.map dy))
abbrev sv (s:ByteArray):V:= .d (.lit (.string s))
theorem wc (r:Int):an Tryz.prog G0 151 [rv r] [] 0 (iv (de r)) []:=by
 refine vF ab [0,2,16,18,20,22] Tryz.func151 rfl Tryz.results151 Tryz.ntmps151 ?_;(repeat' (first|with_reducible refine ae.out ?_|(refine' cD)|fail))
 all_goals
  congr 3;unfold de;repeat' split
  all_goals first|rfl|omega
theorem Ka (r:Int):an Tryz.prog G0 174 [rv r] [] 0 (bv (Utf8.valid r)) []:=by
 refine vF ab [0,2] Tryz.func174 rfl Tryz.results174 Tryz.ntmps174 ?_;(repeat' (first|with_reducible refine ae.out ?_|(refine' cD)|fail))
 all_goals
  congr 1;rw [Bool.eq_iff_iff];simp [Utf8.valid];try omega
def Rc (s:ByteArray) (x:Nat × Int):St:=⟨[(3,iv x.2),(5,.it 0)],[(0,.iter s x.1)],1⟩
attribute [push_cast] Rc.eq_def
theorem qp (s:ByteArray) (hs:s.size≤1000000000):an Tryz.prog G0 21 [sv s] [] 0 (iv (aa s 0).length) []:=by
 refine vF ab [0,2,3,5,7] Tryz.func21 rfl Tryz.results21 Tryz.ntmps21 ?_;(repeat' (first|(refine' cD)|fail))
 refine vL (lv:=[0,2,3,5,7]) ab (Rc s) (fun x=>0≤x.2∧x.2≤x.1∧x.2+(aa s x.1).length=(aa s 0).length∧x.1≤s.size+4) (fun x=>s.size - x.1) ((0,0)) ((aC.go [3,5] (by exact vS) rfl)) ?_ ?_
 ·simp
 rintro ⟨i,n⟩ ⟨h0,h1,h2,h3⟩;simp only at h0 h1 h2 h3;have hp:=ke s i;have hq:=w8 s i;(repeat' (first|with_reducible refine ae.out ?_|(refine' cD)|fail))
 ·rw [cJ h,List.length_cons] at h2;refine aG.go ((i+(Utf8.decode s i).2,n+1)) [3,5] (by exact vS) ?_ ?_
  ·show s.size - (i+(Utf8.decode s i).2)<s.size - i;omega
  ·exact ⟨by simp only;omega,by simp only;omega,by simp only;omega,by simp only;omega⟩
 ·rw [bI h] at h2;simp at h2;rw [h2]
def Re (s:ByteArray) (x:Nat × List Int):St:=⟨[(3,.so 0 1 0 x.2.length),(7,.it 1)],[(0,.row 1 (x.2.map dy)),(1,.iter s x.1)],2⟩
attribute [push_cast] Re.eq_def
theorem x8 (es:List Int) (r:Int):es.map dy++[D.lit (.int .i32 r)]=(es++[r]).map dy:=by rw [List.map_append];rfl
theorem j9 (s:ByteArray) (hs:s.size≤1000000000):an Tryz.prog G0 57 [sv s] [] 0 (yE (aa s 0)) []:=by
 refine vF ab [0,2,3,5,7,8,9] Tryz.func57 rfl Tryz.results57 Tryz.ntmps57 ?_;(repeat' (first|(refine' cD)|fail))
 refine vL (lv:=[0,2,3,5,7,8,9]) ab (Re s) (fun x=>x.2++aa s x.1=aa s 0∧x.2.length≤x.1∧x.1≤s.size+4) (fun x=>s.size - x.1) ((0,[])) (aC.nil 3 1 (aC.go [3,7] (by exact vS) rfl)) ?_ ?_
 ·simp
 rintro ⟨i,es⟩ ⟨h1,h2,h3⟩;simp only at h1 h2 h3;have hp:=ke s i;have hq:=w8 s i;(repeat' (first|(refine' cD)|fail))
 ·rw [cJ h] at h1;rw [x8];refine aG.go ((i+(Utf8.decode s i).2,es++[((Utf8.decode s i).1:Int)])) [3,7] (by exact vS) ?_ ?_
  ·show s.size - (i+(Utf8.decode s i).2)<s.size - i;omega
  ·exact ⟨by rw [←h1];simp,by simp;omega,by simp only;omega⟩
 ·rw [bI h,List.append_nil] at h1;refine ae.frz 0 (ae.out ?_);(repeat' (first|(refine' cD)|fail))
  rw [h1,List.take_of_length_le (by simp)]
abbrev HE (b:UInt8):D:= .lit (.int .u8 b.toNat)
theorem Fk (b:UInt8):iA (HE b)=b:=by simp [iA,jd]
theorem uR (l:List UInt8):(l.map HE).map iA=l:=by
 rw [List.map_map];have:(iA ∘ HE)=id:=by funext b;exact Fk b
 rw [this,List.map_id]
theorem Cu (l:List UInt8) : ∀y∈l.map HE,nQ y:=by
 intro y hy;obtain ⟨b,_,rfl⟩:=List.mem_map.1 hy;exact ⟨_,rfl⟩
def aL (l:List Int):List UInt8:=l.flatMap fun r=>(Utf8.encode r).data.toList
theorem kf (l:List Int) (r:Int):aL (l++[r])=aL l++(Utf8.encode r).data.toList:=by
 unfold aL;rw [List.flatMap_append,List.flatMap_cons,List.flatMap_nil,List.append_nil]
theorem EL (es t:List UInt8):es.map HE++t.map (fun b=>D.lit (.int .u8 b.toNat))=(es++t).map HE:=by rw [List.map_append]
theorem cu (l:List Int):(aL l).length≤4*l.length:=by
 induction l with
 | nil=>simp [aL]
 | cons r l ih=>
  have:=encode_size_le r;have e:(Utf8.encode r).data.toList.length=(Utf8.encode r).size:=by rw [Array.length_toList];rfl
  simp only [aL,List.flatMap_cons,List.length_append,List.length_cons] at ih ⊢;omega
theorem lg (r:Int) (h:Utf8.valid r=false):Utf8.encode r=Utf8.encode 65533:=by
 unfold Utf8.encode;rw [h];rfl
def XO (l:List Int) (x:Nat × List UInt8):St:=⟨[(3,.so 0 1 0 x.2.length),(6,yE l),(7,iv l.length),(8,iv x.1)],[(0,.row 1 (x.2.map HE))],1⟩
attribute [push_cast] XO.eq_def
theorem uL (l:List Int) (hl:l.length≤1000000000):an Tryz.prog G0 119 [yE l] [] 0 (sv ⟨(aL l).toArray⟩) []:=by
 refine vF ab [0,2,3,5,6,7,8,9,14] Tryz.func119 rfl Tryz.results119 Tryz.ntmps119 ?_;(repeat' (first|(refine' cD)|fail))
 refine vL (lv:=[0,2,3,5,6,7,8,9,14]) ab (XO l) (fun x=>x.1≤l.length∧x.2=aL (l.take x.1)) (fun x=>l.length - x.1) ((0,[])) (aC.nil 3 1 (aC.go [3,6,7,8] (by exact vS) rfl)) ?_ ?_
 ·exact ⟨Nat.zero_le _,rfl⟩
 rintro ⟨i,es⟩ ⟨hi,he⟩;simp only at hi he;have hel:es.length≤4*i:=by
  have:=cu (l.take i);rw [List.length_take] at this;rw [he];omega
 rcases Nat.lt_or_ge i l.length with hil|hil
 ·obtain ⟨r,hr⟩ : ∃r,l[i]? = some r:=⟨_,List.getElem?_eq_getElem hil⟩
  have hz:=encode_size_le r;have hz2:(Utf8.encode 65533).size≤4:=encode_size_le _;(repeat' (first|(refine' cD)|fail))
  refine aI.is i r (by omega) hr ?_;(repeat' (first|with_reducible refine vC (Ka _) ?_|(refine' cD)|fail))
  ·have hv:Utf8.valid r=false:=by simpa using h
   rw [EL];refine aG.go ((i+1,es++(Utf8.encode 65533).data.toList)) [3,6,7,8] (by exact vS) ?_ ?_
   ·show l.length - (i+1)<l.length - i;omega
   ·exact ⟨by simp only;omega,by rw [ax hr,kf,←he,lg r hv]⟩
  ·rw [EL];refine aG.go ((i+1,es++(Utf8.encode r).data.toList)) [3,6,7,8] (by exact vS) ?_ ?_
   ·show l.length - (i+1)<l.length - i;omega
   ·exact ⟨by simp only;omega,by rw [ax hr,kf,←he]⟩
 ·skip;(repeat' (first|with_reducible refine ae.out ?_|(refine' cD)|fail))
  rw [List.take_of_length_le (by simp)];refine oX.intro' (Cu es) ?_;rw [uR,he,List.take_of_length_le hil];refine (?_:dZ _ _);(repeat' (first|with_reducible refine ae.out ?_|(refine' cD)|fail))
theorem eD (r:Int) (h:0≤r∧r≤1114111 ∧ ¬(55296≤r∧r≤57343)):Utf8.encode r=⟨(if r<128 then [UInt8.ofNat r.toNat] else if r<2048 then [UInt8.ofNat (192+r / 64).toNat,UInt8.ofNat (128+r % 64).toNat]
 else if r<65536 then [UInt8.ofNat (224+r / 4096).toNat,UInt8.ofNat (128+r / 64 % 64).toNat,UInt8.ofNat (128+r % 64).toNat]
 else [UInt8.ofNat (240+r / 262144).toNat,UInt8.ofNat (128+r / 4096 % 64).toNat,UInt8.ofNat (128+r / 64 % 64).toNat,UInt8.ofNat (128+r % 64).toNat]).toArray⟩:=by
 have hv:Utf8.valid r=true:=by simp [Utf8.valid];omega
 obtain ⟨k,rfl⟩ : ∃k:Nat,r=k:=⟨r.toNat,by omega⟩
 unfold Utf8.encode;rw [hv];simp only [if_true,Int.toNat_natCast];have e1:((192:Int)+(k:Int) / 64).toNat=192+k / 64:=by omega
 have e2:((128:Int)+(k:Int) % 64).toNat=128+k % 64:=by omega
 have e3:((224:Int)+(k:Int) / 4096).toNat=224+k / 4096:=by omega
 have e4:((128:Int)+(k:Int) / 64 % 64).toNat=128+k / 64 % 64:=by omega
 have e5:((240:Int)+(k:Int) / 262144).toNat=240+k / 262144:=by omega
 have e6:((128:Int)+(k:Int) / 4096 % 64).toNat=128+k / 4096 % 64:=by
  obtain ⟨q,hq⟩ : ∃q:Nat,q=k / 4096:=⟨_,rfl⟩
  have:(k:Int) / 4096=(q:Int):=by omega
  rw [this,←hq];omega
 rw [e1,e2,e3,e4,e5,e6];by_cases h1:k<128
 ·have g1:(k:Int)<128:=by omega
  simp only [if_pos h1,if_pos g1]
 ·have g1 : ¬(k:Int)<128:=by omega
  by_cases h2:k<2048
  ·have g2:(k:Int)<2048:=by omega
   simp only [if_neg h1,if_neg g1,if_pos h2,if_pos g2]
  ·have g2 : ¬(k:Int)<2048:=by omega
   by_cases h3:k<65536
   ·have g3:(k:Int)<65536:=by omega
    simp only [if_neg h1,if_neg g1,if_neg h2,if_neg g2,if_pos h3,if_pos g3]
   ·have g3 : ¬(k:Int)<65536:=by omega
    simp only [if_neg h1,if_neg g1,if_neg h2,if_neg g2,if_neg h3,if_neg g3]
set_option maxHeartbeats 1000000 in
theorem CU (r n:Int) (h:de r=n) (hn:1≤n):an Tryz.prog G0 152 [rv r,iv n] [] 0 (sv (Utf8.encode r)) []:=by
 rw [cP r n hn] at h;rw [eD r h.1];refine vF ab [0,1,4,5,6,12,24] Tryz.func152 rfl Tryz.results152 Tryz.ntmps152 ?_;(repeat' (first|with_reducible refine ae.out ?_|(refine' cD)|fail))
 ·rw [if_pos (by omega)]
 ·rw [if_neg (by omega),if_pos (by omega)]
 ·rw [if_neg (by omega),if_neg (by omega),if_pos (by omega)]
 ·rw [if_neg (by omega),if_neg (by omega),if_neg (by omega)]
def bT (t:ByteArray) (i:Nat):Int:=(t.data.getD i 0).toNat
theorem ce (t:ByteArray) (i:Nat):0≤bT t i∧bT t i<256:=by
 have:=(t.data.getD i 0).toNat_lt;unfold bT;omega
theorem OJ (t:ByteArray) (i:Nat):((t.data.getD i 0).toNat:Int)=bT t i:=rfl
attribute [push_cast] OJ
def gJ (n:Nat):Int:=if n=2 then 192 else if n=3 then 224 else 240
def dq (t:ByteArray):Nat→Int
 | 0=>0
 | 1=>bT t 0 - gJ t.size
 | i+2=>64*dq t (i+1)+bT t (i+1) - 128
def cG (t:ByteArray):Int:=if t.size=1 then bT t 0 else dq t t.size
def Va (t:ByteArray) (i:Nat):St:=⟨[(0,sv t),(3,rv (dq t i)),(4,iv i)],[],0⟩
attribute [push_cast] Va.eq_def
theorem J0 (t:ByteArray) (i:Nat) (h:1≤i) (h4:i≤4):(i=1 ∧ -240≤dq t i∧dq t i≤300)∨(i=2 ∧ -16000≤dq t i∧dq t i≤20000)∨(i=3 ∧ -1100000≤dq t i∧dq t i≤1300000)∨(i=4 ∧ -71000000≤dq t i∧dq t i≤84000000):=by
 have b0:=ce t 0;have b1:=ce t 1;have b2:=ce t 2;have b3:=ce t 3;have ho:192≤gJ t.size∧gJ t.size≤240:=by unfold gJ;repeat' split<;>omega
 have h4':i=1∨i=2∨i=3∨i=4:=by omega
 have e1:dq t 1=bT t 0 - gJ t.size:=rfl;have e2:dq t 2=64*dq t 1+bT t 1 - 128:=rfl;have e3:dq t 3=64*dq t 2+bT t 2 - 128:=rfl;have e4:dq t 4=64*dq t 3+bT t 3 - 128:=rfl;rcases h4' with rfl|rfl|rfl|rfl
 ·left;omega
 ·right;left;omega
 ·right;right;left;omega
 ·right;right;right;omega
theorem CX (t:ByteArray) (i:Nat) (h:1≤i):dq t (i+1)=64*dq t i+bT t i - 128:=by
 obtain ⟨k,rfl⟩ : ∃k,i=k+1:=⟨i - 1,by omega⟩
 rfl
set_option maxHeartbeats 1000000 in
theorem GC (t:ByteArray) (h0:0<t.size) (h4:t.size≤4):an Tryz.prog G0 150 [sv t] [] 0 (rv (cG t)) []:=by
 have b0:=ce t 0;refine vF ab [0,2,3,4,9,12,15,19,26] Tryz.func150 rfl Tryz.results150 Tryz.ntmps150 ?_;rcases Nat.lt_or_ge t.size 2 with hz|hz
 ·have hz1:t.size=1:=by omega
  (repeat' (first|with_reducible refine ae.out ?_|(refine' cD)|fail))
  rw [cG,if_pos hz1]
 ·have e1:dq t 1=bT t 0 - gJ t.size:=rfl;have ho:(t.size=2∧gJ t.size=192)∨(t.size=3∧gJ t.size=224)∨(t.size=4∧gJ t.size=240):=by unfold gJ;repeat' split<;>omega
  have hn:cG t=dq t t.size:=by rw [cG,if_neg (by omega)]
  rw [hn];(repeat' (first|with_reducible refine ae.out ?_|(refine' cD)|fail))
  all_goals
   refine vL (lv:=[0,2,3,4,9,12,15,19,26]) ab (Va t) (fun i=>1≤i∧i≤t.size) (fun i=>t.size - i) (1) ((aC.go [0,3,4] (by exact vS) rfl)) ?_ ?_
   ·exact ⟨by omega,by omega⟩
   rintro i ⟨hi1,hi2⟩;have hp:=J0 t i hi1 (by omega);have hb:=ce t i;(repeat' (first|with_reducible refine ae.out ?_|(refine' cD)|fail))
   ·refine aG.go (i+1) [0,3,4] (by unfold Va;rw [CX t i hi1];exact vS) ?_ ?_
    ·show t.size - (i+1)<t.size - i;omega
    ·exact ⟨by omega,by omega⟩
   ·rw [show i=t.size by omega]
theorem fm (x:Int) (b:UInt8) (h0:0≤x) (h1:x<256):UInt8.ofNat x.toNat=b↔x=(b.toNat:Int):=by
 constructor
 ·rintro rfl;simp;omega
 ·intro h;rw [h];simp
theorem bi {t:ByteArray} {l:List UInt8} (h:t=⟨l.toArray⟩) (i:Nat):bT t i=((l.getD i 0).toNat:Int):=by
 subst h;unfold bT;simp [Array.getD_eq_getD_getElem?,List.getD_eq_getElem?_getD]
theorem l8 (t:ByteArray):t=⟨t.data.toList.toArray⟩:=by cases t;simp
theorem Vd (t:ByteArray) (ht:t.size=1):(de (cG t)=1∧Utf8.encode (cG t)=t)↔bT t 0<128:=by
 have hn:cG t=bT t 0:=by rw [cG,if_pos ht]
 have hb:=ce t 0;rw [hn,cP _ _ (by omega)];constructor
 ·rintro ⟨h1,_⟩;omega
 ·intro h;refine ⟨by omega,?_⟩;rw [eD _ (by omega),if_pos h];obtain ⟨l,hl⟩ : ∃l,l=t.data.toList:=⟨_,rfl⟩
  have ht':=l8 t;rw [←hl] at ht';have hll:l.length=1:=by rw [hl,Array.length_toList];exact ht
  match l,hll with
  | [a],_=>
   have:=bi ht' 0;simp only [List.getD_cons_zero] at this;rw [this];simp;exact ht'.symm
theorem Ya (t:ByteArray) (ht:t.size=2):(de (cG t)=2∧Utf8.encode (cG t)=t)↔(bT t 0 / 32=6∧bT t 1 / 64=2∧128≤(bT t 0 % 32)*64+bT t 1 % 64):=by
 have hn:cG t=64*(bT t 0 - 192)+bT t 1 - 128:=by rw [cG,if_neg (by omega),ht];show 64*(bT t 0 - gJ t.size)+bT t 1 - 128=_;rw [ht];rfl
 rw [←Sh _ _ (ce t 0) (ce t 1),←hn];refine and_congr_right fun hs =>?_
 rw [cP _ _ (by omega)] at hs;rw [eD _ hs.1,if_neg (by omega),if_pos (by omega),Og];obtain ⟨l,hl⟩ : ∃l,l=t.data.toList:=⟨_,rfl⟩
 have ht':=l8 t;rw [←hl] at ht';have hll:l.length=2:=by rw [hl,Array.length_toList];exact ht
 match l,hll with
 | [a,b],_=>
  have e0:=bi ht' 0;have e1:=bi ht' 1;simp only [List.getD_cons_zero,List.getD_cons_succ] at e0 e1;rw [e0,e1];generalize cG t=r at hs;conv=>lhs;rhs;rw [ht']
  simp only [ByteArray.mk.injEq,List.toArray_inj,List.cons.injEq,and_true,Array.mk.injEq];rw [fm _ _ (by omega) (by omega),fm _ _ (by omega) (by omega)]
theorem Yb (t:ByteArray) (ht:t.size=3):(de (cG t)=3∧Utf8.encode (cG t)=t) ↔
 (bT t 0 / 16=14∧bT t 1 / 64=2∧bT t 2 / 64=2∧2048≤(bT t 0 % 16)*4096+(bT t 1 % 64)*64+bT t 2 % 64 ∧ ¬(55296≤(bT t 0 % 16)*4096+(bT t 1 % 64)*64+bT t 2 % 64∧(bT t 0 % 16)*4096+(bT t 1 % 64)*64+bT t 2 % 64≤57343)):=by
 have hn:cG t=64*(64*(bT t 0 - 224)+bT t 1 - 128)+bT t 2 - 128:=by rw [cG,if_neg (by omega),ht];show 64*(64*(bT t 0 - gJ t.size)+bT t 1 - 128)+bT t 2 - 128=_;rw [ht];rfl
 rw [←Si _ _ _ (ce t 0) (ce t 1) (ce t 2),←hn];refine and_congr_right fun hs =>?_
 rw [cP _ _ (by omega)] at hs;rw [eD _ hs.1,if_neg (by omega),if_neg (by omega),if_pos (by omega),Oh];obtain ⟨l,hl⟩ : ∃l,l=t.data.toList:=⟨_,rfl⟩
 have ht':=l8 t;rw [←hl] at ht';have hll:l.length=3:=by rw [hl,Array.length_toList];exact ht
 match l,hll with
 | [a,b,c],_=>
  have e0:=bi ht' 0;have e1:=bi ht' 1;have e2:=bi ht' 2;simp only [List.getD_cons_zero,List.getD_cons_succ] at e0 e1 e2;rw [e0,e1,e2];generalize cG t=r at hs;conv=>lhs;rhs;rw [ht']
  simp only [ByteArray.mk.injEq,List.toArray_inj,List.cons.injEq,and_true,Array.mk.injEq];rw [fm _ _ (by omega) (by omega),fm _ _ (by omega) (by omega),fm _ _ (by omega) (by omega)]
theorem Yc (t:ByteArray) (ht:t.size=4):(de (cG t)=4∧Utf8.encode (cG t)=t) ↔
 (bT t 0 / 8=30∧bT t 1 / 64=2∧bT t 2 / 64=2∧bT t 3 / 64=2∧65536≤(bT t 0 % 8)*262144+(bT t 1 % 64)*4096+(bT t 2 % 64)*64+bT t 3 % 64∧(bT t 0 % 8)*262144+(bT t 1 % 64)*4096+(bT t 2 % 64)*64+bT t 3 % 64≤1114111):=by
 have hn:cG t=64*(64*(64*(bT t 0 - 240)+bT t 1 - 128)+bT t 2 - 128)+bT t 3 - 128:=by rw [cG,if_neg (by omega),ht];show 64*(64*(64*(bT t 0 - gJ t.size)+bT t 1 - 128)+bT t 2 - 128)+bT t 3 - 128=_;rw [ht];rfl
 rw [←Sj _ _ _ _ (ce t 0) (ce t 1) (ce t 2) (ce t 3),←hn];refine and_congr_right fun hs =>?_
 rw [cP _ _ (by omega)] at hs;rw [eD _ hs.1,if_neg (by omega),if_neg (by omega),if_neg (by omega),Oi];obtain ⟨l,hl⟩ : ∃l,l=t.data.toList:=⟨_,rfl⟩
 have ht':=l8 t;rw [←hl] at ht';have hll:l.length=4:=by rw [hl,Array.length_toList];exact ht
 match l,hll with
 | [a,b,c,d],_=>
  have e0:=bi ht' 0;have e1:=bi ht' 1;have e2:=bi ht' 2;have e3:=bi ht' 3;simp only [List.getD_cons_zero,List.getD_cons_succ] at e0 e1 e2 e3;rw [e0,e1,e2,e3];generalize cG t=r at hs;conv=>lhs;rhs;rw [ht']
  simp only [ByteArray.mk.injEq,List.toArray_inj,List.cons.injEq,and_true,Array.mk.injEq];rw [fm _ _ (by omega) (by omega),fm _ _ (by omega) (by omega),fm _ _ (by omega) (by omega),fm _ _ (by omega) (by omega)]
abbrev cE (s:ByteArray) (i n:Nat):ByteArray:=s.extract i (i+n)
theorem dS {s:ByteArray} {i n:Nat} (h:i+n≤s.size):(cE s i n).size=n:=by
 rw [ByteArray.size_extract];omega
theorem bE {s:ByteArray} {i n k:Nat} (h:i+n≤s.size) (hk:k<n):bT (cE s i n) k=bT s (i+k):=by
 have hk2:k<(cE s i n).size:=by rw [dS h];exact hk
 have hs:i+k<s.size:=by omega
 unfold bT;have e1:(cE s i n).data.getD k 0=s.data.getD (i+k) 0:=by
  rw [ByteArray.data_extract];simp only [Array.getD_eq_getD_getElem?,Array.getElem?_extract];rw [if_pos (by have:s.data.size=s.size:=rfl;omega)]
 rw [e1]
def okT (s:ByteArray) (i n:Nat):Prop:=de (cG (cE s i n))=n∧Utf8.encode (cG (cE s i n))=cE s i n
theorem gv (s:ByteArray) (i:Nat):((s.get! i).toNat:Int)=bT s i:=by
 unfold bT ByteArray.get!;congr 2
theorem w7 {s:ByteArray} {i n:Nat} (hn:1≤n) (hn4:n≤4) (h:i+n≤s.size) (hok:okT s i n):((Utf8.decode s i).1:Int)=cG (cE s i n)∧(Utf8.decode s i).2=n:=by
 have hsz:=dS h;have b0:=gv s (i+0);have b1:=gv s (i+1);have b2:=gv s (i+2);have b3:=gv s (i+3);have g0:=ce s (i+0);have g1:=ce s (i+1);have g2:=ce s (i+2);have g3:=ce s (i+3);simp only [Nat.add_zero] at b0 g0;have h4:n=1∨n=2∨n=3∨n=4:=by omega
 unfold okT at hok;rcases h4 with rfl|rfl|rfl|rfl
 ·have hk:=(Vd _ hsz).1 hok;have e0:=bE (k:=0) h (by omega);simp only [Nat.add_zero] at e0;have hnum:cG (cE s i 1)=bT (cE s i 1) 0:=by rw [cG,if_pos hsz]
  rw [hnum];rw [e0] at hk ⊢;unfold Utf8.decode;simp only [Nat.add_zero];rw [if_pos (by omega)];exact ⟨b0,rfl⟩
 ·have hk:=(Ya _ hsz).1 hok;have e0:=bE (k:=0) h (by omega);simp only [Nat.add_zero] at e0;have e1:=bE (k:=1) h (by omega);have hnum:cG (cE s i 2)=64*(bT (cE s i 2) 0 - 192)+bT (cE s i 2) 1 - 128:=by rw [cG,if_neg (by omega),hsz];show 64*(bT (cE s i 2) 0 - gJ (cE s i 2).size)+bT (cE s i 2) 1 - 128=_;rw [hsz];rfl
  rw [hnum];rw [e0,e1] at hk ⊢;unfold Utf8.decode;simp only [Nat.add_zero];rw [if_neg (by omega),if_pos (by simp;omega),if_pos (by omega)];exact ⟨by simp only;omega,rfl⟩
 ·have hk:=(Yb _ hsz).1 hok;have e0:=bE (k:=0) h (by omega);simp only [Nat.add_zero] at e0;have e1:=bE (k:=1) h (by omega);have e2:=bE (k:=2) h (by omega);have hnum:cG (cE s i 3)=64*(64*(bT (cE s i 3) 0 - 224)+bT (cE s i 3) 1 - 128)+bT (cE s i 3) 2 - 128:=by rw [cG,if_neg (by omega),hsz];show 64*(64*(bT (cE s i 3) 0 - gJ (cE s i 3).size)+bT (cE s i 3) 1 - 128)+bT (cE s i 3) 2 - 128=_;rw [hsz];rfl
  rw [hnum];rw [e0,e1,e2] at hk ⊢;unfold Utf8.decode;simp only [Nat.add_zero];rw [if_neg (by omega),if_neg (by simp;omega),if_pos (by simp;omega),if_pos (by simp [Utf8.valid];omega)];exact ⟨by simp only;omega,rfl⟩
 ·have hk:=(Yc _ hsz).1 hok;have e0:=bE (k:=0) h (by omega);simp only [Nat.add_zero] at e0;have e1:=bE (k:=1) h (by omega);have e2:=bE (k:=2) h (by omega);have e3:=bE (k:=3) h (by omega);have hnum:cG (cE s i 4)=64*(64*(64*(bT (cE s i 4) 0 - 240)+bT (cE s i 4) 1 - 128)+bT (cE s i 4) 2 - 128)+bT (cE s i 4) 3 - 128:=by rw [cG,if_neg (by omega),hsz];show 64*(64*(64*(bT (cE s i 4) 0 - gJ (cE s i 4).size)+bT (cE s i 4) 1 - 128)+bT (cE s i 4) 2 - 128)+bT (cE s i 4) 3 - 128=_;rw [hsz];rfl
  rw [hnum];rw [e0,e1,e2,e3] at hk ⊢;unfold Utf8.decode;simp only [Nat.add_zero];rw [if_neg (by omega),if_neg (by simp;omega),if_neg (by simp;omega),if_pos (by simp;omega),if_pos (by simp [Utf8.valid];omega)];exact ⟨by simp only;omega,rfl⟩
theorem DP {s:ByteArray} {i:Nat} (h:Utf8.decode s i=(65533,1)):((Utf8.decode s i).1:Int)=65533∧((Utf8.decode s i).2:Int)=1:=by rw [h];exact ⟨rfl,rfl⟩
theorem w6 {s:ByteArray} {i:Nat} (h:i<s.size) (hno : ∀n,1≤n→n≤4→i+n≤s.size → ¬okT s i n):Utf8.decode s i=(65533,1):=by
 have b0:=gv s (i+0);have b1:=gv s (i+1);have b2:=gv s (i+2);have b3:=gv s (i+3);have g0:=ce s (i+0);simp only [Nat.add_zero] at b0 g0;have k1 : ¬bT s i<128:=by
  intro hk;refine hno 1 (by omega) (by omega) (by omega) ((Vd _ (dS (by omega))).2 ?_);rw [bE (by omega) (by omega),Nat.add_zero];exact hk
 unfold Utf8.decode;simp only [Nat.add_zero];rw [if_neg (by omega)];split
 ·rename_i hc;simp at hc;rw [if_neg ?_]
  ·rfl
  ·intro hk;refine hno 2 (by omega) (by omega) (by omega) ((Ya _ (dS (by omega))).2 ?_);rw [bE (by omega) (by omega),bE (by omega) (by omega),Nat.add_zero];omega
 ·split
  ·rename_i hc;simp at hc;rw [if_neg ?_]
   ·rfl
   ·intro hk;simp [Utf8.valid] at hk;refine hno 3 (by omega) (by omega) (by omega) ((Yb _ (dS (by omega))).2 ?_);rw [bE (by omega) (by omega),bE (by omega) (by omega),bE (by omega) (by omega),Nat.add_zero];omega
  ·split
   ·rename_i hc;simp at hc;rw [if_neg ?_]
    ·rfl
    ·intro hk;simp [Utf8.valid] at hk;refine hno 4 (by omega) (by omega) (by omega) ((Yc _ (dS (by omega))).2 ?_);rw [bE (by omega) (by omega),bE (by omega) (by omega),bE (by omega) (by omega),bE (by omega) (by omega),Nat.add_zero];omega
   ·rfl
theorem ti (a b:ByteArray):(a.toList==b.toList)=true↔a=b:=by
 rw [beq_iff_eq,ByteArray.toList_eq,ByteArray.toList_eq];constructor
 ·intro h;cases a;cases b;simpa using h
 ·rintro rfl;rfl
theorem DW (a:List UInt8) (t:ByteArray):(⟨a.toArray⟩:ByteArray)++t=⟨(a++t.data.toList).toArray⟩:=by
 have h:((⟨a.toArray⟩:ByteArray)++t).data=(a++t.data.toList).toArray:=by
  rw [ByteArray.data_append];simp
 rw [←h]
def Yn (s:ByteArray) (i:Nat) (n:Nat):St:=⟨[(0,sv s),(1,iv i),(4,.po 0 0),(5,iv n)],[(0,.cell [rv 0,iv 0])],1⟩
attribute [push_cast] Yn.eq_def
set_option maxHeartbeats 4000000 in
theorem Lo (s:ByteArray) (i:Nat) (hs:s.size≤1000000000) (hi:i<s.size):an Tryz.prog G0 94 [sv s,iv i] [] 0 (.d (.agg [.lit (.int .i32 (Utf8.decode s i).1),.lit (.int .i64 (Utf8.decode s i).2)])) []:=by
 refine vF ab [0,1,4,5,6,7,15,26,47] Tryz.func94 rfl Tryz.results94 Tryz.ntmps94 ?_;(repeat' (first|(refine' cD)|fail))
 refine vL (lv:=[0,1,4,5,6,7,15,26,47]) ab (Yn s i) (fun n=>1≤n∧n≤5∧n≤s.size - i+1 ∧ ∀k,1≤k→k<n → ¬okT s i k) (fun n=>5 - n) (1) ((aC.go [0,1,4,5] (by exact vS) rfl)) ?_ ?_
 ·exact ⟨by omega,by omega,by omega,fun k h1 h2=>by omega⟩
 rintro n ⟨h1,h2,h3,h4⟩;rcases Nat.lt_or_ge n 5 with hn5|hn5;rotate_left
 ·obtain ⟨hd1,hd2⟩:=DP (w6 hi (fun k a b c=>h4 k a (by omega)));rw [hd1,hd2];(repeat' (first|with_reducible refine ae.out ?_|(refine' cD)|fail))
 rcases Nat.lt_or_ge (s.size - i) n with hnr|hnr
 ·obtain ⟨hd1,hd2⟩:=DP (w6 hi (fun k a b c=>h4 k a (by omega)));rw [hd1,hd2];(repeat' (first|with_reducible refine ae.out ?_|(refine' cD)|fail))
 have hz:=dS (s:=s) (i:=i) (n:=n) (by omega);(repeat' (first|(with_reducible refine au.d (GC (cE s i n) (by omega) (by omega)) (by kernel_rfl) rfl rfl ?_)|(with_reducible refine au.d (wc _) (by kernel_rfl) rfl rfl ?_)|(with_reducible refine au.d (CU _ _ (by assumption) (by omega)) (by kernel_rfl) rfl rfl ?_)|with_reducible refine ae.out ?_|(refine' cD)|fail))
 ·rename_i hsz;rw [ti] at h;obtain ⟨d1,d2⟩:=w7 h1 (by omega) (by omega) (show okT s i n from ⟨hsz,h⟩);rw [d1,d2]
 ·rw [←Bool.not_eq_true,ti] at h;refine aG.go (n+1) [0,1,4,5] (by exact vS) ?_ ?_
  ·show 5 - (n+1)<5 - n;omega
  ·refine ⟨by omega,by omega,by omega,fun k a b =>?_⟩;rcases Nat.lt_or_ge k n with hk|hk
   ·exact h4 k a hk
   ·have:k=n:=by omega
    subst this;exact fun hok=>h hok.2
 ·refine aG.go (n+1) [0,1,4,5] (by exact vS) ?_ ?_
  ·show 5 - (n+1)<5 - n;omega
  ·refine ⟨by omega,by omega,by omega,fun k a b =>?_⟩;rcases Nat.lt_or_ge k n with hk|hk
   ·exact h4 k a hk
   ·have:k=n:=by omega
    subst this;exact fun hok=>h hok.1
def Yf (s:ByteArray) (x:Nat × List Int):St:=⟨[(0,sv s),(3,.so 0 1 0 x.2.length),(4,iv x.1)],[(0,.row 1 (x.2.map dy))],1⟩
attribute [push_cast] Yf.eq_def
theorem fK (s:ByteArray) (hs:s.size≤1000000000):an Tryz.prog G0 43 [sv s] [] 0 (yE (aa s 0)) []:=by
 refine vF ab [0,2,3,4,5,9] Tryz.func43 rfl Tryz.results43 Tryz.ntmps43 ?_;(repeat' (first|(refine' cD)|fail))
 refine vL (lv:=[0,2,3,4,5,9]) ab (Yf s) (fun x=>x.2++aa s x.1=aa s 0∧x.2.length≤x.1∧x.1≤s.size+4) (fun x=>s.size - x.1) ((0,[])) (aC.nil 3 1 (aC.go [0,3,4] (by exact vS) rfl)) ?_ ?_
 ·simp
 rintro ⟨i,es⟩ ⟨h1,h2,h3⟩;simp only at h1 h2 h3;have hp:=ke s i;have hq:=w8 s i;rcases Nat.lt_or_ge i s.size with hi|hi
 ·rw [cJ hi] at h1;(repeat' (first|with_reducible refine vC (Lo s i hs hi) ?_|(refine' cD)|fail))
  rw [x8];refine aG.go ((i+(Utf8.decode s i).2,es++[((Utf8.decode s i).1:Int)])) [0,3,4] (by exact vS) ?_ ?_
  ·show s.size - (i+(Utf8.decode s i).2)<s.size - i;omega
  ·exact ⟨by rw [←h1];simp,by simp;omega,by simp only;omega⟩
 ·rw [bI (by omega),List.append_nil] at h1;(repeat' (first|(refine' cD)|fail))
  refine ae.frz 0 (ae.out ?_);(repeat' (first|(refine' cD)|fail))
  rw [h1,List.take_of_length_le (by simp)]
def Uh (l:List Int) (i:Nat):St:=⟨[(3,sv ⟨(aL (l.take i)).toArray⟩),(7,yE l),(8,iv l.length),(9,iv i)],[],0⟩
attribute [push_cast] Uh.eq_def
theorem dW (r:Int):(1≤de r↔Utf8.valid r=true)∧(de r=0↔Utf8.valid r=false):=by
 have h:Utf8.valid r=true↔(0≤r∧r≤1114111 ∧ ¬(55296≤r∧r≤57343)):=by simp [Utf8.valid];omega
 have h2:Utf8.valid r=false ↔ ¬(0≤r∧r≤1114111 ∧ ¬(55296≤r∧r≤57343)):=by rw [←h];simp
 rw [h,h2];unfold de;repeat' split
 all_goals omega
theorem BO (l:List Int) (hl:l.length≤1000000000):an Tryz.prog G0 96 [yE l] [] 0 (sv ⟨(aL l).toArray⟩) []:=by
 refine vF ab [0,2,3,5,6,7,8,9,10,16] Tryz.func96 rfl Tryz.results96 Tryz.ntmps96 ?_;(repeat' (first|(refine' cD)|fail))
 refine vL (lv:=[0,2,3,5,6,7,8,9,10,16]) ab (Uh l) (fun i=>i≤l.length) (fun i=>l.length - i) (0) ((aC.go [3,7,8,9] (by exact vS) rfl)) ?_ ?_
 ·exact Nat.zero_le _
 intro i hi;rcases Nat.lt_or_ge i l.length with hil|hil
 ·obtain ⟨r,hr⟩ : ∃r,l[i]? = some r:=⟨_,List.getElem?_eq_getElem hil⟩
  obtain ⟨v1,v2⟩:=dW r;have hsz:de r=0∨1≤de r:=by unfold de;repeat' split<;>omega
  have hel:=cu (l.take i);have hb:de 65533=3:=by decide
  have hz:=encode_size_le r;have hz2:(Utf8.encode 65533).size≤4:=encode_size_le _;have hz3:({ data:=(aL (l.take i)).toArray } : ByteArray).size=(aL (l.take i)).length:=by simp [ByteArray.size]
  rw [List.length_take,Nat.min_eq_left hi] at hel;(repeat' (first|(refine' cD)|fail))
  refine aI.is i r (by omega) hr ?_;(repeat' (first|with_reducible refine vC (wc _) ?_|with_reducible refine vC (CU 65533 3 hb (by omega)) ?_|with_reducible refine vC (CU r _ rfl (by omega)) ?_|(refine' cD)|fail))
  ·have hv:=v2.1 h;rw [DW];refine aG.go (i+1) [3,7,8,9] (by unfold Uh;rw [ax hr,kf,lg r hv];exact vS) ?_ ?_
   ·show l.length - (i+1)<l.length - i;omega
   ·show i+1≤l.length;omega
  ·rw [DW];refine aG.go (i+1) [3,7,8,9] (by unfold Uh;rw [ax hr,kf];exact vS) ?_ ?_
   ·show l.length - (i+1)<l.length - i;omega
   ·show i+1≤l.length;omega
 ·skip;(repeat' (first|with_reducible refine ae.out ?_|(refine' cD)|fail))
  rw [List.take_of_length_le hil]
theorem Bv {r:Int} (hv:Utf8.valid r=true):0≤r∧r≤1114111 ∧ ¬(55296≤r∧r≤57343):=by
 simp [Utf8.valid] at hv;omega
theorem xE {r:Int} (hv:Utf8.valid r=true):cG (Utf8.encode r)=r∧de r=(Utf8.encode r).size:=by
 have h:=Bv hv;have eb:=eD r h;by_cases h1:r<128
 ·rw [if_pos h1] at eb;have b0:=bi eb 0;simp only [List.getD_cons_zero] at b0;have sz:(Utf8.encode r).size=1:=by rw [eb];rfl
  refine ⟨?_,?_⟩
  ·rw [cG,if_pos sz,b0];simp;omega
  ·rw [sz,(cP r 1 (by omega)).2 (by omega)];rfl
 ·rw [if_neg h1] at eb;by_cases h2:r<2048
  ·rw [if_pos h2] at eb;have b0:=bi eb 0;have b1:=bi eb 1;simp only [List.getD_cons_zero,List.getD_cons_succ] at b0 b1;have sz:(Utf8.encode r).size=2:=by rw [eb];rfl
   refine ⟨?_,?_⟩
   ·rw [cG,if_neg (by omega),sz];show 64*(bT _ 0 - gJ (Utf8.encode r).size)+bT _ 1 - 128=r;rw [sz,b0,b1];show 64*((UInt8.ofNat (192+r / 64).toNat).toNat - (192:Int))+(UInt8.ofNat (128+r % 64).toNat).toNat - 128=r;simp;omega
   ·rw [sz,(cP r 2 (by omega)).2 (by omega)];rfl
  ·rw [if_neg h2] at eb;by_cases h3:r<65536
   ·rw [if_pos h3] at eb;have b0:=bi eb 0;have b1:=bi eb 1;have b2:=bi eb 2;simp only [List.getD_cons_zero,List.getD_cons_succ] at b0 b1 b2;have sz:(Utf8.encode r).size=3:=by rw [eb];rfl
    refine ⟨?_,?_⟩
    ·rw [cG,if_neg (by omega),sz];show 64*(64*(bT _ 0 - gJ (Utf8.encode r).size)+bT _ 1 - 128)+bT _ 2 - 128=r;rw [sz,b0,b1,b2,show gJ 3=224 from rfl];simp;omega
    ·rw [sz,(cP r 3 (by omega)).2 (by omega)];rfl
   ·rw [if_neg h3] at eb;have b0:=bi eb 0;have b1:=bi eb 1;have b2:=bi eb 2;have b3:=bi eb 3;simp only [List.getD_cons_zero,List.getD_cons_succ] at b0 b1 b2 b3;have sz:(Utf8.encode r).size=4:=by rw [eb];rfl
    refine ⟨?_,?_⟩
    ·rw [cG,if_neg (by omega),sz];show 64*(64*(64*(bT _ 0 - gJ (Utf8.encode r).size)+bT _ 1 - 128)+bT _ 2 - 128)+bT _ 3 - 128=r;rw [sz,b0,b1,b2,b3,show gJ 4=240 from rfl];simp;omega
    ·rw [sz,(cP r 4 (by omega)).2 (by omega)];rfl
def cL (l:List Int):ByteArray:=⟨(aL l).toArray⟩
def HI (l:List Int):Prop:= ∀r∈l,Utf8.valid r=true
theorem bK (l:List Int):(cL l).size=(aL l).length:=by simp [cL,ByteArray.size]
theorem kg (r:Int):aL [r]=(Utf8.encode r).data.toList:=by simp [aL]
theorem a4 (a b:List Int):aL (a++b)=aL a++aL b:=by simp [aL]
theorem LK (a b:List Int) (r:Int):cE (cL (a++r::b)) (aL a).length (Utf8.encode r).size=Utf8.encode r:=by
 have e:aL (a++r::b)=aL a++((Utf8.encode r).data.toList++aL b):=by
  rw [a4,show r::b=[r]++b from rfl,a4,kg]
 have hs:(Utf8.encode r).data.toList.length=(Utf8.encode r).size:=by rw [Array.length_toList];rfl
 apply ByteArray.ext;apply Array.ext';rw [cE,ByteArray.data_extract];simp only [cL,e,Array.toList_extract,List.extract_eq_take_drop];rw [List.drop_left,show (aL a).length+(Utf8.encode r).size - (aL a).length=(Utf8.encode r).data.toList.length by omega,List.take_left]
theorem w5 (a b:List Int) (r:Int) (hv:Utf8.valid r=true):((Utf8.decode (cL (a++r::b)) (aL a).length).1:Int)=r∧(Utf8.decode (cL (a++r::b)) (aL a).length).2=(Utf8.encode r).size:=by
 obtain ⟨h1,h2⟩:=xE hv;have h3:=(dW r).1.2 hv;have h4:de r≤4:=by unfold de;repeat' split<;>omega
 have hc:=LK a b r;have hle:(aL a).length+(Utf8.encode r).size≤(cL (a++r::b)).size:=by
  rw [bK,a4,List.length_append,show r::b=[r]++b from rfl,a4,kg,List.length_append];rw [Array.length_toList];exact Nat.add_le_add_left (Nat.le_add_right _ _) _
 have:=w7 (s:=cL (a++r::b)) (i:=(aL a).length) (n:=(Utf8.encode r).size) (by omega) (by omega) hle (by
  unfold okT;rw [hc,h1];exact ⟨h2,rfl⟩)
 rw [hc,h1] at this;exact this
theorem pc : ∀(b a:List Int),HI b→aa (cL (a++b)) (aL a).length=b
 | [],a,_=>by
  rw [List.append_nil,bI (by rw [bK];omega)]
 | r::b,a,h=>by
  have hv:=h r (by simp);obtain ⟨h1,h2⟩:=w5 a b r hv;have h3:=(dW r).1.2 hv;have h4:=(xE hv).2;have hlt:(aL a).length<(cL (a++r::b)).size:=by
   rw [bK,a4,List.length_append,show r::b=[r]++b from rfl,a4,kg,List.length_append,show (Utf8.encode r).data.toList.length=(Utf8.encode r).size by rw [Array.length_toList];rfl];omega
  rw [cJ hlt,h1,h2];have:=pc b (a++[r]) (fun x hx=>h x (by simp [hx]));rw [a4,List.length_append,kg,show (Utf8.encode r).data.toList.length=(Utf8.encode r).size by rw [Array.length_toList];rfl,List.append_assoc,List.singleton_append] at this;rw [this]
theorem FL (s:ByteArray) (i:Nat) (h:i<s.size):Utf8.valid ((Utf8.decode s i).1:Int)=true:=by
 by_cases hex : ∃n,1≤n∧n≤4∧i+n≤s.size∧okT s i n
 ·obtain ⟨n,h1,h4,hle,hok⟩:=hex;rw [(w7 h1 h4 hle hok).1];refine (dW _).1.1 ?_;rw [hok.1];omega
 ·rw [w6 h (fun n h1 h4 hle hok=>hex ⟨n,h1,h4,hle,hok⟩)];decide
theorem jW (s:ByteArray) : ∀(k i:Nat),s.size - i≤k→HI (aa s i)
 | 0,i,h=>by
  rw [bI (by omega)];intro r hr;cases hr
 | k+1,i,h=>by
  by_cases hi:i<s.size
  ·rw [cJ hi];have:=ke s i;intro r hr;rcases List.mem_cons.1 hr with rfl|hr
   ·exact FL s i hi
   ·exact jW s k _ (by omega) r hr
  ·rw [bI hi];intro r hr;cases hr
end Go.Proofs.YtkkanlcjjpoklaaGreatDoor
