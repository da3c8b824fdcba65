/- What the theorem leans on, part 11. -/
import Derived.Laws.Cover4
import Derived.Test.YtkkanlcjjpoklaaGreatDoorStVPAG
import Derived.Test.YtkkanlcjjpoklaaGreatDoorStVPAJ
set_option linter.unusedSimpArgs false
set_option linter.unusedVariables false
set_option maxRecDepth 8000
namespace Go.Proofs.YtkkanlcjjpoklaaGreatDoor
abbrev rv (r:Int):V:= .d (.lit (.int .i32 r))
abbrev Az (l:List Int):V:= .d (.sd 1 false (l.map dm))
abbrev sv (s:ByteArray):V:= .d (.lit (.string s))
theorem xy (r:Int):ap Tryz.prog G0 151 [rv r] [] 0 (iv (dy r)) []:=by
 refine vF ab [0,2,16,18,20,22] Tryz.func151 rfl Tryz.results151 Tryz.ntmps151 ?_;(repeat' (first|with_reducible refine ae.out ?_|(refine' cP)|fail))
 all_goals
  congr 3;unfold dy;repeat' split
  all_goals first|rfl|omega
theorem Mb (r:Int):ap Tryz.prog G0 174 [rv r] [] 0 (bv (Utf8.valid r)) []:=by
 refine vF ab [0,2] Tryz.func174 rfl Tryz.results174 Tryz.ntmps174 ?_;(repeat' (first|with_reducible refine ae.out ?_|(refine' cP)|fail))
 all_goals
  congr 1;rw [act];simp [Utf8.valid];try omega
def TL (s:ByteArray) (x:Nat × Int):St:=⟨[(3,iv x.2),(5,.it 0)],[(0,.iter s x.1)],1⟩
attribute [push_cast] TL.eq_def
theorem re (s:ByteArray) (hs:s.size≤1000000000):ap Tryz.prog G0 21 [sv s] [] 0 (iv (aa s 0).length) []:=by
 refine vF ab [0,2,3,5,7] Tryz.func21 rfl Tryz.results21 Tryz.ntmps21 ?_;(repeat' (first|(refine' cP)|fail))
 refine vL (lv:=[0,2,3,5,7]) ab (TL s) (fun x=>0≤x.2∧x.2≤x.1∧x.2+(aa s x.1).length=(aa s 0).length∧x.1≤s.size+4) (fun x=>s.size - x.1) ((0,0)) ((aC.go [3,5] (by exact vS) rfl)) ?_ ?_
 ·simp
 rintro ⟨i,n⟩ ⟨h0,h1,h2,h3⟩;simp only at h0 h1 h2 h3;have hp:=kW s i;have hq:=yx s i;(repeat' (first|with_reducible refine ae.out ?_|(refine' cP)|fail))
 ·rw [cY h,aa6] at h2;refine aG.go ((i+(Utf8.decode s i).2,n+1)) [3,5] (by exact vS) ?_ ?_
  ·show s.size - (i+(Utf8.decode s i).2)<s.size - i;omega
  ·exact ⟨by simp only;omega,by simp only;omega,by simp only;omega,by simp only;omega⟩
 ·rw [bQ h] at h2;simp at h2;rw [h2]
def TN (s:ByteArray) (x:Nat × List Int):St:=⟨[(3,.so 0 1 0 x.2.length),(7,.it 1)],[(0,.row 1 (x.2.map dm)),(1,.iter s x.1)],2⟩
attribute [push_cast] TN.eq_def
theorem zI (es:List Int) (r:Int):es.map dm++[D.lit (.int .i32 r)]=(es++[r]).map dm:=by rw [abc];rfl
theorem kS (s:ByteArray) (hs:s.size≤1000000000):ap Tryz.prog G0 57 [sv s] [] 0 (Az (aa s 0)) []:=by
 refine vF ab [0,2,3,5,7,8,9] Tryz.func57 rfl Tryz.results57 Tryz.ntmps57 ?_;(repeat' (first|(refine' cP)|fail))
 refine vL (lv:=[0,2,3,5,7,8,9]) ab (TN s) (fun x=>x.2++aa s x.1=aa s 0∧x.2.length≤x.1∧x.1≤s.size+4) (fun x=>s.size - x.1) ((0,[])) (aC.nil 3 1 (aC.go [3,7] (by exact vS) rfl)) ?_ ?_
 ·simp
 rintro ⟨i,es⟩ ⟨h1,h2,h3⟩;simp only at h1 h2 h3;have hp:=kW s i;have hq:=yx s i;(repeat' (first|(refine' cP)|fail))
 ·rw [cY h] at h1;rw [zI];refine aG.go ((i+(Utf8.decode s i).2,es++[((Utf8.decode s i).1:Int)])) [3,7] (by exact vS) ?_ ?_
  ·show s.size - (i+(Utf8.decode s i).2)<s.size - i;omega
  ·exact ⟨by rw [←h1];simp,by simp;omega,by simp only;omega⟩
 ·rw [bQ h,abb] at h1;refine ae.frz 0 (ae.out ?_);(repeat' (first|(refine' cP)|fail))
  rw [h1,aaW (by simp)]
abbrev JE (b:UInt8):D:= .lit (.int .u8 b.toNat)
theorem Hi (b:UInt8):jh (JE b)=b:=by simp [jh,jN]
theorem wD (l:List UInt8):(l.map JE).map jh=l:=by
 rw [aci];have:(jh ∘ JE)=id:=by funext b;exact Hi b
 rw [this,List.map_id]
theorem Ej (l:List UInt8) : ∀y∈l.map JE,oM y:=by
 intro y hy;obtain ⟨b,_,rfl⟩:=abY.1 hy;exact ⟨_,rfl⟩
def aM (l:List Int):List UInt8:=l.flatMap fun r=>(Utf8.encode r).data.toList
theorem kX (l:List Int) (r:Int):aM (l++[r])=aM l++(Utf8.encode r).data.toList:=by
 unfold aM;rw [adH,ace,List.flatMap_nil,abb]
theorem GD (es t:List UInt8):es.map JE++t.map (fun b=>D.lit (.int .u8 b.toNat))=(es++t).map JE:=by rw [abc]
theorem cJ (l:List Int):(aM l).length≤4*l.length:=by
 induction l with
 | nil=>simp [aM]
 | cons r l ih=>
  have:=encode_size_le r;have e:(Utf8.encode r).data.toList.length=(Utf8.encode r).size:=by rw [abr];rfl
  simp only [aM,ace,Or,aa6] at ih ⊢;omega
theorem l7 (r:Int) (h:Utf8.valid r=false):Utf8.encode r=Utf8.encode 65533:=by
 unfold Utf8.encode;rw [h];rfl
def enS (l:List Int) (x:Nat × List UInt8):St:=⟨[(3,.so 0 1 0 x.2.length),(6,Az l),(7,iv l.length),(8,iv x.1)],[(0,.row 1 (x.2.map JE))],1⟩
attribute [push_cast] enS.eq_def
theorem ww (l:List Int) (hl:l.length≤1000000000):ap Tryz.prog G0 119 [Az l] [] 0 (sv ⟨(aM l).toArray⟩) []:=by
 refine vF ab [0,2,3,5,6,7,8,9,14] Tryz.func119 rfl Tryz.results119 Tryz.ntmps119 ?_;(repeat' (first|(refine' cP)|fail))
 refine vL (lv:=[0,2,3,5,6,7,8,9,14]) ab (enS l) (fun x=>x.1≤l.length∧x.2=aM (l.take x.1)) (fun x=>l.length - x.1) ((0,[])) (aC.nil 3 1 (aC.go [3,6,7,8] (by exact vS) rfl)) ?_ ?_
 ·exact ⟨aa1 _,rfl⟩
 rintro ⟨i,es⟩ ⟨hi,he⟩;simp only at hi he;have hel:es.length≤4*i:=by
  have:=cJ (l.take i);rw [aa7] at this;rw [he];omega
 rcases aa2 i l.length with hil|hil
 ·obtain ⟨r,hr⟩ : ∃r,l[i]? = some r:=⟨_,IO hil⟩
  have hz:=encode_size_le r;have hz2:(Utf8.encode 65533).size≤4:=encode_size_le _;(repeat' (first|(refine' cP)|fail))
  refine aF.is i r (by omega) hr ?_;(repeat' (first|with_reducible refine vC (Mb _) ?_|(refine' cP)|fail))
  ·have hv:Utf8.valid r=false:=by simpa using h
   rw [GD];refine aG.go ((i+1,es++(Utf8.encode 65533).data.toList)) [3,6,7,8] (by exact vS) ?_ ?_
   ·show l.length - (i+1)<l.length - i;omega
   ·exact ⟨by simp only;omega,by rw [ao hr,kX,←he,l7 r hv]⟩
  ·rw [GD];refine aG.go ((i+1,es++(Utf8.encode r).data.toList)) [3,6,7,8] (by exact vS) ?_ ?_
   ·show l.length - (i+1)<l.length - i;omega
   ·exact ⟨by simp only;omega,by rw [ao hr,kX,←he]⟩
 ·skip;(repeat' (first|with_reducible refine ae.out ?_|(refine' cP)|fail))
  rw [aaW (by simp)];refine pT.intro' (Ej es) ?_;rw [wD,he,aaW hil];refine (?_:ez _ _);(repeat' (first|with_reducible refine ae.out ?_|(refine' cP)|fail))
theorem fc (r:Int) (h:0≤r∧r≤1114111 ∧ ¬(55296≤r∧r≤57343)):Utf8.encode r=⟨(if r<128 then [UInt8.ofNat r.toNat] else if r<2048 then [UInt8.ofNat (192+r / 64).toNat,UInt8.ofNat (128+r % 64).toNat]
 else if r<65536 then [UInt8.ofNat (224+r / 4096).toNat,UInt8.ofNat (128+r / 64 % 64).toNat,UInt8.ofNat (128+r % 64).toNat]
 else [UInt8.ofNat (240+r / 262144).toNat,UInt8.ofNat (128+r / 4096 % 64).toNat,UInt8.ofNat (128+r / 64 % 64).toNat,UInt8.ofNat (128+r % 64).toNat]).toArray⟩:=by
 have hv:Utf8.valid r=true:=by simp [Utf8.valid];omega
 obtain ⟨k,rfl⟩ : ∃k:Nat,r=k:=⟨r.toNat,by omega⟩
 unfold Utf8.encode;rw [hv];simp only [ab0,ack];have e1:((192:Int)+(k:Int) / 64).toNat=192+k / 64:=by omega
 have e2:((128:Int)+(k:Int) % 64).toNat=128+k % 64:=by omega
 have e3:((224:Int)+(k:Int) / 4096).toNat=224+k / 4096:=by omega
 have e4:((128:Int)+(k:Int) / 64 % 64).toNat=128+k / 64 % 64:=by omega
 have e5:((240:Int)+(k:Int) / 262144).toNat=240+k / 262144:=by omega
 have e6:((128:Int)+(k:Int) / 4096 % 64).toNat=128+k / 4096 % 64:=by
  obtain ⟨q,hq⟩ : ∃q:Nat,q=k / 4096:=⟨_,rfl⟩
  have:(k:Int) / 4096=(q:Int):=by omega
  rw [this,←hq];omega
 rw [e1,e2,e3,e4,e5,e6];by_cases h1:k<128
 ·have g1:(k:Int)<128:=by omega
  simp only [aa3 h1,aa3 g1]
 ·have g1 : ¬(k:Int)<128:=by omega
  by_cases h2:k<2048
  ·have g2:(k:Int)<2048:=by omega
   simp only [aaY h1,aaY g1,aa3 h2,aa3 g2]
  ·have g2 : ¬(k:Int)<2048:=by omega
   by_cases h3:k<65536
   ·have g3:(k:Int)<65536:=by omega
    simp only [aaY h1,aaY g1,aaY h2,aaY g2,aa3 h3,aa3 g3]
   ·have g3 : ¬(k:Int)<65536:=by omega
    simp only [aaY h1,aaY g1,aaY h2,aaY g2,aaY h3,aaY g3]
set_option maxHeartbeats 1000000 in
theorem EK (r n:Int) (h:dy r=n) (hn:1≤n):ap Tryz.prog G0 152 [rv r,iv n] [] 0 (sv (Utf8.encode r)) []:=by
 rw [dd r n hn] at h;rw [fc r h.1];refine vF ab [0,1,4,5,6,12,24] Tryz.func152 rfl Tryz.results152 Tryz.ntmps152 ?_;(repeat' (first|with_reducible refine ae.out ?_|(refine' cP)|fail))
 ·rw [aa3 (by omega)]
 ·rw [aaY (by omega),aa3 (by omega)]
 ·rw [aaY (by omega),aaY (by omega),aa3 (by omega)]
 ·rw [aaY (by omega),aaY (by omega),aaY (by omega)]
def b6 (t:ByteArray) (i:Nat):Int:=(t.data.getD i 0).toNat
theorem cz (t:ByteArray) (i:Nat):0≤b6 t i∧b6 t i<256:=by
 have:=(t.data.getD i 0).toNat_lt;unfold b6;omega
theorem Q9 (t:ByteArray) (i:Nat):((t.data.getD i 0).toNat:Int)=b6 t i:=rfl
attribute [push_cast] Q9
def iz (n:Nat):Int:=if n=2 then 192 else if n=3 then 224 else 240
def dJ (t:ByteArray):Nat→Int
 | 0=>0
 | 1=>b6 t 0 - iz t.size
 | i+2=>64*dJ t (i+1)+b6 t (i+1) - 128
def cR (t:ByteArray):Int:=if t.size=1 then b6 t 0 else dJ t t.size
def Ya (t:ByteArray) (i:Nat):St:=⟨[(0,sv t),(3,rv (dJ t i)),(4,iv i)],[],0⟩
attribute [push_cast] Ya.eq_def
theorem LY (t:ByteArray) (i:Nat) (h:1≤i) (h4:i≤4):(i=1 ∧ -240≤dJ t i∧dJ t i≤300)∨(i=2 ∧ -16000≤dJ t i∧dJ t i≤20000)∨(i=3 ∧ -1100000≤dJ t i∧dJ t i≤1300000)∨(i=4 ∧ -71000000≤dJ t i∧dJ t i≤84000000):=by
 have b0:=cz t 0;have b1:=cz t 1;have b2:=cz t 2;have b3:=cz t 3;have ho:192≤iz t.size∧iz t.size≤240:=by unfold iz;repeat' split<;>omega
 have h4':i=1∨i=2∨i=3∨i=4:=by omega
 have e1:dJ t 1=b6 t 0 - iz t.size:=rfl;have e2:dJ t 2=64*dJ t 1+b6 t 1 - 128:=rfl;have e3:dJ t 3=64*dJ t 2+b6 t 2 - 128:=rfl;have e4:dJ t 4=64*dJ t 3+b6 t 3 - 128:=rfl;rcases h4' with rfl|rfl|rfl|rfl
 ·left;omega
 ·right;left;omega
 ·right;right;left;omega
 ·right;right;right;omega
theorem EN (t:ByteArray) (i:Nat) (h:1≤i):dJ t (i+1)=64*dJ t i+b6 t i - 128:=by
 obtain ⟨k,rfl⟩ : ∃k,i=k+1:=⟨i - 1,by omega⟩
 rfl
set_option maxHeartbeats 1000000 in
theorem IA (t:ByteArray) (h0:0<t.size) (h4:t.size≤4):ap Tryz.prog G0 150 [sv t] [] 0 (rv (cR t)) []:=by
 have b0:=cz t 0;refine vF ab [0,2,3,4,9,12,15,19,26] Tryz.func150 rfl Tryz.results150 Tryz.ntmps150 ?_;rcases aa2 t.size 2 with hz|hz
 ·have hz1:t.size=1:=by omega
  (repeat' (first|with_reducible refine ae.out ?_|(refine' cP)|fail))
  rw [cR,aa3 hz1]
 ·have e1:dJ t 1=b6 t 0 - iz t.size:=rfl;have ho:(t.size=2∧iz t.size=192)∨(t.size=3∧iz t.size=224)∨(t.size=4∧iz t.size=240):=by unfold iz;repeat' split<;>omega
  have hn:cR t=dJ t t.size:=by rw [cR,aaY (by omega)]
  rw [hn];(repeat' (first|with_reducible refine ae.out ?_|(refine' cP)|fail))
  all_goals
   refine vL (lv:=[0,2,3,4,9,12,15,19,26]) ab (Ya t) (fun i=>1≤i∧i≤t.size) (fun i=>t.size - i) (1) ((aC.go [0,3,4] (by exact vS) rfl)) ?_ ?_
   ·exact ⟨by omega,by omega⟩
   rintro i ⟨hi1,hi2⟩;have hp:=LY t i hi1 (by omega);have hb:=cz t i;(repeat' (first|with_reducible refine ae.out ?_|(refine' cP)|fail))
   ·refine aG.go (i+1) [0,3,4] (by unfold Ya;rw [EN t i hi1];exact vS) ?_ ?_
    ·show t.size - (i+1)<t.size - i;omega
    ·exact ⟨by omega,by omega⟩
   ·rw [show i=t.size by omega]
theorem fW (x:Int) (b:UInt8) (h0:0≤x) (h1:x<256):UInt8.ofNat x.toNat=b↔x=(b.toNat:Int):=by
 constructor
 ·rintro rfl;simp;omega
 ·intro h;rw [h];simp
theorem bt {t:ByteArray} {l:List UInt8} (h:t=⟨l.toArray⟩) (i:Nat):b6 t i=((l.getD i 0).toNat:Int):=by
 subst h;unfold b6;simp [abE,abT]
theorem mV (t:ByteArray):t=⟨t.data.toList.toArray⟩:=by cases t;simp
theorem Ye (t:ByteArray) (ht:t.size=1):(dy (cR t)=1∧Utf8.encode (cR t)=t)↔b6 t 0<128:=by
 have hn:cR t=b6 t 0:=by rw [cR,aa3 ht]
 have hb:=cz t 0;rw [hn,dd _ _ (by omega)];constructor
 ·rintro ⟨h1,_⟩;omega
 ·intro h;refine ⟨by omega,?_⟩;rw [fc _ (by omega),aa3 h];obtain ⟨l,hl⟩ : ∃l,l=t.data.toList:=⟨_,rfl⟩
  have ht':=mV t;rw [←hl] at ht';have hll:l.length=1:=by rw [hl,abr];exact ht
  match l,hll with
  | [a],_=>
   have:=bt ht' 0;simp only [ab4] at this;rw [this];simp;exact ht'.symm
theorem ok2 (t:ByteArray) (ht:t.size=2):(dy (cR t)=2∧Utf8.encode (cR t)=t)↔(b6 t 0 / 32=6∧b6 t 1 / 64=2∧128≤(b6 t 0 % 32)*64+b6 t 1 % 64):=by
 have hn:cR t=64*(b6 t 0 - 192)+b6 t 1 - 128:=by rw [cR,aaY (by omega),ht];show 64*(b6 t 0 - iz t.size)+b6 t 1 - 128=_;rw [ht];rfl
 rw [←U1 _ _ (cz t 0) (cz t 1),←hn];refine aeb fun hs =>?_
 rw [dd _ _ (by omega)] at hs;rw [fc _ hs.1,aaY (by omega),aa3 (by omega),QI];obtain ⟨l,hl⟩ : ∃l,l=t.data.toList:=⟨_,rfl⟩
 have ht':=mV t;rw [←hl] at ht';have hll:l.length=2:=by rw [hl,abr];exact ht
 match l,hll with
 | [a,b],_=>
  have e0:=bt ht' 0;have e1:=bt ht' 1;simp only [ab4,ach] at e0 e1;rw [e0,e1];generalize cR t=r at hs;conv=>lhs;rhs;rw [ht']
  simp only [adN,ad2,ab7,adc,aec];rw [fW _ _ (by omega) (by omega),fW _ _ (by omega) (by omega)]
theorem ok3 (t:ByteArray) (ht:t.size=3):(dy (cR t)=3∧Utf8.encode (cR t)=t) ↔
 (b6 t 0 / 16=14∧b6 t 1 / 64=2∧b6 t 2 / 64=2∧2048≤(b6 t 0 % 16)*4096+(b6 t 1 % 64)*64+b6 t 2 % 64 ∧ ¬(55296≤(b6 t 0 % 16)*4096+(b6 t 1 % 64)*64+b6 t 2 % 64∧(b6 t 0 % 16)*4096+(b6 t 1 % 64)*64+b6 t 2 % 64≤57343)):=by
 have hn:cR t=64*(64*(b6 t 0 - 224)+b6 t 1 - 128)+b6 t 2 - 128:=by rw [cR,aaY (by omega),ht];show 64*(64*(b6 t 0 - iz t.size)+b6 t 1 - 128)+b6 t 2 - 128=_;rw [ht];rfl
 rw [←U2 _ _ _ (cz t 0) (cz t 1) (cz t 2),←hn];refine aeb fun hs =>?_
 rw [dd _ _ (by omega)] at hs;rw [fc _ hs.1,aaY (by omega),aaY (by omega),aa3 (by omega),QJ];obtain ⟨l,hl⟩ : ∃l,l=t.data.toList:=⟨_,rfl⟩
 have ht':=mV t;rw [←hl] at ht';have hll:l.length=3:=by rw [hl,abr];exact ht
 match l,hll with
 | [a,b,c],_=>
  have e0:=bt ht' 0;have e1:=bt ht' 1;have e2:=bt ht' 2;simp only [ab4,ach] at e0 e1 e2;rw [e0,e1,e2];generalize cR t=r at hs;conv=>lhs;rhs;rw [ht']
  simp only [adN,ad2,ab7,adc,aec];rw [fW _ _ (by omega) (by omega),fW _ _ (by omega) (by omega),fW _ _ (by omega) (by omega)]
theorem ok4 (t:ByteArray) (ht:t.size=4):(dy (cR t)=4∧Utf8.encode (cR t)=t) ↔
 (b6 t 0 / 8=30∧b6 t 1 / 64=2∧b6 t 2 / 64=2∧b6 t 3 / 64=2∧65536≤(b6 t 0 % 8)*262144+(b6 t 1 % 64)*4096+(b6 t 2 % 64)*64+b6 t 3 % 64∧(b6 t 0 % 8)*262144+(b6 t 1 % 64)*4096+(b6 t 2 % 64)*64+b6 t 3 % 64≤1114111):=by
 have hn:cR t=64*(64*(64*(b6 t 0 - 240)+b6 t 1 - 128)+b6 t 2 - 128)+b6 t 3 - 128:=by rw [cR,aaY (by omega),ht];show 64*(64*(64*(b6 t 0 - iz t.size)+b6 t 1 - 128)+b6 t 2 - 128)+b6 t 3 - 128=_;rw [ht];rfl
 rw [←U3 _ _ _ _ (cz t 0) (cz t 1) (cz t 2) (cz t 3),←hn];refine aeb fun hs =>?_
 rw [dd _ _ (by omega)] at hs;rw [fc _ hs.1,aaY (by omega),aaY (by omega),aaY (by omega),QK];obtain ⟨l,hl⟩ : ∃l,l=t.data.toList:=⟨_,rfl⟩
 have ht':=mV t;rw [←hl] at ht';have hll:l.length=4:=by rw [hl,abr];exact ht
 match l,hll with
 | [a,b,c,d],_=>
  have e0:=bt ht' 0;have e1:=bt ht' 1;have e2:=bt ht' 2;have e3:=bt ht' 3;simp only [ab4,ach] at e0 e1 e2 e3;rw [e0,e1,e2,e3];generalize cR t=r at hs;conv=>lhs;rhs;rw [ht']
  simp only [adN,ad2,ab7,adc,aec];rw [fW _ _ (by omega) (by omega),fW _ _ (by omega) (by omega),fW _ _ (by omega) (by omega),fW _ _ (by omega) (by omega)]
abbrev cQ (s:ByteArray) (i n:Nat):ByteArray:=s.extract i (i+n)
theorem ee {s:ByteArray} {i n:Nat} (h:i+n≤s.size):(cQ s i n).size=n:=by
 rw [ByteArray.size_extract];omega
theorem bL {s:ByteArray} {i n k:Nat} (h:i+n≤s.size) (hk:k<n):b6 (cQ s i n) k=b6 s (i+k):=by
 have hk2:k<(cQ s i n).size:=by rw [ee h];exact hk
 have hs:i+k<s.size:=by omega
 unfold b6;have e1:(cQ s i n).data.getD k 0=s.data.getD (i+k) 0:=by
  rw [ado];simp only [abE,Array.getElem?_extract];rw [aa3 (by have:s.data.size=s.size:=rfl;omega)]
 rw [e1]
def okT (s:ByteArray) (i n:Nat):Prop:=dy (cR (cQ s i n))=n∧Utf8.encode (cR (cQ s i n))=cQ s i n
theorem g8 (s:ByteArray) (i:Nat):((s.get! i).toNat:Int)=b6 s i:=by
 unfold b6 ByteArray.get!;congr 2
theorem yu {s:ByteArray} {i n:Nat} (hn:1≤n) (hn4:n≤4) (h:i+n≤s.size) (hok:okT s i n):((Utf8.decode s i).1:Int)=cR (cQ s i n)∧(Utf8.decode s i).2=n:=by
 have hsz:=ee h;have b0:=g8 s (i+0);have b1:=g8 s (i+1);have b2:=g8 s (i+2);have b3:=g8 s (i+3);have g0:=cz s (i+0);have g1:=cz s (i+1);have g2:=cz s (i+2);have g3:=cz s (i+3);simp only [abD] at b0 g0;have h4:n=1∨n=2∨n=3∨n=4:=by omega
 unfold okT at hok;rcases h4 with rfl|rfl|rfl|rfl
 ·have hk:=(Ye _ hsz).1 hok;have e0:=bL (k:=0) h (by omega);simp only [abD] at e0;have hnum:cR (cQ s i 1)=b6 (cQ s i 1) 0:=by rw [cR,aa3 hsz]
  rw [hnum];rw [e0] at hk ⊢;unfold Utf8.decode;simp only [abD];rw [aa3 (by omega)];exact ⟨b0,rfl⟩
 ·have hk:=(ok2 _ hsz).1 hok;have e0:=bL (k:=0) h (by omega);simp only [abD] at e0;have e1:=bL (k:=1) h (by omega);have hnum:cR (cQ s i 2)=64*(b6 (cQ s i 2) 0 - 192)+b6 (cQ s i 2) 1 - 128:=by rw [cR,aaY (by omega),hsz];show 64*(b6 (cQ s i 2) 0 - iz (cQ s i 2).size)+b6 (cQ s i 2) 1 - 128=_;rw [hsz];rfl
  rw [hnum];rw [e0,e1] at hk ⊢;unfold Utf8.decode;simp only [abD];rw [aaY (by omega),aa3 (by simp;omega),aa3 (by omega)];exact ⟨by simp only;omega,rfl⟩
 ·have hk:=(ok3 _ hsz).1 hok;have e0:=bL (k:=0) h (by omega);simp only [abD] at e0;have e1:=bL (k:=1) h (by omega);have e2:=bL (k:=2) h (by omega);have hnum:cR (cQ s i 3)=64*(64*(b6 (cQ s i 3) 0 - 224)+b6 (cQ s i 3) 1 - 128)+b6 (cQ s i 3) 2 - 128:=by rw [cR,aaY (by omega),hsz];show 64*(64*(b6 (cQ s i 3) 0 - iz (cQ s i 3).size)+b6 (cQ s i 3) 1 - 128)+b6 (cQ s i 3) 2 - 128=_;rw [hsz];rfl
  rw [hnum];rw [e0,e1,e2] at hk ⊢;unfold Utf8.decode;simp only [abD];rw [aaY (by omega),aaY (by simp;omega),aa3 (by simp;omega),aa3 (by simp [Utf8.valid];omega)];exact ⟨by simp only;omega,rfl⟩
 ·have hk:=(ok4 _ hsz).1 hok;have e0:=bL (k:=0) h (by omega);simp only [abD] at e0;have e1:=bL (k:=1) h (by omega);have e2:=bL (k:=2) h (by omega);have e3:=bL (k:=3) h (by omega);have hnum:cR (cQ s i 4)=64*(64*(64*(b6 (cQ s i 4) 0 - 240)+b6 (cQ s i 4) 1 - 128)+b6 (cQ s i 4) 2 - 128)+b6 (cQ s i 4) 3 - 128:=by rw [cR,aaY (by omega),hsz];show 64*(64*(64*(b6 (cQ s i 4) 0 - iz (cQ s i 4).size)+b6 (cQ s i 4) 1 - 128)+b6 (cQ s i 4) 2 - 128)+b6 (cQ s i 4) 3 - 128=_;rw [hsz];rfl
  rw [hnum];rw [e0,e1,e2,e3] at hk ⊢;unfold Utf8.decode;simp only [abD];rw [aaY (by omega),aaY (by simp;omega),aaY (by simp;omega),aa3 (by simp;omega),aa3 (by simp [Utf8.valid];omega)];exact ⟨by simp only;omega,rfl⟩
theorem FL {s:ByteArray} {i:Nat} (h:Utf8.decode s i=(65533,1)):((Utf8.decode s i).1:Int)=65533∧((Utf8.decode s i).2:Int)=1:=by rw [h];exact ⟨rfl,rfl⟩
theorem yt {s:ByteArray} {i:Nat} (h:i<s.size) (hno : ∀n,1≤n→n≤4→i+n≤s.size → ¬okT s i n):Utf8.decode s i=(65533,1):=by
 have b0:=g8 s (i+0);have b1:=g8 s (i+1);have b2:=g8 s (i+2);have b3:=g8 s (i+3);have g0:=cz s (i+0);simp only [abD] at b0 g0;have k1 : ¬b6 s i<128:=by
  intro hk;refine hno 1 (by omega) (by omega) (by omega) ((Ye _ (ee (by omega))).2 ?_);rw [bL (by omega) (by omega),abD];exact hk
 unfold Utf8.decode;simp only [abD];rw [aaY (by omega)];split
 ·rename_i hc;simp at hc;rw [aaY ?_]
  ·rfl
  ·intro hk;refine hno 2 (by omega) (by omega) (by omega) ((ok2 _ (ee (by omega))).2 ?_);rw [bL (by omega) (by omega),bL (by omega) (by omega),abD];omega
 ·split
  ·rename_i hc;simp at hc;rw [aaY ?_]
   ·rfl
   ·intro hk;simp [Utf8.valid] at hk;refine hno 3 (by omega) (by omega) (by omega) ((ok3 _ (ee (by omega))).2 ?_);rw [bL (by omega) (by omega),bL (by omega) (by omega),bL (by omega) (by omega),abD];omega
  ·split
   ·rename_i hc;simp at hc;rw [aaY ?_]
    ·rfl
    ·intro hk;simp [Utf8.valid] at hk;refine hno 4 (by omega) (by omega) (by omega) ((ok4 _ (ee (by omega))).2 ?_);rw [bL (by omega) (by omega),bL (by omega) (by omega),bL (by omega) (by omega),bL (by omega) (by omega),abD];omega
   ·rfl
theorem um (a b:ByteArray):(a.toList==b.toList)=true↔a=b:=by
 rw [aca,ByteArray.toList_eq,ByteArray.toList_eq];constructor
 ·intro h;cases a;cases b;simpa using h
 ·rintro rfl;rfl
theorem FT (a:List UInt8) (t:ByteArray):(⟨a.toArray⟩:ByteArray)++t=⟨(a++t.data.toList).toArray⟩:=by
 have h:((⟨a.toArray⟩:ByteArray)++t).data=(a++t.data.toList).toArray:=by
  rw [ByteArray.data_append];simp
 rw [←h]
def spS (s:ByteArray) (i:Nat) (n:Nat):St:=⟨[(0,sv s),(1,iv i),(4,.po 0 0),(5,iv n)],[(0,.cell [rv 0,iv 0])],1⟩
attribute [push_cast] spS.eq_def
set_option maxHeartbeats 4000000 in
theorem ND (s:ByteArray) (i:Nat) (hs:s.size≤1000000000) (hi:i<s.size):ap Tryz.prog G0 94 [sv s,iv i] [] 0 (.d (.agg [.lit (.int .i32 (Utf8.decode s i).1),.lit (.int .i64 (Utf8.decode s i).2)])) []:=by
 refine vF ab [0,1,4,5,6,7,15,26,47] Tryz.func94 rfl Tryz.results94 Tryz.ntmps94 ?_;(repeat' (first|(refine' cP)|fail))
 refine vL (lv:=[0,1,4,5,6,7,15,26,47]) ab (spS s i) (fun n=>1≤n∧n≤5∧n≤s.size - i+1 ∧ ∀k,1≤k→k<n → ¬okT s i k) (fun n=>5 - n) (1) ((aC.go [0,1,4,5] (by exact vS) rfl)) ?_ ?_
 ·exact ⟨by omega,by omega,by omega,fun k h1 h2=>by omega⟩
 rintro n ⟨h1,h2,h3,h4⟩;rcases aa2 n 5 with hn5|hn5;rotate_left
 ·obtain ⟨hd1,hd2⟩:=FL (yt hi (fun k a b c=>h4 k a (by omega)));rw [hd1,hd2];(repeat' (first|with_reducible refine ae.out ?_|(refine' cP)|fail))
 rcases aa2 (s.size - i) n with hnr|hnr
 ·obtain ⟨hd1,hd2⟩:=FL (yt hi (fun k a b c=>h4 k a (by omega)));rw [hd1,hd2];(repeat' (first|with_reducible refine ae.out ?_|(refine' cP)|fail))
 have hz:=ee (s:=s) (i:=i) (n:=n) (by omega);(repeat' (first|(with_reducible refine au.d (IA (cQ s i n) (by omega) (by omega)) (by kernel_rfl) rfl rfl ?_)|(with_reducible refine au.d (xy _) (by kernel_rfl) rfl rfl ?_)|(with_reducible refine au.d (EK _ _ (by assumption) (by omega)) (by kernel_rfl) rfl rfl ?_)|with_reducible refine ae.out ?_|(refine' cP)|fail))
 ·rename_i hsz;rw [um] at h;obtain ⟨d1,d2⟩:=yu h1 (by omega) (by omega) (show okT s i n from ⟨hsz,h⟩);rw [d1,d2]
 ·rw [←Bool.not_eq_true,um] at h;refine aG.go (n+1) [0,1,4,5] (by exact vS) ?_ ?_
  ·show 5 - (n+1)<5 - n;omega
  ·refine ⟨by omega,by omega,by omega,fun k a b =>?_⟩;rcases aa2 k n with hk|hk
   ·exact h4 k a hk
   ·have:k=n:=by omega
    subst this;exact fun hok=>h hok.2
 ·refine aG.go (n+1) [0,1,4,5] (by exact vS) ?_ ?_
  ·show 5 - (n+1)<5 - n;omega
  ·refine ⟨by omega,by omega,by omega,fun k a b =>?_⟩;rcases aa2 k n with hk|hk
   ·exact h4 k a hk
   ·have:k=n:=by omega
    subst this;exact fun hok=>h hok.1
def rdS (s:ByteArray) (x:Nat × List Int):St:=⟨[(0,sv s),(3,.so 0 1 0 x.2.length),(4,iv x.1)],[(0,.row 1 (x.2.map dm))],1⟩
attribute [push_cast] rdS.eq_def
theorem dX (s:ByteArray) (hs:s.size≤1000000000):ap Tryz.prog G0 43 [sv s] [] 0 (Az (aa s 0)) []:=by
 refine vF ab [0,2,3,4,5,9] Tryz.func43 rfl Tryz.results43 Tryz.ntmps43 ?_;(repeat' (first|(refine' cP)|fail))
 refine vL (lv:=[0,2,3,4,5,9]) ab (rdS s) (fun x=>x.2++aa s x.1=aa s 0∧x.2.length≤x.1∧x.1≤s.size+4) (fun x=>s.size - x.1) ((0,[])) (aC.nil 3 1 (aC.go [0,3,4] (by exact vS) rfl)) ?_ ?_
 ·simp
 rintro ⟨i,es⟩ ⟨h1,h2,h3⟩;simp only at h1 h2 h3;have hp:=kW s i;have hq:=yx s i;rcases aa2 i s.size with hi|hi
 ·rw [cY hi] at h1;(repeat' (first|with_reducible refine vC (ND s i hs hi) ?_|(refine' cP)|fail))
  rw [zI];refine aG.go ((i+(Utf8.decode s i).2,es++[((Utf8.decode s i).1:Int)])) [0,3,4] (by exact vS) ?_ ?_
  ·show s.size - (i+(Utf8.decode s i).2)<s.size - i;omega
  ·exact ⟨by rw [←h1];simp,by simp;omega,by simp only;omega⟩
 ·rw [bQ (by omega),abb] at h1;(repeat' (first|(refine' cP)|fail))
  refine ae.frz 0 (ae.out ?_);(repeat' (first|(refine' cP)|fail))
  rw [h1,aaW (by simp)]
def Xb (l:List Int) (i:Nat):St:=⟨[(3,sv ⟨(aM (l.take i)).toArray⟩),(7,Az l),(8,iv l.length),(9,iv i)],[],0⟩
attribute [push_cast] Xb.eq_def
theorem eo (r:Int):(1≤dy r↔Utf8.valid r=true)∧(dy r=0↔Utf8.valid r=false):=by
 have h:Utf8.valid r=true↔(0≤r∧r≤1114111 ∧ ¬(55296≤r∧r≤57343)):=by simp [Utf8.valid];omega
 have h2:Utf8.valid r=false ↔ ¬(0≤r∧r≤1114111 ∧ ¬(55296≤r∧r≤57343)):=by rw [←h];simp
 rw [h,h2];unfold dy;repeat' split
 all_goals omega
theorem DB (l:List Int) (hl:l.length≤1000000000):ap Tryz.prog G0 96 [Az l] [] 0 (sv ⟨(aM l).toArray⟩) []:=by
 refine vF ab [0,2,3,5,6,7,8,9,10,16] Tryz.func96 rfl Tryz.results96 Tryz.ntmps96 ?_;(repeat' (first|(refine' cP)|fail))
 refine vL (lv:=[0,2,3,5,6,7,8,9,10,16]) ab (Xb l) (fun i=>i≤l.length) (fun i=>l.length - i) (0) ((aC.go [3,7,8,9] (by exact vS) rfl)) ?_ ?_
 ·exact aa1 _
 intro i hi;rcases aa2 i l.length with hil|hil
 ·obtain ⟨r,hr⟩ : ∃r,l[i]? = some r:=⟨_,IO hil⟩
  obtain ⟨v1,v2⟩:=eo r;have hsz:dy r=0∨1≤dy r:=by unfold dy;repeat' split<;>omega
  have hel:=cJ (l.take i);have hb:dy 65533=3:=by decide
  have hz:=encode_size_le r;have hz2:(Utf8.encode 65533).size≤4:=encode_size_le _;have hz3:({ data:=(aM (l.take i)).toArray } : ByteArray).size=(aM (l.take i)).length:=by simp [ByteArray.size]
  rw [aa7,acw hi] at hel;(repeat' (first|(refine' cP)|fail))
  refine aF.is i r (by omega) hr ?_;(repeat' (first|with_reducible refine vC (xy _) ?_|with_reducible refine vC (EK 65533 3 hb (by omega)) ?_|with_reducible refine vC (EK r _ rfl (by omega)) ?_|(refine' cP)|fail))
  ·have hv:=v2.1 h;rw [FT];refine aG.go (i+1) [3,7,8,9] (by unfold Xb;rw [ao hr,kX,l7 r hv];exact vS) ?_ ?_
   ·show l.length - (i+1)<l.length - i;omega
   ·show i+1≤l.length;omega
  ·rw [FT];refine aG.go (i+1) [3,7,8,9] (by unfold Xb;rw [ao hr,kX];exact vS) ?_ ?_
   ·show l.length - (i+1)<l.length - i;omega
   ·show i+1≤l.length;omega
 ·skip;(repeat' (first|with_reducible refine ae.out ?_|(refine' cP)|fail))
  rw [aaW hil]
theorem Dk {r:Int} (hv:Utf8.valid r=true):0≤r∧r≤1114111 ∧ ¬(55296≤r∧r≤57343):=by
 simp [Utf8.valid] at hv;omega
theorem zd {r:Int} (hv:Utf8.valid r=true):cR (Utf8.encode r)=r∧dy r=(Utf8.encode r).size:=by
 have h:=Dk hv;have eb:=fc r h;by_cases h1:r<128
 ·rw [aa3 h1] at eb;have b0:=bt eb 0;simp only [ab4] at b0;have sz:(Utf8.encode r).size=1:=by rw [eb];rfl
  refine ⟨?_,?_⟩
  ·rw [cR,aa3 sz,b0];simp;omega
  ·rw [sz,(dd r 1 (by omega)).2 (by omega)];rfl
 ·rw [aaY h1] at eb;by_cases h2:r<2048
  ·rw [aa3 h2] at eb;have b0:=bt eb 0;have b1:=bt eb 1;simp only [ab4,ach] at b0 b1;have sz:(Utf8.encode r).size=2:=by rw [eb];rfl
   refine ⟨?_,?_⟩
   ·rw [cR,aaY (by omega),sz];show 64*(b6 _ 0 - iz (Utf8.encode r).size)+b6 _ 1 - 128=r;rw [sz,b0,b1];show 64*((UInt8.ofNat (192+r / 64).toNat).toNat - (192:Int))+(UInt8.ofNat (128+r % 64).toNat).toNat - 128=r;simp;omega
   ·rw [sz,(dd r 2 (by omega)).2 (by omega)];rfl
  ·rw [aaY h2] at eb;by_cases h3:r<65536
   ·rw [aa3 h3] at eb;have b0:=bt eb 0;have b1:=bt eb 1;have b2:=bt eb 2;simp only [ab4,ach] at b0 b1 b2;have sz:(Utf8.encode r).size=3:=by rw [eb];rfl
    refine ⟨?_,?_⟩
    ·rw [cR,aaY (by omega),sz];show 64*(64*(b6 _ 0 - iz (Utf8.encode r).size)+b6 _ 1 - 128)+b6 _ 2 - 128=r;rw [sz,b0,b1,b2,show iz 3=224 from rfl];simp;omega
    ·rw [sz,(dd r 3 (by omega)).2 (by omega)];rfl
   ·rw [aaY h3] at eb;have b0:=bt eb 0;have b1:=bt eb 1;have b2:=bt eb 2;have b3:=bt eb 3;simp only [ab4,ach] at b0 b1 b2 b3;have sz:(Utf8.encode r).size=4:=by rw [eb];rfl
    refine ⟨?_,?_⟩
    ·rw [cR,aaY (by omega),sz];show 64*(64*(64*(b6 _ 0 - iz (Utf8.encode r).size)+b6 _ 1 - 128)+b6 _ 2 - 128)+b6 _ 3 - 128=r;rw [sz,b0,b1,b2,b3,show iz 4=240 from rfl];simp;omega
    ·rw [sz,(dd r 4 (by omega)).2 (by omega)];rfl
def c9 (l:List Int):ByteArray:=⟨(aM l).toArray⟩
def JJ (l:List Int):Prop:= ∀r∈l,Utf8.valid r=true
theorem bT (l:List Int):(c9 l).size=(aM l).length:=by simp [c9,ByteArray.size]
theorem kY (r:Int):aM [r]=(Utf8.encode r).data.toList:=by simp [aM]
theorem ba (a b:List Int):aM (a++b)=aM a++aM b:=by simp [aM]
theorem N0 (a b:List Int) (r:Int):cQ (c9 (a++r::b)) (aM a).length (Utf8.encode r).size=Utf8.encode r:=by
 have e:aM (a++r::b)=aM a++((Utf8.encode r).data.toList++aM b):=by
  rw [ba,show r::b=[r]++b from rfl,ba,kY]
 have hs:(Utf8.encode r).data.toList.length=(Utf8.encode r).size:=by rw [abr];rfl
 apply adh;apply aeg;rw [cQ,ado];simp only [c9,e,adB,adT];rw [List.drop_left,show (aM a).length+(Utf8.encode r).size - (aM a).length=(Utf8.encode r).data.toList.length by omega,ads]
theorem yq (a b:List Int) (r:Int) (hv:Utf8.valid r=true):((Utf8.decode (c9 (a++r::b)) (aM a).length).1:Int)=r∧(Utf8.decode (c9 (a++r::b)) (aM a).length).2=(Utf8.encode r).size:=by
 obtain ⟨h1,h2⟩:=zd hv;have h3:=(eo r).1.2 hv;have h4:dy r≤4:=by unfold dy;repeat' split<;>omega
 have hc:=N0 a b r;have hle:(aM a).length+(Utf8.encode r).size≤(c9 (a++r::b)).size:=by
  rw [bT,ba,Or,show r::b=[r]++b from rfl,ba,kY,Or];rw [abr];exact Nat.add_le_add_left (Nat.le_add_right _ _) _
 have:=yu (s:=c9 (a++r::b)) (i:=(aM a).length) (n:=(Utf8.encode r).size) (by omega) (by omega) hle (by
  unfold okT;rw [hc,h1];exact ⟨h2,rfl⟩)
 rw [hc,h1] at this;exact this
theorem qb : ∀(b a:List Int),JJ b→aa (c9 (a++b)) (aM a).length=b
 | [],a,_=>by
  rw [abb,bQ (by rw [bT];omega)]
 | r::b,a,h=>by
  have hv:=h r (by simp);obtain ⟨h1,h2⟩:=yq a b r hv;have h3:=(eo r).1.2 hv;have h4:=(zd hv).2;have hlt:(aM a).length<(c9 (a++r::b)).size:=by
   rw [bT,ba,Or,show r::b=[r]++b from rfl,ba,kY,Or,show (Utf8.encode r).data.toList.length=(Utf8.encode r).size by rw [abr];rfl];omega
  rw [cY hlt,h1,h2];have:=qb b (a++[r]) (fun x hx=>h x (by simp [hx]));rw [ba,Or,kY,show (Utf8.encode r).data.toList.length=(Utf8.encode r).size by rw [abr];rfl,aba,adw] at this;rw [this]
theorem HL (s:ByteArray) (i:Nat) (h:i<s.size):Utf8.valid ((Utf8.decode s i).1:Int)=true:=by
 by_cases hex : ∃n,1≤n∧n≤4∧i+n≤s.size∧okT s i n
 ·obtain ⟨n,h1,h4,hle,hok⟩:=hex;rw [(yu h1 h4 hle hok).1];refine (eo _).1.1 ?_;rw [hok.1];omega
 ·rw [yt h (fun n h1 h4 hle hok=>hex ⟨n,h1,h4,hle,hok⟩)];decide
theorem kF (s:ByteArray) : ∀(k i:Nat),s.size - i≤k→JJ (aa s i)
 | 0,i,h=>by
  rw [bQ (by omega)];intro r hr;cases hr
 | k+1,i,h=>by
  by_cases hi:i<s.size
  ·rw [cY hi];have:=kW s i;intro r hr;rcases abi.1 hr with rfl|hr
   ·exact HL s i hi
   ·exact kF s k _ (by omega) r hr
  ·rw [bQ hi];intro r hr;cases hr
end Go.Proofs.YtkkanlcjjpoklaaGreatDoor
