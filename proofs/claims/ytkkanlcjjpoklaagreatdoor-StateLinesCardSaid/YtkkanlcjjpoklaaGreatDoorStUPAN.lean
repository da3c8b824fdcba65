/- What the theorem leans on, part 14. -/
import Derived.Test.YtkkanlcjjpoklaaGreatDoorStUPAK
import Derived.Test.YtkkanlcjjpoklaaGreatDoorStUPAL
set_option linter.unusedSimpArgs false
set_option linter.unusedVariables false
namespace Go.Proofs.YtkkanlcjjpoklaaGreatDoor
def aT (l:List Int):Nat:=(l.filter (· = 10)).length
def fu (l:List Int):It:=⟨0,0,(aL l).length,l.length,aT l,0,⟨(aL l).toArray⟩⟩
def tX:Nat→List Int→List (List Int)
 | 0,_=>[]
 | k+1,l=>l.take (l.length / (k+1))::tX k (l.drop (l.length / (k+1)))
theorem uW : ∀(k:Nat) (l:List Int),(k=0→l=[])→(tX k l).flatten=l
 | 0,l,h=>by rw [h rfl];rfl
 | k+1,l,_=>by
  rw [tX,List.flatten_cons,uW k _ (fun hk=>by subst hk;simp),List.take_append_drop]
theorem DN : ∀(k:Nat) (l:List Int),k≤l.length→l.length≤16*k → ∀p∈tX k l,1≤p.length∧p.length≤16
 | 0,l,_,_,p,hp=>by simp [tX] at hp
 | k+1,l,h1,h2,p,hp=>by
  obtain ⟨q,r,hq,hr⟩ : ∃q r,l.length=q*(k+1)+r∧r<k+1:=⟨l.length / (k+1),l.length % (k+1),by rw [Nat.mul_comm];exact (Nat.div_add_mod _ _).symm,Nat.mod_lt _ (by omega)⟩
  have e:l.length / (k+1)=q:=by
   rw [hq,Nat.mul_comm,Nat.mul_add_div (by omega),Nat.div_eq_of_lt hr,Nat.add_zero]
  have hq1:1≤q:=by
   rcases Nat.eq_zero_or_pos q with h|h
   ·subst h;omega
   ·exact h
  have hq2:q≤16:=by
   rw [←e];exact Nat.div_le_of_le_mul (by omega)
  rw [tX,e] at hp;rcases List.mem_cons.1 hp with rfl|hp
  ·rw [List.length_take];have:q≤l.length:=by rw [←e];exact Nat.div_le_self _ _
   omega
  ·refine DN k (l.drop q) ?_ ?_ p hp
   ·rw [List.length_drop,hq,Nat.mul_succ];have:k≤q*k:=Nat.le_mul_of_pos_left k hq1;omega
   ·rw [List.length_drop,hq,Nat.mul_succ];by_cases h16:q=16
    ·subst h16;omega
    ·have h3:=Nat.mul_le_mul_right k (show q+1≤16 by omega);rw [Nat.succ_mul] at h3;omega
def pcs (l:List Int):List (List Int):=tX ((l.length+15) / 16) l
theorem At (l:List Int):(pcs l).flatten=l:=uW _ l (fun h=>List.length_eq_zero_iff.1 (by omega))
theorem PZ (l:List Int) : ∀p∈pcs l,1≤p.length∧p.length≤16:=DN _ l (by omega) (by omega)
theorem fO (a b:List Int):aT (a++b)=aT a+aT b:=by simp [aT]
theorem yp : ∀ps:List (List Int),(ay (ps.map fu)).n=ps.length∧(ay (ps.map fu)).d0=(aL ps.flatten).length∧(ay (ps.map fu)).d1=ps.flatten.length∧(ay (ps.map fu)).d2=aT ps.flatten
 | []=>⟨rfl,rfl,rfl,rfl⟩
 | p::r=>by
  obtain ⟨h1,h2,h3,h4⟩:=yp r;have e:ay ((p::r).map fu)=a6 (ay [fu p]) (ay (r.map fu)):=by
   rw [←j4];rfl
  rw [e];have e1:ay [fu p]=a6 Sm.zero (jo (fu p)):=rfl;refine ⟨?_,?_,?_,?_⟩
  ·show (ay [fu p]).n+(ay (r.map fu)).n=_;rw [e1,h1];simp [a6,Sm.zero,jo];omega
  ·show (ay [fu p]).d0+(ay (r.map fu)).d0=_;rw [e1,h2];simp [a6,Sm.zero,jo,fu,a4]
  ·show (ay [fu p]).d1+(ay (r.map fu)).d1=_;rw [e1,h3];simp [a6,Sm.zero,jo,fu]
  ·show (ay [fu p]).d2+(ay (r.map fu)).d2=_;rw [e1,h4];simp [a6,Sm.zero,jo,fu,fO]
theorem Fm {a b:ByteArray} (h:a.data.toList=b.data.toList):a=b:=by
 apply ByteArray.ext;apply Array.ext';exact h
theorem j7 (l:List Int):(cL l).data.toList=aL l:=by simp [cL]
theorem zd (s:ByteArray) (i j:Nat):(s.extract i j).data.toList=(s.data.toList.drop i).take (j - i):=by
 rw [ByteArray.data_extract,Array.toList_extract,List.extract_eq_take_drop]
theorem yy (a b c:List Int) (i j:Nat) (hi:i=(aL a).length) (hj:j=(aL a).length+(aL b).length):(cL (a++(b++c))).extract i j=cL b:=by
 apply Fm;rw [zd,j7,j7,a4,a4,hi,hj,List.drop_left,Nat.add_sub_cancel_left,List.take_left]
theorem Qo (ps:List (List Int)) (j:Nat):(ay ((ps.take j).map fu)).n=(ps.take j).length∧(ay ((ps.take j).map fu)).d0=(aL (ps.take j).flatten).length∧(ay ((ps.take j).map fu)).d1=(ps.take j).flatten.length∧(ay ((ps.take j).map fu)).d2=aT (ps.take j).flatten:=yp _
theorem Ma {ps:List (List Int)} {j:Nat} {p:List Int} (h:ps[j]? = some p):ps.flatten=(ps.take j).flatten++(p++(ps.drop (j+1)).flatten):=by
 conv=>lhs;rw [←List.take_append_drop j ps,List.flatten_append,List.drop_eq_getElem_cons (List.getElem?_eq_some_iff.1 h).1,(List.getElem?_eq_some_iff.1 h).2,List.flatten_cons]
theorem FV {ps:List (List Int)} {j:Nat} {p:List Int} (h:ps[j]? = some p):(ps.take (j+1)).flatten=(ps.take j).flatten++p:=by
 rw [List.take_add_one,h,List.flatten_append];simp
theorem g8 (r:Int) (l:List Int):aL (r::l)=(Utf8.encode r).data.toList++aL l:=by rw [show r::l=[r]++l from rfl,a4,kg]
theorem fT:aL []=[]:=rfl
theorem DY (r:Int):1≤(Utf8.encode r).data.toList.length:=by
 by_cases hv:Utf8.valid r=true
 ·have h1:=(dW r).1.2 hv;have h2:=(xE hv).2;rw [Array.length_toList];have:(Utf8.encode r).size=(Utf8.encode r).data.size:=rfl;omega
 ·rw [lg r (by simpa using hv)];decide
theorem xg : ∀l:List Int,l.length≤(aL l).length
 | []=>Nat.le_refl _
 | r::l=>by
  have:=xg l;have:=DY r;rw [g8,List.length_append,List.length_cons];omega
theorem fp (l:List Int) (i:Nat):(aL (l.take i)).length≤(aL l).length:=by
 conv=>rhs;rw [←List.take_append_drop i l,a4,List.length_append]
 omega
theorem DV (l:List Int) {i j:Nat} (h:i<j) (hj:j≤l.length):(aL (l.take i)).length<(aL (l.take j)).length:=by
 have e:l.take j=l.take i++(l.drop i).take (j - i):=by
  rw [←List.take_add];congr 1;omega
 have:=xg ((l.drop i).take (j - i));rw [e,a4,List.length_append];simp only [List.length_take,List.length_drop] at this;omega
theorem jv:aT []=0:=rfl
theorem df (c:Int) (l:List Int):aT (c::l)=(if c=10 then 1 else 0)+aT l:=by
 unfold aT;by_cases h:c=10
 ·simp [h];omega
 ·simp [h]
theorem gr : ∀l:List Int,aT l≤l.length
 | []=>Nat.le_refl _
 | c::l=>by
  have:=gr l;rw [df,List.length_cons];split<;>omega
theorem uQ (l:List Int) (c:Int):aT (l++[c])=aT l+(if c=10 then 1 else 0):=by rw [fO,df,jv,Nat.add_zero]
theorem l7 (l:List Int) (i:Nat):aT (l.take i)≤aT l:=by
 conv=>rhs;rw [←List.take_append_drop i l,fO]
 omega
theorem DX (r:Int) (hv:Utf8.valid r=true):(Utf8.encode r).data.toList.countP (· == 10)=if r=10 then 1 else 0:=by
 have h:=Bv hv;have eb:=eD r h;obtain ⟨k,rfl⟩ : ∃k:Nat,r=k:=⟨r.toNat,by omega⟩
 have ne : ∀m:Int,128≤m→m≤255→(UInt8.ofNat m.toNat==10)=false:=fun m h1 h2=>by
  rw [beq_eq_false_iff_ne];intro e;have:=congrArg UInt8.toNat e;rw [UInt8.toNat_ofNat'] at this;have e10:(10:UInt8).toNat=10:=rfl;rw [e10] at this;omega
 rw [eb];by_cases h1:(k:Int)<128
 ·rw [if_pos h1];by_cases h2:(k:Int)=10
  ·rw [if_pos h2,h2];rfl
  ·rw [if_neg h2];have:(UInt8.ofNat (k:Int).toNat==10)=false:=by
    rw [beq_eq_false_iff_ne];intro e;have:=congrArg UInt8.toNat e;rw [UInt8.toNat_ofNat'] at this;have e10:(10:UInt8).toNat=10:=rfl;rw [e10] at this;omega
   show List.countP _ [UInt8.ofNat (k:Int).toNat]=0;simp only [List.countP_cons,List.countP_nil,this];rfl
 ·rw [if_neg h1];have h10 : ¬((k:Int)=10):=by omega
  rw [if_neg h10];by_cases h2:(k:Int)<2048
  ·rw [if_pos h2];have a:=ne (192+(k:Int) / 64) (by omega) (by omega);have b:=ne (128+(k:Int) % 64) (by omega) (by omega);simp [a,b]
  ·rw [if_neg h2];by_cases h3:(k:Int)<65536
   ·rw [if_pos h3];have a:=ne (224+(k:Int) / 4096) (by omega) (by omega);have b:=ne (128+(k:Int) / 64 % 64) (by omega) (by omega);have c:=ne (128+(k:Int) % 64) (by omega) (by omega);simp [a,b,c]
   ·rw [if_neg h3];have a:=ne (240+(k:Int) / 262144) (by omega) (by omega);have b:=ne (128+(k:Int) / 4096 % 64) (by omega) (by omega);have c:=ne (128+(k:Int) / 64 % 64) (by omega) (by omega);have d:=ne (128+(k:Int) % 64) (by omega) (by omega);simp [a,b,c,d]
theorem DM : ∀l:List Int,HI l→(aL l).countP (· == 10)=aT l
 | [],_=>rfl
 | r::l,h=>by
  rw [g8,List.countP_append,DX r (h r (by simp)),DM l (fun x hx=>h x (by simp [hx])),df]
theorem Il (l:List Int) (h:HI l):yX (cL l) 10=aT l:=by
 unfold yX;rw [j7,DM l h]
def py:List Int→Nat→Nat
 | _,0=>0
 | [],_+1=>0
 | c::r,k+1=>1+(if c=10 then py r k else py r (k+1))
theorem BT (l:List Int):py l 0=0:=by cases l<;>rfl
theorem gS : ∀(a b:List Int) (k:Nat),aT a<k→py (a++b) k=a.length+py b (k - aT a)
 | [],b,k,h=>by simp [jv]
 | c::a,b,0,h=>by omega
 | c::a,b,k+1,h=>by
  rw [df] at h;rw [List.cons_append,py,List.length_cons,df];split
  ·rename_i hc;rw [if_pos hc] at h;rw [gS a b k (by omega),show k+1 - (1+aT a)=k - aT a by omega];omega
  ·rename_i hc;rw [if_neg hc] at h;rw [gS a b (k+1) (by omega),show k+1 - (0+aT a)=k+1 - aT a by omega];omega
def pk:List Int→Nat
 | []=>0
 | c::r=>if c=10 then 0 else pk r+1
theorem KQ : ∀l:List Int,pk l≤l.length
 | []=>Nat.le_refl _
 | c::l=>by
  have:=KQ l;rw [pk,List.length_cons];split<;>omega
theorem DK : ∀l:List Int,0<aT l→py l 1=pk l+1∧l[pk l]? = some 10
 | [],h=>by rw [jv] at h;omega
 | c::l,h=>by
  rw [df] at h;rw [py,pk];split
  ·rename_i hc;rw [BT,hc];exact ⟨rfl,rfl⟩
  ·rename_i hc;rw [if_neg hc] at h;obtain ⟨h1,h2⟩:=DK l (by omega);rw [h1];exact ⟨by omega,by rw [List.getElem?_cons_succ];exact h2⟩
theorem KR : ∀l:List Int,aT l=0→pk l=l.length
 | [],h=>rfl
 | c::l,h=>by
  rw [df] at h;rw [pk,List.length_cons];split
  ·rename_i hc;rw [if_pos hc] at h;omega
  ·rename_i hc;rw [if_neg hc] at h;rw [KR l (by omega)]
theorem yt : ∀(l:List Int) (i:Nat),i<pk l→l[i]? ≠ some 10
 | [],i,h=>by simp
 | c::l,i,h=>by
  rw [pk] at h;split at h
  ·omega
  ·rename_i hc;cases i with
   | zero=>simpa using hc
   | succ i=>rw [List.getElem?_cons_succ];exact yt l i (by omega)
theorem yR (l:List Int) (i:Nat) (hi:i≤l.length) (h:aT (l.take i)<aT l):py l (aT (l.take i)+1)=i+pk (l.drop i)+1∧l[i+pk (l.drop i)]? = some 10:=by
 have e:=fO (l.take i) (l.drop i);rw [List.take_append_drop] at e;have h1:=gS (l.take i) (l.drop i) (aT (l.take i)+1) (by omega);rw [List.take_append_drop,Nat.add_sub_cancel_left,List.length_take,Nat.min_eq_left hi] at h1;obtain ⟨h2,h3⟩:=DK (l.drop i) (by omega);rw [List.getElem?_drop] at h3;exact ⟨by omega,h3⟩
theorem H1 (l:List Int) (i:Nat) (h : ¬aT (l.take i)<aT l):pk (l.drop i)=l.length - i:=by
 have e:=fO (l.take i) (l.drop i);rw [List.take_append_drop] at e;rw [KR _ (by omega),List.length_drop]
def cT (p:Nat→Bool) (n i:Nat):Nat:=if i<n then (if p i=true then i else cT p n (i+1)) else n
termination_by n - i
theorem i2 (p:Nat→Bool) (n i:Nat) (h:n≤i):cT p n i=n:=by rw [cT,if_neg (by omega)]
theorem oi {p:Nat→Bool} {n i:Nat} (h:i<n) (hp:p i=true):cT p n i=i:=by rw [cT,if_pos h,if_pos hp]
theorem jY {p:Nat→Bool} {n i:Nat} (h:i<n) (hp:p i=false):cT p n i=cT p n (i+1):=by rw [cT,if_pos h,if_neg (by simp [hp])]
theorem pf (p:Nat→Bool) (n:Nat) : ∀(d i:Nat),i+d≤n→(∀k,i≤k→k<i+d→p k=false)→cT p n i=cT p n (i+d)
 | 0,i,_,_=>rfl
 | d+1,i,h,hp=>by
  rw [jY (by omega) (hp i (by omega) (by omega)),pf p n d (i+1) (by omega) (fun k h1 h2=>hp k (by omega) (by omega))];congr 1;omega
theorem fG (p:Nat→Bool) (n i j:Nat) (hij:i≤j) (hj:j≤n) (hp : ∀k,i≤k→k<j→p k=false):cT p n i=cT p n j:=by
 have:=pf p n (j - i) i (by omega) (fun k h1 h2=>hp k h1 (by omega));rw [this];congr 1;omega
theorem gz (p:Nat→Bool) (n:Nat) : ∀(d i:Nat),n - i≤d→i≤n→i≤cT p n i∧cT p n i≤n∧(cT p n i<n→p (cT p n i)=true) ∧ ∀k,i≤k→k<cT p n i→p k=false
 | 0,i,h,hi=>by
  rw [i2 p n i (by omega)];exact ⟨by omega,by omega,fun h=>by omega,fun k h1 h2=>by omega⟩
 | d+1,i,h,hi=>by
  by_cases hlt:i<n
  ·cases hp:p i with
   | true=>rw [oi hlt hp];exact ⟨by omega,by omega,fun _=>hp,fun k h1 h2=>by omega⟩
   | false=>
    obtain ⟨h1,h2,h3,h4⟩:=gz p n d (i+1) (by omega) (by omega);rw [jY hlt hp];refine ⟨by omega,h2,h3,fun k g1 g2 =>?_⟩;by_cases hk:k=i
    ·subst hk;exact hp
    ·exact h4 k (by omega) g2
  ·rw [i2 p n i (by omega)];exact ⟨by omega,by omega,fun h=>by omega,fun k h1 h2=>by omega⟩
abbrev Sn:=Int × Int
def jp (n:Int):Int→List Sn→Bool
 | _,[]=>true
 | last,x::r=> !(decide (x.1<last)||decide (x.2≤x.1)||decide (n<x.2))&&jp n x.2 r
theorem eh {n last:Int} {x:Sn} {r:List Sn} : jp n last (x::r)=true↔(last≤x.1∧x.1<x.2∧x.2≤n)∧jp n x.2 r=true:=by
 rw [jp];simp only [Bool.and_eq_true,Bool.not_eq_true',Bool.or_eq_false_iff,decide_eq_false_iff_not];constructor
 ·rintro ⟨⟨⟨h1,h2⟩,h3⟩,h4⟩;exact ⟨⟨by omega,by omega,by omega⟩,h4⟩
 ·rintro ⟨⟨h1,h2,h3⟩,h4⟩;exact ⟨⟨⟨by omega,by omega⟩,by omega⟩,h4⟩
theorem cW {n:Int} : ∀ {l:List Sn} {last:Int},jp n last l=true → ∀x∈l,last≤x.1∧x.1<x.2∧x.2≤n
 | [],_,_,x,hx=>by cases hx
 | y::r,last,h,x,hx=>by
  obtain ⟨⟨h1,h2,h3⟩,h4⟩:=eh.1 h;rcases List.mem_cons.1 hx with rfl|hx
  ·exact ⟨h1,h2,h3⟩
  ·have:=cW h4 x hx;exact ⟨by omega,this.2⟩
def iO (i:Int) (x:Sn):Bool:=decide (x.1≤i)&&decide (i<x.2)
def cf (h:List Sn) (i:Int):Option Sn:=h.find? (iO i)
theorem fW {i:Int} {x:Sn} : iO i x=true↔x.1≤i∧i<x.2:=by simp [iO]
theorem di {h:List Sn} {i:Int} {x:Sn} (e:cf h i=some x):x∈h∧x.1≤i∧i<x.2:=by
 refine ⟨List.mem_of_find?_eq_some e,?_⟩;have:=List.find?_some e;exact fW.1 this
theorem vk {h:List Sn} {i:Int} (e:cf h i=none) : ∀x∈h,¬(x.1≤i∧i<x.2):=by
 intro x hx hi;have:=List.find?_eq_none.1 e x hx;exact this (fW.2 hi)
theorem p9 {n:Int} : ∀ {h:List Sn} {last:Int},jp n last h=true → ∀x∈h,∀i,x.1≤i→i<x.2→cf h i=some x
 | [],_,_,x,hx,i,_,_=>by cases hx
 | y::r,last,hr,x,hx,i,h1,h2=>by
  obtain ⟨⟨q1,q2,q3⟩,q4⟩:=eh.1 hr;unfold cf;rw [List.find?_cons];rcases List.mem_cons.1 hx with rfl|hx
  ·rw [fW.2 ⟨h1,h2⟩]
  ·have:=cW q4 x hx;have e:iO i y=false:=by
    cases hb:iO i y with
    | false=>rfl
    | true=>have:=fW.1 hb;omega
   rw [e];exact p9 q4 x hx i h1 h2
def eY (l:List Int) (h:List Sn) (i:Nat):Bool:=decide (l[i]? = some 10)&&(cf h i).isNone
theorem i3 {l:List Int} {h:List Sn} {i:Nat} : eY l h i=true↔l[i]? = some 10∧cf h i=none:=by simp [eY]
theorem mX {l:List Int} {h:List Sn} {n last:Int} (hr:jp n last h=true) {x:Sn} (hx:x∈h) {i:Nat} (h1:x.1≤i) (h2:(i:Int)<x.2):eY l h i=false:=by
 have:=p9 hr x hx i h1 h2;simp [eY,this]
theorem sF {l:List Int} {h:List Sn} {i:Nat} (h1:l[i]? ≠ some 10):eY l h i=false:=by simp [eY,h1]
def aF (l:List Int) (h:List Sn) (i:Nat):Nat:=cT (eY l h) l.length i
theorem FP {l:List Int} {h:List Sn} {i:Nat} (hi:i≤l.length) (hb : ¬aT (l.take i)<aT l):aF l h i=l.length:=by
 have h1:=H1 l i hb;unfold aF;rw [fG _ _ i l.length hi (Nat.le_refl _) (fun k h2 h3=>sF ?_),i2 _ _ _ (Nat.le_refl _)];have:=yt (l.drop i) (k - i) (by omega);rw [List.getElem?_drop,show i+(k - i)=k by omega] at this;exact this
theorem u7 {l:List Int} {h:List Sn} {i:Nat} (hi:i≤l.length):aF l h i=aF l h (i+pk (l.drop i)):=by
 have:=KQ (l.drop i);rw [List.length_drop] at this;unfold aF;refine fG _ _ i _ (by omega) (by omega) fun k h2 h3=>sF ?_
 have:=yt (l.drop i) (k - i) (by omega);rw [List.getElem?_drop,show i+(k - i)=k by omega] at this;exact this
theorem FO {l:List Int} {h:List Sn} {i:Nat} (hi:i≤l.length) (hb:aT (l.take i)<aT l) (hn:cf h ((i+pk (l.drop i):Nat):Int)=none):aF l h i=i+pk (l.drop i):=by
 obtain ⟨h1,h2⟩:=yR l i hi hb;rw [u7 hi];exact oi (List.getElem?_eq_some_iff.1 h2).1 (i3.2 ⟨h2,hn⟩)
theorem FQ {l:List Int} {h:List Sn} {last:Int} (hr:jp l.length last h=true) {i j:Nat} (hi:i≤l.length) {x:Sn} (hn:cf h ((i+pk (l.drop i):Nat):Int)=some x) (hj:x.2=j):aF l h i=aF l h j:=by
 obtain ⟨h1,h2,h3⟩:=di hn;have hm:=cW hr x h1;rw [u7 hi];unfold aF;exact fG _ _ _ _ (by omega) (by omega) fun k q1 q2=>mX hr h1 (by omega) (by omega)
def aW (l:List Int) (h:List Sn) (i:Nat):List (Nat × Nat):=(i,aF l h i)::(if hlt:aF l h i<l.length∧i≤aF l h i then aW l h (aF l h i+1) else [])
termination_by l.length - i
decreasing_by omega
theorem bU (l:List Int) (h:List Sn) {i:Nat} (hi:i≤l.length):i≤aF l h i∧aF l h i≤l.length:=by
 have:=gz (eY l h) l.length _ i (Nat.le_refl _) hi;exact ⟨this.1,this.2.1⟩
theorem gu (l:List Int) (h:List Sn) {i:Nat} (hi:i≤l.length) (hlt:aF l h i<l.length):eY l h (aF l h i)=true:=(gz (eY l h) l.length _ i (Nat.le_refl _) hi).2.2.1 hlt
theorem pV (l:List Int) (h:List Sn) {i k:Nat} (hi:i≤l.length) (h1:i≤k) (h2:k<aF l h i):eY l h k=false:=(gz (eY l h) l.length _ i (Nat.le_refl _) hi).2.2.2 k h1 h2
end Go.Proofs.YtkkanlcjjpoklaaGreatDoor
