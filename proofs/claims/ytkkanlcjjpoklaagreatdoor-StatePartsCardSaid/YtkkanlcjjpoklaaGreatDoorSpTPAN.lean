/- What the theorem leans on, part 14. -/
import Derived.Test.YtkkanlcjjpoklaaGreatDoorSpTPAK
import Derived.Test.YtkkanlcjjpoklaaGreatDoorSpTPAL
set_option linter.unusedSimpArgs false
set_option linter.unusedVariables false
namespace Go.Proofs.YtkkanlcjjpoklaaGreatDoor
def aO (l:List Int):Nat:=(l.filter (· = 10)).length
def dZ (l:List Int):It:=⟨0,0,(aA l).length,l.length,aO l,0,⟨(aA l).toArray⟩⟩
def qp:Nat→List Int→List (List Int)
 | 0,_=>[]
 | k+1,l=>l.take (l.length / (k+1))::qp k (l.drop (l.length / (k+1)))
theorem qS : ∀(k:Nat) (l:List Int),(k=0→l=[])→(qp k l).flatten=l
 | 0,l,h=>by rw [h rfl];rfl
 | k+1,l,_=>by
  rw [qp,List.flatten_cons,qS k _ (fun hk=>by subst hk;simp),List.take_append_drop]
theorem y9 : ∀(k:Nat) (l:List Int),k≤l.length→l.length≤16*k → ∀p∈qp k l,1≤p.length∧p.length≤16
 | 0,l,_,_,p,hp=>by simp [qp] at hp
 | k+1,l,h1,h2,p,hp=>by
  obtain ⟨q,r,hq,hr⟩ : ∃q r,l.length=q*(k+1)+r∧r<k+1:=⟨l.length / (k+1),l.length % (k+1),by rw [Nat.mul_comm];exact (Nat.div_add_mod _ _).symm,Nat.mod_lt _ (by omega)⟩
  have e:l.length / (k+1)=q:=by
   rw [hq,Nat.mul_comm,Nat.mul_add_div (by omega),Nat.div_eq_of_lt hr,Nat.add_zero]
  have hq1:1≤q:=by
   rcases Nat.eq_zero_or_pos q with h|h
   ·subst h;omega
   ·exact h
  have hq2:q≤16:=by
   rw [←e];exact Nat.div_le_of_le_mul (by omega)
  rw [qp,e] at hp;rcases List.mem_cons.1 hp with rfl|hp
  ·rw [List.length_take];have:q≤l.length:=by rw [←e];exact Nat.div_le_self _ _
   omega
  ·refine y9 k (l.drop q) ?_ ?_ p hp
   ·rw [List.length_drop,hq,Nat.mul_succ];have:k≤q*k:=Nat.le_mul_of_pos_left k hq1;omega
   ·rw [List.length_drop,hq,Nat.mul_succ];by_cases h16:q=16
    ·subst h16;omega
    ·have h3:=Nat.mul_le_mul_right k (show q+1≤16 by omega);rw [Nat.succ_mul] at h3;omega
def pcs (l:List Int):List (List Int):=qp ((l.length+15) / 16) l
theorem vW (l:List Int):(pcs l).flatten=l:=qS _ l (fun h=>List.length_eq_zero_iff.1 (by omega))
theorem JL (l:List Int) : ∀p∈pcs l,1≤p.length∧p.length≤16:=y9 _ l (by omega) (by omega)
theorem eo (a b:List Int):aO (a++b)=aO a+aO b:=by simp [aO]
theorem tR : ∀ps:List (List Int),(ao (ps.map dZ)).n=ps.length∧(ao (ps.map dZ)).d0=(aA ps.flatten).length∧(ao (ps.map dZ)).d1=ps.flatten.length∧(ao (ps.map dZ)).d2=aO ps.flatten
 | []=>⟨rfl,rfl,rfl,rfl⟩
 | p::r=>by
  obtain ⟨h1,h2,h3,h4⟩:=tR r;have e:ao ((p::r).map dZ)=aS (ao [dZ p]) (ao (r.map dZ)):=by
   rw [←iJ];rfl
  rw [e];have e1:ao [dZ p]=aS Sm.zero (gM (dZ p)):=rfl;refine ⟨?_,?_,?_,?_⟩
  ·show (ao [dZ p]).n+(ao (r.map dZ)).n=_;rw [e1,h1];simp [aS,Sm.zero,gM];omega
  ·show (ao [dZ p]).d0+(ao (r.map dZ)).d0=_;rw [e1,h2];simp [aS,Sm.zero,gM,dZ,aP]
  ·show (ao [dZ p]).d1+(ao (r.map dZ)).d1=_;rw [e1,h3];simp [aS,Sm.zero,gM,dZ]
  ·show (ao [dZ p]).d2+(ao (r.map dZ)).d2=_;rw [e1,h4];simp [aS,Sm.zero,gM,dZ,eo]
theorem AD {a b:ByteArray} (h:a.data.toList=b.data.toList):a=b:=by
 apply ByteArray.ext;apply Array.ext';exact h
theorem iM (l:List Int):(c8 l).data.toList=aA l:=by simp [c8]
theorem Dk (s:ByteArray) (i j:Nat):(s.extract i j).data.toList=(s.data.toList.drop i).take (j - i):=by
 rw [ByteArray.data_extract,Array.toList_extract,List.extract_eq_take_drop]
theorem tZ (a b c:List Int) (i j:Nat) (hi:i=(aA a).length) (hj:j=(aA a).length+(aA b).length):(c8 (a++(b++c))).extract i j=c8 b:=by
 apply AD;rw [Dk,iM,iM,aP,aP,hi,hj,List.drop_left,Nat.add_sub_cancel_left,List.take_left]
theorem J2 (ps:List (List Int)) (j:Nat):(ao ((ps.take j).map dZ)).n=(ps.take j).length∧(ao ((ps.take j).map dZ)).d0=(aA (ps.take j).flatten).length∧(ao ((ps.take j).map dZ)).d1=(ps.take j).flatten.length∧(ao ((ps.take j).map dZ)).d2=aO (ps.take j).flatten:=tR _
theorem Gh {ps:List (List Int)} {j:Nat} {p:List Int} (h:ps[j]? = some p):ps.flatten=(ps.take j).flatten++(p++(ps.drop (j+1)).flatten):=by
 conv=>lhs;rw [←List.take_append_drop j ps,List.flatten_append,List.drop_eq_getElem_cons (List.getElem?_eq_some_iff.1 h).1,(List.getElem?_eq_some_iff.1 h).2,List.flatten_cons]
theorem A8 {ps:List (List Int)} {j:Nat} {p:List Int} (h:ps[j]? = some p):(ps.take (j+1)).flatten=(ps.take j).flatten++p:=by
 rw [List.take_add_one,h,List.flatten_append];simp
theorem fE (r:Int) (l:List Int):aA (r::l)=(Utf8.encode r).data.toList++aA l:=by rw [show r::l=[r]++l from rfl,aP,iR]
theorem eu:aA []=[]:=rfl
theorem zi (r:Int):1≤(Utf8.encode r).data.toList.length:=by
 by_cases hv:Utf8.valid r=true
 ·have h1:=(fb r).1.2 hv;have h2:=(tp hv).2;rw [Array.length_toList];have:(Utf8.encode r).size=(Utf8.encode r).data.size:=rfl;omega
 ·rw [n9 r (by simpa using hv)];decide
theorem sP : ∀l:List Int,l.length≤(aA l).length
 | []=>Nat.le_refl _
 | r::l=>by
  have:=sP l;have:=zi r;rw [fE,List.length_append,List.length_cons];omega
theorem dW (l:List Int) (i:Nat):(aA (l.take i)).length≤(aA l).length:=by
 conv=>rhs;rw [←List.take_append_drop i l,aP,List.length_append]
 omega
theorem zh (l:List Int) {i j:Nat} (h:i<j) (hj:j≤l.length):(aA (l.take i)).length<(aA (l.take j)).length:=by
 have e:l.take j=l.take i++(l.drop i).take (j - i):=by
  rw [←List.take_add];congr 1;omega
 have:=sP ((l.drop i).take (j - i));rw [e,aP,List.length_append];simp only [List.length_take,List.length_drop] at this;omega
theorem gS:aO []=0:=rfl
theorem dq (c:Int) (l:List Int):aO (c::l)=(if c=10 then 1 else 0)+aO l:=by
 unfold aO;by_cases h:c=10
 ·simp [h];omega
 ·simp [h]
theorem eV : ∀l:List Int,aO l≤l.length
 | []=>Nat.le_refl _
 | c::l=>by
  have:=eV l;rw [dq,List.length_cons];split<;>omega
theorem qN (l:List Int) (c:Int):aO (l++[c])=aO l+(if c=10 then 1 else 0):=by rw [eo,dq,gS,Nat.add_zero]
theorem jV (l:List Int) (i:Nat):aO (l.take i)≤aO l:=by
 conv=>rhs;rw [←List.take_append_drop i l,eo]
 omega
theorem F3 (r:Int) (hv:Utf8.valid r=true):(Utf8.encode r).data.toList.countP (· == 10)=if r=10 then 1 else 0:=by
 have h:=w5 hv;have eb:=ee r h;obtain ⟨k,rfl⟩ : ∃k:Nat,r=k:=⟨r.toNat,by omega⟩
 have ne : ∀m:Int,128≤m→m≤255→(UInt8.ofNat m.toNat==10)=false:=fun m h1 h2=>by
  rw [beq_eq_false_iff_ne];intro e;have:=congrArg UInt8.toNat e;rw [UInt8.toNat_ofNat'] at this;have e10:(10:UInt8).toNat=10:=rfl;rw [e10] at this;omega
 rw [eb];by_cases h1:(k:Int)<128
 ·rw [if_pos h1];by_cases h2:(k:Int)=10
  ·rw [if_pos h2,h2];rfl
  ·rw [if_neg h2];have:(UInt8.ofNat (k:Int).toNat==10)=false:=by
    rw [beq_eq_false_iff_ne];intro e;have:=congrArg UInt8.toNat e;rw [UInt8.toNat_ofNat'] at this;have e10:(10:UInt8).toNat=10:=rfl;rw [e10] at this;omega
   show List.countP _ [UInt8.ofNat (k:Int).toNat]=0;simp only [List.countP_cons,List.countP_nil,this];rfl
 ·rw [if_neg h1];have h10 : ¬((k:Int)=10):=by omega
  rw [if_neg h10];by_cases h2:(k:Int)<2048
  ·rw [if_pos h2];have a:=ne (192+(k:Int) / 64) (by omega) (by omega);have b:=ne (128+(k:Int) % 64) (by omega) (by omega);simp [a,b]
  ·rw [if_neg h2];by_cases h3:(k:Int)<65536
   ·rw [if_pos h3];have a:=ne (224+(k:Int) / 4096) (by omega) (by omega);have b:=ne (128+(k:Int) / 64 % 64) (by omega) (by omega);have c:=ne (128+(k:Int) % 64) (by omega) (by omega);simp [a,b,c]
   ·rw [if_neg h3];have a:=ne (240+(k:Int) / 262144) (by omega) (by omega);have b:=ne (128+(k:Int) / 4096 % 64) (by omega) (by omega);have c:=ne (128+(k:Int) / 64 % 64) (by omega) (by omega);have d:=ne (128+(k:Int) % 64) (by omega) (by omega);simp [a,b,c,d]
theorem y8 : ∀l:List Int,Cn l→(aA l).countP (· == 10)=aO l
 | [],_=>rfl
 | r::l,h=>by
  rw [fE,List.countP_append,F3 r (h r (by simp)),y8 l (fun x hx=>h x (by simp [hx])),dq]
theorem CX (l:List Int) (h:Cn l):uv (c8 l) 10=aO l:=by
 unfold uv;rw [iM,y8 l h]
def mR:List Int→Nat→Nat
 | _,0=>0
 | [],_+1=>0
 | c::r,k+1=>1+(if c=10 then mR r k else mR r (k+1))
theorem xu (l:List Int):mR l 0=0:=by cases l<;>rfl
theorem fu : ∀(a b:List Int) (k:Nat),aO a<k→mR (a++b) k=a.length+mR b (k - aO a)
 | [],b,k,h=>by simp [gS]
 | c::a,b,0,h=>by omega
 | c::a,b,k+1,h=>by
  rw [dq] at h;rw [List.cons_append,mR,List.length_cons,dq];split
  ·rename_i hc;rw [if_pos hc] at h;rw [fu a b k (by omega),show k+1 - (1+aO a)=k - aO a by omega];omega
  ·rename_i hc;rw [if_neg hc] at h;rw [fu a b (k+1) (by omega),show k+1 - (0+aO a)=k+1 - aO a by omega];omega
def mM:List Int→Nat
 | []=>0
 | c::r=>if c=10 then 0 else mM r+1
theorem EO : ∀l:List Int,mM l≤l.length
 | []=>Nat.le_refl _
 | c::l=>by
  have:=EO l;rw [mM,List.length_cons];split<;>omega
theorem y7 : ∀l:List Int,0<aO l→mR l 1=mM l+1∧l[mM l]? = some 10
 | [],h=>by rw [gS] at h;omega
 | c::l,h=>by
  rw [dq] at h;rw [mR,mM];split
  ·rename_i hc;rw [xu,hc];exact ⟨rfl,rfl⟩
  ·rename_i hc;rw [if_neg hc] at h;obtain ⟨h1,h2⟩:=y7 l (by omega);rw [h1];exact ⟨by omega,by rw [List.getElem?_cons_succ];exact h2⟩
theorem EP : ∀l:List Int,aO l=0→mM l=l.length
 | [],h=>rfl
 | c::l,h=>by
  rw [dq] at h;rw [mM,List.length_cons];split
  ·rename_i hc;rw [if_pos hc] at h;omega
  ·rename_i hc;rw [if_neg hc] at h;rw [EP l (by omega)]
theorem tW : ∀(l:List Int) (i:Nat),i<mM l→l[i]? ≠ some 10
 | [],i,h=>by simp
 | c::l,i,h=>by
  rw [mM] at h;split at h
  ·omega
  ·rename_i hc;cases i with
   | zero=>simpa using hc
   | succ i=>rw [List.getElem?_cons_succ];exact tW l i (by omega)
theorem uk (l:List Int) (i:Nat) (hi:i≤l.length) (h:aO (l.take i)<aO l):mR l (aO (l.take i)+1)=i+mM (l.drop i)+1∧l[i+mM (l.drop i)]? = some 10:=by
 have e:=eo (l.take i) (l.drop i);rw [List.take_append_drop] at e;have h1:=fu (l.take i) (l.drop i) (aO (l.take i)+1) (by omega);rw [List.take_append_drop,Nat.add_sub_cancel_left,List.length_take,Nat.min_eq_left hi] at h1;obtain ⟨h2,h3⟩:=y7 (l.drop i) (by omega);rw [List.getElem?_drop] at h3;exact ⟨by omega,h3⟩
theorem CH (l:List Int) (i:Nat) (h : ¬aO (l.take i)<aO l):mM (l.drop i)=l.length - i:=by
 have e:=eo (l.take i) (l.drop i);rw [List.take_append_drop] at e;rw [EP _ (by omega),List.length_drop]
def b6 (p:Nat→Bool) (n i:Nat):Nat:=if i<n then (if p i=true then i else b6 p n (i+1)) else n
termination_by n - i
theorem gv (p:Nat→Bool) (n i:Nat) (h:n≤i):b6 p n i=n:=by rw [b6,if_neg (by omega)]
theorem lS {p:Nat→Bool} {n i:Nat} (h:i<n) (hp:p i=true):b6 p n i=i:=by rw [b6,if_pos h,if_pos hp]
theorem iE {p:Nat→Bool} {n i:Nat} (h:i<n) (hp:p i=false):b6 p n i=b6 p n (i+1):=by rw [b6,if_pos h,if_neg (by simp [hp])]
theorem mI (p:Nat→Bool) (n:Nat) : ∀(d i:Nat),i+d≤n→(∀k,i≤k→k<i+d→p k=false)→b6 p n i=b6 p n (i+d)
 | 0,i,_,_=>rfl
 | d+1,i,h,hp=>by
  rw [iE (by omega) (hp i (by omega) (by omega)),mI p n d (i+1) (by omega) (fun k h1 h2=>hp k (by omega) (by omega))];congr 1;omega
theorem ef (p:Nat→Bool) (n i j:Nat) (hij:i≤j) (hj:j≤n) (hp : ∀k,i≤k→k<j→p k=false):b6 p n i=b6 p n j:=by
 have:=mI p n (j - i) i (by omega) (fun k h1 h2=>hp k h1 (by omega));rw [this];congr 1;omega
theorem fa (p:Nat→Bool) (n:Nat) : ∀(d i:Nat),n - i≤d→i≤n→i≤b6 p n i∧b6 p n i≤n∧(b6 p n i<n→p (b6 p n i)=true) ∧ ∀k,i≤k→k<b6 p n i→p k=false
 | 0,i,h,hi=>by
  rw [gv p n i (by omega)];exact ⟨by omega,by omega,fun h=>by omega,fun k h1 h2=>by omega⟩
 | d+1,i,h,hi=>by
  by_cases hlt:i<n
  ·cases hp:p i with
   | true=>rw [lS hlt hp];exact ⟨by omega,by omega,fun _=>hp,fun k h1 h2=>by omega⟩
   | false=>
    obtain ⟨h1,h2,h3,h4⟩:=fa p n d (i+1) (by omega) (by omega);rw [iE hlt hp];refine ⟨by omega,h2,h3,fun k g1 g2 =>?_⟩;by_cases hk:k=i
    ·subst hk;exact hp
    ·exact h4 k (by omega) g2
  ·rw [gv p n i (by omega)];exact ⟨by omega,by omega,fun h=>by omega,fun k h1 h2=>by omega⟩
abbrev Sn:=Int × Int
def iZ (n:Int):Int→List Sn→Bool
 | _,[]=>true
 | last,x::r=> !(decide (x.1<last)||decide (x.2≤x.1)||decide (n<x.2))&&iZ n x.2 r
theorem dg {n last:Int} {x:Sn} {r:List Sn} : iZ n last (x::r)=true↔(last≤x.1∧x.1<x.2∧x.2≤n)∧iZ n x.2 r=true:=by
 rw [iZ];simp only [Bool.and_eq_true,Bool.not_eq_true',Bool.or_eq_false_iff,decide_eq_false_iff_not];constructor
 ·rintro ⟨⟨⟨h1,h2⟩,h3⟩,h4⟩;exact ⟨⟨by omega,by omega,by omega⟩,h4⟩
 ·rintro ⟨⟨h1,h2,h3⟩,h4⟩;exact ⟨⟨⟨by omega,by omega⟩,by omega⟩,h4⟩
theorem ct {n:Int} : ∀ {l:List Sn} {last:Int},iZ n last l=true → ∀x∈l,last≤x.1∧x.1<x.2∧x.2≤n
 | [],_,_,x,hx=>by cases hx
 | y::r,last,h,x,hx=>by
  obtain ⟨⟨h1,h2,h3⟩,h4⟩:=dg.1 h;rcases List.mem_cons.1 hx with rfl|hx
  ·exact ⟨h1,h2,h3⟩
  ·have:=ct h4 x hx;exact ⟨by omega,this.2⟩
def hP (i:Int) (x:Sn):Bool:=decide (x.1≤i)&&decide (i<x.2)
def cN (h:List Sn) (i:Int):Option Sn:=h.find? (hP i)
theorem hU {i:Int} {x:Sn} : hP i x=true↔x.1≤i∧i<x.2:=by simp [hP]
theorem dx {h:List Sn} {i:Int} {x:Sn} (e:cN h i=some x):x∈h∧x.1≤i∧i<x.2:=by
 refine ⟨List.mem_of_find?_eq_some e,?_⟩;have:=List.find?_some e;exact hU.1 this
theorem rk {h:List Sn} {i:Int} (e:cN h i=none) : ∀x∈h,¬(x.1≤i∧i<x.2):=by
 intro x hx hi;have:=List.find?_eq_none.1 e x hx;exact this (hU.2 hi)
theorem nk {n:Int} : ∀ {h:List Sn} {last:Int},iZ n last h=true → ∀x∈h,∀i,x.1≤i→i<x.2→cN h i=some x
 | [],_,_,x,hx,i,_,_=>by cases hx
 | y::r,last,hr,x,hx,i,h1,h2=>by
  obtain ⟨⟨q1,q2,q3⟩,q4⟩:=dg.1 hr;unfold cN;rw [List.find?_cons];rcases List.mem_cons.1 hx with rfl|hx
  ·rw [hU.2 ⟨h1,h2⟩]
  ·have:=ct q4 x hx;have e:hP i y=false:=by
    cases hb:hP i y with
    | false=>rfl
    | true=>have:=hU.1 hb;omega
   rw [e];exact nk q4 x hx i h1 h2
def fS (l:List Int) (h:List Sn) (i:Nat):Bool:=decide (l[i]? = some 10)&&(cN h i).isNone
theorem i2 {l:List Int} {h:List Sn} {i:Nat} : fS l h i=true↔l[i]? = some 10∧cN h i=none:=by simp [fS]
theorem kL {l:List Int} {h:List Sn} {n last:Int} (hr:iZ n last h=true) {x:Sn} (hx:x∈h) {i:Nat} (h1:x.1≤i) (h2:(i:Int)<x.2):fS l h i=false:=by
 have:=nk hr x hx i h1 h2;simp [fS,this]
theorem yJ {l:List Int} {h:List Sn} {i:Nat} (h1:l[i]? ≠ some 10):fS l h i=false:=by simp [fS,h1]
def aQ (l:List Int) (h:List Sn) (i:Nat):Nat:=b6 (fS l h) l.length i
theorem A1 {l:List Int} {h:List Sn} {i:Nat} (hi:i≤l.length) (hb : ¬aO (l.take i)<aO l):aQ l h i=l.length:=by
 have h1:=CH l i hb;unfold aQ;rw [ef _ _ i l.length hi (Nat.le_refl _) (fun k h2 h3=>yJ ?_),gv _ _ _ (Nat.le_refl _)];have:=tW (l.drop i) (k - i) (by omega);rw [List.getElem?_drop,show i+(k - i)=k by omega] at this;exact this
theorem qY {l:List Int} {h:List Sn} {i:Nat} (hi:i≤l.length):aQ l h i=aQ l h (i+mM (l.drop i)):=by
 have:=EO (l.drop i);rw [List.length_drop] at this;unfold aQ;refine ef _ _ i _ (by omega) (by omega) fun k h2 h3=>yJ ?_
 have:=tW (l.drop i) (k - i) (by omega);rw [List.getElem?_drop,show i+(k - i)=k by omega] at this;exact this
theorem A0 {l:List Int} {h:List Sn} {i:Nat} (hi:i≤l.length) (hb:aO (l.take i)<aO l) (hn:cN h ((i+mM (l.drop i):Nat):Int)=none):aQ l h i=i+mM (l.drop i):=by
 obtain ⟨h1,h2⟩:=uk l i hi hb;rw [qY hi];exact lS (List.getElem?_eq_some_iff.1 h2).1 (i2.2 ⟨h2,hn⟩)
theorem A2 {l:List Int} {h:List Sn} {last:Int} (hr:iZ l.length last h=true) {i j:Nat} (hi:i≤l.length) {x:Sn} (hn:cN h ((i+mM (l.drop i):Nat):Int)=some x) (hj:x.2=j):aQ l h i=aQ l h j:=by
 obtain ⟨h1,h2,h3⟩:=dx hn;have hm:=ct hr x h1;rw [qY hi];unfold aQ;exact ef _ _ _ _ (by omega) (by omega) fun k q1 q2=>kL hr h1 (by omega) (by omega)
def bG (l:List Int) (h:List Sn) (i:Nat):List (Nat × Nat):=(i,aQ l h i)::(if hlt:aQ l h i<l.length∧i≤aQ l h i then bG l h (aQ l h i+1) else [])
termination_by l.length - i
decreasing_by omega
theorem dc (l:List Int) (h:List Sn) {i:Nat} (hi:i≤l.length):i≤aQ l h i∧aQ l h i≤l.length:=by
 have:=fa (fS l h) l.length _ i (Nat.le_refl _) hi;exact ⟨this.1,this.2.1⟩
theorem ge (l:List Int) (h:List Sn) {i:Nat} (hi:i≤l.length) (hlt:aQ l h i<l.length):fS l h (aQ l h i)=true:=(fa (fS l h) l.length _ i (Nat.le_refl _) hi).2.2.1 hlt
theorem sQ (l:List Int) (h:List Sn) {i k:Nat} (hi:i≤l.length) (h1:i≤k) (h2:k<aQ l h i):fS l h k=false:=(fa (fS l h) l.length _ i (Nat.le_refl _) hi).2.2.2 k h1 h2
end Go.Proofs.YtkkanlcjjpoklaaGreatDoor
