/- What the theorem leans on, part 14. -/
import Derived.Test.YtkkanlcjjpoklaaGreatDoorStVPAK
import Derived.Test.YtkkanlcjjpoklaaGreatDoorStVPAL
set_option linter.unusedSimpArgs false
set_option linter.unusedVariables false
namespace Go.Proofs.YtkkanlcjjpoklaaGreatDoor
def aW (l:List Int):Nat:=(l.filter (· = 10)).length
def gb (l:List Int):It:=⟨0,0,(aM l).length,l.length,aW l,0,⟨(aM l).toArray⟩⟩
def u6:Nat→List Int→List (List Int)
 | 0,_=>[]
 | k+1,l=>l.take (l.length / (k+1))::u6 k (l.drop (l.length / (k+1)))
theorem wI : ∀(k:Nat) (l:List Int),(k=0→l=[])→(u6 k l).flatten=l
 | 0,l,h=>by rw [h rfl];rfl
 | k+1,l,_=>by
  rw [u6,acf,wI k _ (fun hk=>by subst hk;simp),abf]
theorem FJ : ∀(k:Nat) (l:List Int),k≤l.length→l.length≤16*k → ∀p∈u6 k l,1≤p.length∧p.length≤16
 | 0,l,_,_,p,hp=>by simp [u6] at hp
 | k+1,l,h1,h2,p,hp=>by
  obtain ⟨q,r,hq,hr⟩ : ∃q r,l.length=q*(k+1)+r∧r<k+1:=⟨l.length / (k+1),l.length % (k+1),by rw [Nat.mul_comm];exact (adG _ _).symm,adm _ (by omega)⟩
  have e:l.length / (k+1)=q:=by
   rw [hq,Nat.mul_comm,Nat.mul_add_div (by omega),Nat.div_eq_of_lt hr,abD]
  have hq1:1≤q:=by
   rcases abH q with h|h
   ·subst h;omega
   ·exact h
  have hq2:q≤16:=by
   rw [←e];exact Nat.div_le_of_le_mul (by omega)
  rw [u6,e] at hp;rcases abi.1 hp with rfl|hp
  ·rw [aa7];have:q≤l.length:=by rw [←e];exact ad9 _ _
   omega
  ·refine FJ k (l.drop q) ?_ ?_ p hp
   ·rw [abg,hq,acR];have:k≤q*k:=Nat.le_mul_of_pos_left k hq1;omega
   ·rw [abg,hq,acR];by_cases h16:q=16
    ·subst h16;omega
    ·have h3:=abQ k (show q+1≤16 by omega);rw [ad6] at h3;omega
def pcs (l:List Int):List (List Int):=u6 ((l.length+15) / 16) l
theorem Ce (l:List Int):(pcs l).flatten=l:=wI _ l (fun h=>List.length_eq_zero_iff.1 (by omega))
theorem SA (l:List Int) : ∀p∈pcs l,1≤p.length∧p.length≤16:=FJ _ l (by omega) (by omega)
theorem gu (a b:List Int):aW (a++b)=aW a+aW b:=by simp [aW]
theorem Ao : ∀ps:List (List Int),(aq (ps.map gb)).n=ps.length∧(aq (ps.map gb)).d0=(aM ps.flatten).length∧(aq (ps.map gb)).d1=ps.flatten.length∧(aq (ps.map gb)).d2=aW ps.flatten
 | []=>⟨rfl,rfl,rfl,rfl⟩
 | p::r=>by
  obtain ⟨h1,h2,h3,h4⟩:=Ao r;have e:aq ((p::r).map gb)=bd (aq [gb p]) (aq (r.map gb)):=by
   rw [←kM];rfl
  rw [e];have e1:aq [gb p]=bd Sm.zero (jW (gb p)):=rfl;refine ⟨?_,?_,?_,?_⟩
  ·show (aq [gb p]).n+(aq (r.map gb)).n=_;rw [e1,h1];simp [bd,Sm.zero,jW];omega
  ·show (aq [gb p]).d0+(aq (r.map gb)).d0=_;rw [e1,h2];simp [bd,Sm.zero,jW,gb,ba]
  ·show (aq [gb p]).d1+(aq (r.map gb)).d1=_;rw [e1,h3];simp [bd,Sm.zero,jW,gb]
  ·show (aq [gb p]).d2+(aq (r.map gb)).d2=_;rw [e1,h4];simp [bd,Sm.zero,jW,gb,gu]
theorem Hj {a b:ByteArray} (h:a.data.toList=b.data.toList):a=b:=by
 apply adh;apply aeg;exact h
theorem kP (l:List Int):(c9 l).data.toList=aM l:=by simp [c9]
theorem Ba (s:ByteArray) (i j:Nat):(s.extract i j).data.toList=(s.data.toList.drop i).take (j - i):=by
 rw [ado,adB,adT]
theorem As (a b c:List Int) (i j:Nat) (hi:i=(aM a).length) (hj:j=(aM a).length+(aM b).length):(c9 (a++(b++c))).extract i j=c9 b:=by
 apply Hj;rw [Ba,kP,kP,ba,ba,hi,hj,List.drop_left,ac0,ads]
theorem S0 (ps:List (List Int)) (j:Nat):(aq ((ps.take j).map gb)).n=(ps.take j).length∧(aq ((ps.take j).map gb)).d0=(aM (ps.take j).flatten).length∧(aq ((ps.take j).map gb)).d1=(ps.take j).flatten.length∧(aq ((ps.take j).map gb)).d2=aW (ps.take j).flatten:=Ao _
theorem Ov {ps:List (List Int)} {j:Nat} {p:List Int} (h:ps[j]? = some p):ps.flatten=(ps.take j).flatten++(p++(ps.drop (j+1)).flatten):=by
 conv=>lhs;rw [←abf j ps,acQ,abI (aaX.1 h).1,(aaX.1 h).2,acf]
theorem HW {ps:List (List Int)} {j:Nat} {p:List Int} (h:ps[j]? = some p):(ps.take (j+1)).flatten=(ps.take j).flatten++p:=by
 rw [ac7,h,acQ];simp
theorem iR (r:Int) (l:List Int):aM (r::l)=(Utf8.encode r).data.toList++aM l:=by rw [show r::l=[r]++l from rfl,ba,kY]
theorem gA:aM []=[]:=rfl
theorem FV (r:Int):1≤(Utf8.encode r).data.toList.length:=by
 by_cases hv:Utf8.valid r=true
 ·have h1:=(eo r).1.2 hv;have h2:=(zd hv).2;rw [abr];have:(Utf8.encode r).size=(Utf8.encode r).data.size:=rfl;omega
 ·rw [l7 r (by simpa using hv)];decide
theorem yF : ∀l:List Int,l.length≤(aM l).length
 | []=>aaV _
 | r::l=>by
  have:=yF l;have:=FV r;rw [iR,Or,aa6];omega
theorem fX (l:List Int) (i:Nat):(aM (l.take i)).length≤(aM l).length:=by
 conv=>rhs;rw [←abf i l,ba,Or]
 omega
theorem FS (l:List Int) {i j:Nat} (h:i<j) (hj:j≤l.length):(aM (l.take i)).length<(aM (l.take j)).length:=by
 have e:l.take j=l.take i++(l.drop i).take (j - i):=by
  rw [←adA];congr 1;omega
 have:=yF ((l.drop i).take (j - i));rw [e,ba,Or];simp only [aa7,abg] at this;omega
theorem j4:aW []=0:=rfl
theorem dA (c:Int) (l:List Int):aW (c::l)=(if c=10 then 1 else 0)+aW l:=by
 unfold aW;by_cases h:c=10
 ·simp [h];omega
 ·simp [h]
theorem gY : ∀l:List Int,aW l≤l.length
 | []=>aaV _
 | c::l=>by
  have:=gY l;rw [dA,aa6];split<;>omega
theorem wC (l:List Int) (c:Int):aW (l++[c])=aW l+(if c=10 then 1 else 0):=by rw [gu,dA,j4,abD]
theorem mU (l:List Int) (i:Nat):aW (l.take i)≤aW l:=by
 conv=>rhs;rw [←abf i l,gu]
 omega
theorem FU (r:Int) (hv:Utf8.valid r=true):(Utf8.encode r).data.toList.countP (· == 10)=if r=10 then 1 else 0:=by
 have h:=Dk hv;have eb:=fc r h;obtain ⟨k,rfl⟩ : ∃k:Nat,r=k:=⟨r.toNat,by omega⟩
 have ne : ∀m:Int,128≤m→m≤255→(UInt8.ofNat m.toNat==10)=false:=fun m h1 h2=>by
  rw [acD];intro e;have:=congrArg UInt8.toNat e;rw [UInt8.toNat_ofNat'] at this;have e10:(10:UInt8).toNat=10:=rfl;rw [e10] at this;omega
 rw [eb];by_cases h1:(k:Int)<128
 ·rw [aa3 h1];by_cases h2:(k:Int)=10
  ·rw [aa3 h2,h2];rfl
  ·rw [aaY h2];have:(UInt8.ofNat (k:Int).toNat==10)=false:=by
    rw [acD];intro e;have:=congrArg UInt8.toNat e;rw [UInt8.toNat_ofNat'] at this;have e10:(10:UInt8).toNat=10:=rfl;rw [e10] at this;omega
   show List.countP _ [UInt8.ofNat (k:Int).toNat]=0;simp only [ady,List.countP_nil,this];rfl
 ·rw [aaY h1];have h10 : ¬((k:Int)=10):=by omega
  rw [aaY h10];by_cases h2:(k:Int)<2048
  ·rw [aa3 h2];have a:=ne (192+(k:Int) / 64) (by omega) (by omega);have b:=ne (128+(k:Int) % 64) (by omega) (by omega);simp [a,b]
  ·rw [aaY h2];by_cases h3:(k:Int)<65536
   ·rw [aa3 h3];have a:=ne (224+(k:Int) / 4096) (by omega) (by omega);have b:=ne (128+(k:Int) / 64 % 64) (by omega) (by omega);have c:=ne (128+(k:Int) % 64) (by omega) (by omega);simp [a,b,c]
   ·rw [aaY h3];have a:=ne (240+(k:Int) / 262144) (by omega) (by omega);have b:=ne (128+(k:Int) / 4096 % 64) (by omega) (by omega);have c:=ne (128+(k:Int) / 64 % 64) (by omega) (by omega);have d:=ne (128+(k:Int) % 64) (by omega) (by omega);simp [a,b,c,d]
theorem FH : ∀l:List Int,JJ l→(aM l).countP (· == 10)=aW l
 | [],_=>rfl
 | r::l,h=>by
  rw [iR,List.countP_append,FU r (h r (by simp)),FH l (fun x hx=>h x (by simp [hx])),dA]
theorem Kn (l:List Int) (h:JJ l):AX (c9 l) 10=aW l:=by
 unfold AX;rw [kP,FH l h]
def qn:List Int→Nat→Nat
 | _,0=>0
 | [],_+1=>0
 | c::r,k+1=>1+(if c=10 then qn r k else qn r (k+1))
theorem DF (l:List Int):qn l 0=0:=by cases l<;>rfl
theorem iJ : ∀(a b:List Int) (k:Nat),aW a<k→qn (a++b) k=a.length+qn b (k - aW a)
 | [],b,k,h=>by simp [j4]
 | c::a,b,0,h=>by omega
 | c::a,b,k+1,h=>by
  rw [dA] at h;rw [abG,qn,aa6,dA];split
  ·rename_i hc;rw [aa3 hc] at h;rw [iJ a b k (by omega),show k+1 - (1+aW a)=k - aW a by omega];omega
  ·rename_i hc;rw [aaY hc] at h;rw [iJ a b (k+1) (by omega),show k+1 - (0+aW a)=k+1 - aW a by omega];omega
def qg:List Int→Nat
 | []=>0
 | c::r=>if c=10 then 0 else qg r+1
theorem MR : ∀l:List Int,qg l≤l.length
 | []=>aaV _
 | c::l=>by
  have:=MR l;rw [qg,aa6];split<;>omega
theorem FE : ∀l:List Int,0<aW l→qn l 1=qg l+1∧l[qg l]? = some 10
 | [],h=>by rw [j4] at h;omega
 | c::l,h=>by
  rw [dA] at h;rw [qn,qg];split
  ·rename_i hc;rw [DF,hc];exact ⟨rfl,rfl⟩
  ·rename_i hc;rw [aaY hc] at h;obtain ⟨h1,h2⟩:=FE l (by omega);rw [h1];exact ⟨by omega,by rw [abB];exact h2⟩
theorem MS : ∀l:List Int,aW l=0→qg l=l.length
 | [],h=>rfl
 | c::l,h=>by
  rw [dA] at h;rw [qg,aa6];split
  ·rename_i hc;rw [aa3 hc] at h;omega
  ·rename_i hc;rw [aaY hc] at h;rw [MS l (by omega)]
theorem Aq : ∀(l:List Int) (i:Nat),i<qg l→l[i]? ≠ some 10
 | [],i,h=>by simp
 | c::l,i,h=>by
  rw [qg] at h;split at h
  ·omega
  ·rename_i hc;cases i with
   | zero=>simpa using hc
   | succ i=>rw [abB];exact Aq l i (by omega)
theorem AO (l:List Int) (i:Nat) (hi:i≤l.length) (h:aW (l.take i)<aW l):qn l (aW (l.take i)+1)=i+qg (l.drop i)+1∧l[i+qg (l.drop i)]? = some 10:=by
 have e:=gu (l.take i) (l.drop i);rw [abf] at e;have h1:=iJ (l.take i) (l.drop i) (aW (l.take i)+1) (by omega);rw [abf,ac0,aa7,acw hi] at h1;obtain ⟨h2,h3⟩:=FE (l.drop i) (by omega);rw [abJ] at h3;exact ⟨by omega,h3⟩
theorem J3 (l:List Int) (i:Nat) (h : ¬aW (l.take i)<aW l):qg (l.drop i)=l.length - i:=by
 have e:=gu (l.take i) (l.drop i);rw [abf] at e;rw [MS _ (by omega),abg]
def dh (p:Nat→Bool) (n i:Nat):Nat:=if i<n then (if p i=true then i else dh p n (i+1)) else n
termination_by n - i
theorem jG (p:Nat→Bool) (n i:Nat) (h:n≤i):dh p n i=n:=by rw [dh,aaY (by omega)]
theorem pf {p:Nat→Bool} {n i:Nat} (h:i<n) (hp:p i=true):dh p n i=i:=by rw [dh,aa3 h,aa3 hp]
theorem kH {p:Nat→Bool} {n i:Nat} (h:i<n) (hp:p i=false):dh p n i=dh p n (i+1):=by rw [dh,aa3 h,aaY (by simp [hp])]
theorem qc (p:Nat→Bool) (n:Nat) : ∀(d i:Nat),i+d≤n→(∀k,i≤k→k<i+d→p k=false)→dh p n i=dh p n (i+d)
 | 0,i,_,_=>rfl
 | d+1,i,h,hp=>by
  rw [kH (by omega) (hp i (by omega) (by omega)),qc p n d (i+1) (by omega) (fun k h1 h2=>hp k (by omega) (by omega))];congr 1;omega
theorem gn (p:Nat→Bool) (n i j:Nat) (hij:i≤j) (hj:j≤n) (hp : ∀k,i≤k→k<j→p k=false):dh p n i=dh p n j:=by
 have:=qc p n (j - i) i (by omega) (fun k h1 h2=>hp k h1 (by omega));rw [this];congr 1;omega
theorem ic (p:Nat→Bool) (n:Nat) : ∀(d i:Nat),n - i≤d→i≤n→i≤dh p n i∧dh p n i≤n∧(dh p n i<n→p (dh p n i)=true) ∧ ∀k,i≤k→k<dh p n i→p k=false
 | 0,i,h,hi=>by
  rw [jG p n i (by omega)];exact ⟨by omega,by omega,fun h=>by omega,fun k h1 h2=>by omega⟩
 | d+1,i,h,hi=>by
  by_cases hlt:i<n
  ·cases hp:p i with
   | true=>rw [pf hlt hp];exact ⟨by omega,by omega,fun _=>hp,fun k h1 h2=>by omega⟩
   | false=>
    obtain ⟨h1,h2,h3,h4⟩:=ic p n d (i+1) (by omega) (by omega);rw [kH hlt hp];refine ⟨by omega,h2,h3,fun k g1 g2 =>?_⟩;by_cases hk:k=i
    ·subst hk;exact hp
    ·exact h4 k (by omega) g2
  ·rw [jG p n i (by omega)];exact ⟨by omega,by omega,fun h=>by omega,fun k h1 h2=>by omega⟩
abbrev Sn:=Int × Int
def fS (n:Int):Int→List Sn→Bool
 | _,[]=>true
 | last,x::r=> !(decide (x.1<last)||decide (x.2≤x.1)||decide (n<x.2))&&fS n x.2 r
theorem bZ {n last:Int} {x:Sn} {r:List Sn} : fS n last (x::r)=true↔(last≤x.1∧x.1<x.2∧x.2≤n)∧fS n x.2 r=true:=by
 rw [fS];simp only [aa8,acb,acy,ab9];constructor
 ·rintro ⟨⟨⟨h1,h2⟩,h3⟩,h4⟩;exact ⟨⟨by omega,by omega,by omega⟩,h4⟩
 ·rintro ⟨⟨h1,h2,h3⟩,h4⟩;exact ⟨⟨⟨by omega,by omega⟩,by omega⟩,h4⟩
theorem bE {n:Int} : ∀ {l:List Sn} {last:Int},fS n last l=true → ∀x∈l,last≤x.1∧x.1<x.2∧x.2≤n
 | [],_,_,x,hx=>by cases hx
 | y::r,last,h,x,hx=>by
  obtain ⟨⟨h1,h2,h3⟩,h4⟩:=bZ.1 h;rcases abi.1 hx with rfl|hx
  ·exact ⟨h1,h2,h3⟩
  ·have:=bE h4 x hx;exact ⟨by omega,this.2⟩
def f9 (i:Int) (x:Sn):Bool:=decide (x.1≤i)&&decide (i<x.2)
def bb (h:List Sn) (i:Int):Option Sn:=h.find? (f9 i)
theorem da {i:Int} {x:Sn} : f9 i x=true↔x.1≤i∧i<x.2:=by simp [f9]
theorem bV {h:List Sn} {i:Int} {x:Sn} (e:bb h i=some x):x∈h∧x.1≤i∧i<x.2:=by
 refine ⟨adf e,?_⟩;have:=ad8 e;exact da.1 this
theorem ld {h:List Sn} {i:Int} (e:bb h i=none) : ∀x∈h,¬(x.1≤i∧i<x.2):=by
 intro x hx hi;have:=adO.1 e x hx;exact this (da.2 hi)
theorem nn {n:Int} : ∀ {h:List Sn} {last:Int},fS n last h=true → ∀x∈h,∀i,x.1≤i→i<x.2→bb h i=some x
 | [],_,_,x,hx,i,_,_=>by cases hx
 | y::r,last,hr,x,hx,i,h1,h2=>by
  obtain ⟨⟨q1,q2,q3⟩,q4⟩:=bZ.1 hr;unfold bb;rw [ac6];rcases abi.1 hx with rfl|hx
  ·rw [da.2 ⟨h1,h2⟩]
  ·have:=bE q4 x hx;have e:f9 i y=false:=by
    cases hb:f9 i y with
    | false=>rfl
    | true=>have:=da.1 hb;omega
   rw [e];exact nn q4 x hx i h1 h2
def gf (l:List Int) (h:List Sn) (i:Nat):Bool:=decide (l[i]? = some 10)&&(bb h i).isNone
theorem fp {l:List Int} {h:List Sn} {i:Nat} : gf l h i=true↔l[i]? = some 10∧bb h i=none:=by simp [gf]
theorem nR {l:List Int} {h:List Sn} {n last:Int} (hr:fS n last h=true) {x:Sn} (hx:x∈h) {i:Nat} (h1:x.1≤i) (h2:(i:Int)<x.2):gf l h i=false:=by
 have:=nn hr x hx i h1 h2;simp [gf,this]
theorem tH {l:List Int} {h:List Sn} {i:Nat} (h1:l[i]? ≠ some 10):gf l h i=false:=by simp [gf,h1]
def aE (l:List Int) (h:List Sn) (i:Nat):Nat:=dh (gf l h) l.length i
theorem HP {l:List Int} {h:List Sn} {i:Nat} (hi:i≤l.length) (hb : ¬aW (l.take i)<aW l):aE l h i=l.length:=by
 have h1:=J3 l i hb;unfold aE;rw [gn _ _ i l.length hi (aaV _) (fun k h2 h3=>tH ?_),jG _ _ _ (aaV _)];have:=Aq (l.drop i) (k - i) (by omega);rw [abJ,show i+(k - i)=k by omega] at this;exact this
theorem wM {l:List Int} {h:List Sn} {i:Nat} (hi:i≤l.length):aE l h i=aE l h (i+qg (l.drop i)):=by
 have:=MR (l.drop i);rw [abg] at this;unfold aE;refine gn _ _ i _ (by omega) (by omega) fun k h2 h3=>tH ?_
 have:=Aq (l.drop i) (k - i) (by omega);rw [abJ,show i+(k - i)=k by omega] at this;exact this
theorem HO {l:List Int} {h:List Sn} {i:Nat} (hi:i≤l.length) (hb:aW (l.take i)<aW l) (hn:bb h ((i+qg (l.drop i):Nat):Int)=none):aE l h i=i+qg (l.drop i):=by
 obtain ⟨h1,h2⟩:=AO l i hi hb;rw [wM hi];exact pf (aaX.1 h2).1 (fp.2 ⟨h2,hn⟩)
theorem HQ {l:List Int} {h:List Sn} {last:Int} (hr:fS l.length last h=true) {i j:Nat} (hi:i≤l.length) {x:Sn} (hn:bb h ((i+qg (l.drop i):Nat):Int)=some x) (hj:x.2=j):aE l h i=aE l h j:=by
 obtain ⟨h1,h2,h3⟩:=bV hn;have hm:=bE hr x h1;rw [wM hi];unfold aE;exact gn _ _ _ _ (by omega) (by omega) fun k q1 q2=>nR hr h1 (by omega) (by omega)
def aQ (l:List Int) (h:List Sn) (i:Nat):List (Nat × Nat):=(i,aE l h i)::(if hlt:aE l h i<l.length∧i≤aE l h i then aQ l h (aE l h i+1) else [])
termination_by l.length - i
decreasing_by omega
theorem bM (l:List Int) (h:List Sn) {i:Nat} (hi:i≤l.length):i≤aE l h i∧aE l h i≤l.length:=by
 have:=ic (gf l h) l.length _ i (aaV _) hi;exact ⟨this.1,this.2.1⟩
theorem eC (l:List Int) (h:List Sn) {i:Nat} (hi:i≤l.length) (hlt:aE l h i<l.length):gf l h (aE l h i)=true:=(ic (gf l h) l.length _ i (aaV _) hi).2.2.1 hlt
theorem yH (l:List Int) (h:List Sn) {i k:Nat} (hi:i≤l.length) (h1:i≤k) (h2:k<aE l h i):gf l h k=false:=(ic (gf l h) l.length _ i (aaV _) hi).2.2.2 k h1 h2
theorem w6 (l:List Int) (h:List Sn) : ∀(d i:Nat),l.length - i≤d→i≤l.length → ∀x∈aQ l h i,i≤x.1
 | d,i,hd,hi,x,hx=>by
  rw [aQ] at hx;rcases abi.1 hx with rfl|hx
  ·exact aaV _
  ·split at hx
   ·rename_i hlt;have:=bM l h hi;have:=w6 l h (d - 1) (aE l h i+1) (by omega) (by omega) x hx;omega
   ·cases hx
 termination_by d=>d
 decreasing_by omega
end Go.Proofs.YtkkanlcjjpoklaaGreatDoor
