/- What the theorem leans on, part 14. -/
import Derived.Test.YtkhonlnajdfhfaaGreatDoorLtYPAK
import Derived.Test.YtkhonlnajdfhfaaGreatDoorLtYPAL
set_option linter.unusedSimpArgs false
set_option linter.unusedVariables false
namespace Go.Proofs.YtkhonlnajdfhfaaGreatDoor
def brkN (l:List Int):Nat:=(l.filter (· = 10)).length
def pcI (l:List Int):It:=⟨0,0,(encL l).length,l.length,brkN l,0,⟨(encL l).toArray⟩⟩
def cutP:Nat→List Int→List (List Int)
 | 0,_=>[]
 | k+1,l=>l.take (l.length / (k+1))::cutP k (l.drop (l.length / (k+1)))
theorem cutP_flat : ∀(k:Nat) (l:List Int),(k=0→l=[])→(cutP k l).flatten=l
 | 0,l,h=>by rw [h rfl];rfl
 | k+1,l,_=>by
  rw [cutP,List.flatten_cons,cutP_flat k _ (fun hk=>by subst hk;simp),List.take_append_drop]
theorem cutP_ok : ∀(k:Nat) (l:List Int),k≤l.length→l.length≤16*k → ∀p∈cutP k l,1≤p.length∧p.length≤16
 | 0,l,_,_,p,hp=>by simp [cutP] at hp
 | k+1,l,h1,h2,p,hp=>by
  obtain ⟨q,r,hq,hr⟩ : ∃q r,l.length=q*(k+1)+r∧r<k+1:=⟨l.length / (k+1),l.length % (k+1),by rw [Nat.mul_comm];exact (Nat.div_add_mod _ _).symm,Nat.mod_lt _ (by omega)⟩
  have e:l.length / (k+1)=q:=by
   rw [hq,Nat.mul_comm,Nat.mul_add_div (by omega),Nat.div_eq_of_lt hr,Nat.add_zero]
  have hq1:1≤q:=by
   rcases Nat.eq_zero_or_pos q with h|h
   ·subst h;omega
   ·exact h
  have hq2:q≤16:=by
   rw [←e];exact Nat.div_le_of_le_mul (by omega)
  rw [cutP,e] at hp
  rcases List.mem_cons.1 hp with rfl|hp
  ·rw [List.length_take]
   have:q≤l.length:=by rw [←e];exact Nat.div_le_self _ _
   omega
  ·refine cutP_ok k (l.drop q) ?_ ?_ p hp
   ·rw [List.length_drop,hq,Nat.mul_succ]
    have:k≤q*k:=Nat.le_mul_of_pos_left k hq1
    omega
   ·rw [List.length_drop,hq,Nat.mul_succ]
    by_cases h16:q=16
    ·subst h16;omega
    ·have h3:=Nat.mul_le_mul_right k (show q+1≤16 by omega)
     rw [Nat.succ_mul] at h3
     omega
def pcs (l:List Int):List (List Int):=cutP ((l.length+15) / 16) l
theorem pcs_flat (l:List Int):(pcs l).flatten=l:=cutP_flat _ l (fun h=>List.length_eq_zero_iff.1 (by omega))
theorem pcs_ok (l:List Int) : ∀p∈pcs l,1≤p.length∧p.length≤16:=cutP_ok _ l (by omega) (by omega)
theorem brkN_app (a b:List Int):brkN (a++b)=brkN a+brkN b:=by simp [brkN]
theorem sum_pcs : ∀ps:List (List Int),(sumL (ps.map pcI)).n=ps.length∧(sumL (ps.map pcI)).d0=(encL ps.flatten).length∧(sumL (ps.map pcI)).d1=ps.flatten.length∧(sumL (ps.map pcI)).d2=brkN ps.flatten
 | []=>⟨rfl,rfl,rfl,rfl⟩
 | p::r=>by
  obtain ⟨h1,h2,h3,h4⟩:=sum_pcs r
  have e:sumL ((p::r).map pcI)=addM (sumL [pcI p]) (sumL (r.map pcI)):=by
   rw [←sumL_app];rfl
  rw [e]
  have e1:sumL [pcI p]=addM Sm.zero (ofI (pcI p)):=rfl
  refine ⟨?_,?_,?_,?_⟩
  ·show (sumL [pcI p]).n+(sumL (r.map pcI)).n=_
   rw [e1,h1];simp [addM,Sm.zero,ofI];omega
  ·show (sumL [pcI p]).d0+(sumL (r.map pcI)).d0=_
   rw [e1,h2];simp [addM,Sm.zero,ofI,pcI,encL_app]
  ·show (sumL [pcI p]).d1+(sumL (r.map pcI)).d1=_
   rw [e1,h3];simp [addM,Sm.zero,ofI,pcI]
  ·show (sumL [pcI p]).d2+(sumL (r.map pcI)).d2=_
   rw [e1,h4];simp [addM,Sm.zero,ofI,pcI,brkN_app]
theorem bytes_ext {a b:ByteArray} (h:a.data.toList=b.data.toList):a=b:=by
 apply ByteArray.ext
 apply Array.ext'
 exact h
theorem txt_list (l:List Int):(txt l).data.toList=encL l:=by simp [txt]
theorem ext_list (s:ByteArray) (i j:Nat):(s.extract i j).data.toList=(s.data.toList.drop i).take (j - i):=by
 rw [ByteArray.data_extract,Array.toList_extract,List.extract_eq_take_drop]
theorem txt_cut (a b c:List Int) (i j:Nat) (hi:i=(encL a).length) (hj:j=(encL a).length+(encL b).length):(txt (a++(b++c))).extract i j=txt b:=by
 apply bytes_ext
 rw [ext_list,txt_list,txt_list,encL_app,encL_app,hi,hj,List.drop_left,Nat.add_sub_cancel_left,List.take_left]
theorem sum_at (ps:List (List Int)) (j:Nat):(sumL ((ps.take j).map pcI)).n=(ps.take j).length∧(sumL ((ps.take j).map pcI)).d0=(encL (ps.take j).flatten).length∧(sumL ((ps.take j).map pcI)).d1=(ps.take j).flatten.length∧(sumL ((ps.take j).map pcI)).d2=brkN (ps.take j).flatten:=sum_pcs _
theorem flat_at {ps:List (List Int)} {j:Nat} {p:List Int} (h:ps[j]? = some p):ps.flatten=(ps.take j).flatten++(p++(ps.drop (j+1)).flatten):=by
 conv=>lhs;rw [←List.take_append_drop j ps,List.flatten_append,List.drop_eq_getElem_cons (List.getElem?_eq_some_iff.1 h).1,(List.getElem?_eq_some_iff.1 h).2,List.flatten_cons]
theorem flat_take {ps:List (List Int)} {j:Nat} {p:List Int} (h:ps[j]? = some p):(ps.take (j+1)).flatten=(ps.take j).flatten++p:=by
 rw [List.take_add_one,h,List.flatten_append];simp
theorem encL_cons (r:Int) (l:List Int):encL (r::l)=(Utf8.encode r).data.toList++encL l:=by rw [show r::l=[r]++l from rfl,encL_app,enc_one]
theorem encL_nil:encL []=[]:=rfl
theorem enc_pos (r:Int):1≤(Utf8.encode r).data.toList.length:=by
 by_cases hv:Utf8.valid r=true
 ·have h1:=(sizeR_valid r).1.2 hv
  have h2:=(num_enc hv).2
  rw [Array.length_toList]
  have:(Utf8.encode r).size=(Utf8.encode r).data.size:=rfl
  omega
 ·rw [encode_bad r (by simpa using hv)]
  decide
theorem encL_ge : ∀l:List Int,l.length≤(encL l).length
 | []=>Nat.le_refl _
 | r::l=>by
  have:=encL_ge l
  have:=enc_pos r
  rw [encL_cons,List.length_append,List.length_cons];omega
theorem encL_take_le (l:List Int) (i:Nat):(encL (l.take i)).length≤(encL l).length:=by
 conv=>rhs;rw [←List.take_append_drop i l,encL_app,List.length_append]
 omega
theorem encL_lt (l:List Int) {i j:Nat} (h:i<j) (hj:j≤l.length):(encL (l.take i)).length<(encL (l.take j)).length:=by
 have e:l.take j=l.take i++(l.drop i).take (j - i):=by
  rw [←List.take_add];congr 1;omega
 have:=encL_ge ((l.drop i).take (j - i))
 rw [e,encL_app,List.length_append]
 simp only [List.length_take,List.length_drop] at this
 omega
theorem brkN_nil:brkN []=0:=rfl
theorem brkN_cons (c:Int) (l:List Int):brkN (c::l)=(if c=10 then 1 else 0)+brkN l:=by
 unfold brkN
 by_cases h:c=10
 ·simp [h];omega
 ·simp [h]
theorem brkN_le : ∀l:List Int,brkN l≤l.length
 | []=>Nat.le_refl _
 | c::l=>by
  have:=brkN_le l
  rw [brkN_cons,List.length_cons]
  split<;>omega
theorem brkN_snoc (l:List Int) (c:Int):brkN (l++[c])=brkN l+(if c=10 then 1 else 0):=by rw [brkN_app,brkN_cons,brkN_nil,Nat.add_zero]
theorem brkN_take_le (l:List Int) (i:Nat):brkN (l.take i)≤brkN l:=by
 conv=>rhs;rw [←List.take_append_drop i l,brkN_app]
 omega
theorem enc_brk (r:Int) (hv:Utf8.valid r=true):(Utf8.encode r).data.toList.countP (· == 10)=if r=10 then 1 else 0:=by
 have h:=valid_in hv
 have eb:=enc_bytes r h
 obtain ⟨k,rfl⟩ : ∃k:Nat,r=k:=⟨r.toNat,by omega⟩
 have ne : ∀m:Int,128≤m→m≤255→(UInt8.ofNat m.toNat==10)=false:=fun m h1 h2=>by
  rw [beq_eq_false_iff_ne]
  intro e
  have:=congrArg UInt8.toNat e
  rw [UInt8.toNat_ofNat'] at this
  have e10:(10:UInt8).toNat=10:=rfl
  rw [e10] at this
  omega
 rw [eb]
 by_cases h1:(k:Int)<128
 ·rw [if_pos h1]
  by_cases h2:(k:Int)=10
  ·rw [if_pos h2,h2];rfl
  ·rw [if_neg h2]
   have:(UInt8.ofNat (k:Int).toNat==10)=false:=by
    rw [beq_eq_false_iff_ne]
    intro e
    have:=congrArg UInt8.toNat e
    rw [UInt8.toNat_ofNat'] at this
    have e10:(10:UInt8).toNat=10:=rfl
    rw [e10] at this
    omega
   show List.countP _ [UInt8.ofNat (k:Int).toNat]=0
   simp only [List.countP_cons,List.countP_nil,this]
   rfl
 ·rw [if_neg h1]
  have h10 : ¬((k:Int)=10):=by omega
  rw [if_neg h10]
  by_cases h2:(k:Int)<2048
  ·rw [if_pos h2]
   have a:=ne (192+(k:Int) / 64) (by omega) (by omega)
   have b:=ne (128+(k:Int) % 64) (by omega) (by omega)
   simp [a,b]
  ·rw [if_neg h2]
   by_cases h3:(k:Int)<65536
   ·rw [if_pos h3]
    have a:=ne (224+(k:Int) / 4096) (by omega) (by omega)
    have b:=ne (128+(k:Int) / 64 % 64) (by omega) (by omega)
    have c:=ne (128+(k:Int) % 64) (by omega) (by omega)
    simp [a,b,c]
   ·rw [if_neg h3]
    have a:=ne (240+(k:Int) / 262144) (by omega) (by omega)
    have b:=ne (128+(k:Int) / 4096 % 64) (by omega) (by omega)
    have c:=ne (128+(k:Int) / 64 % 64) (by omega) (by omega)
    have d:=ne (128+(k:Int) % 64) (by omega) (by omega)
    simp [a,b,c,d]
theorem cnt_brk : ∀l:List Int,okR l→(encL l).countP (· == 10)=brkN l
 | [],_=>rfl
 | r::l,h=>by
  rw [encL_cons,List.countP_append,enc_brk r (h r (by simp)),cnt_brk l (fun x hx=>h x (by simp [hx])),brkN_cons]
theorem cntB_txt (l:List Int) (h:okR l):cntB (txt l) 10=brkN l:=by
 unfold cntB
 rw [txt_list,cnt_brk l h]
def behL:List Int→Nat→Nat
 | _,0=>0
 | [],_+1=>0
 | c::r,k+1=>1+(if c=10 then behL r k else behL r (k+1))
theorem behL_0 (l:List Int):behL l 0=0:=by cases l<;>rfl
theorem behL_skip : ∀(a b:List Int) (k:Nat),brkN a<k→behL (a++b) k=a.length+behL b (k - brkN a)
 | [],b,k,h=>by simp [brkN_nil]
 | c::a,b,0,h=>by omega
 | c::a,b,k+1,h=>by
  rw [brkN_cons] at h
  rw [List.cons_append,behL,List.length_cons,brkN_cons]
  split
  ·rename_i hc
   rw [if_pos hc] at h
   rw [behL_skip a b k (by omega),show k+1 - (1+brkN a)=k - brkN a by omega];omega
  ·rename_i hc
   rw [if_neg hc] at h
   rw [behL_skip a b (k+1) (by omega),show k+1 - (0+brkN a)=k+1 - brkN a by omega];omega
def toB:List Int→Nat
 | []=>0
 | c::r=>if c=10 then 0 else toB r+1
theorem toB_le : ∀l:List Int,toB l≤l.length
 | []=>Nat.le_refl _
 | c::l=>by
  have:=toB_le l
  rw [toB,List.length_cons]
  split<;>omega
theorem beh_one : ∀l:List Int,0<brkN l→behL l 1=toB l+1∧l[toB l]? = some 10
 | [],h=>by rw [brkN_nil] at h;omega
 | c::l,h=>by
  rw [brkN_cons] at h
  rw [behL,toB]
  split
  ·rename_i hc
   rw [behL_0,hc];exact ⟨rfl,rfl⟩
  ·rename_i hc
   rw [if_neg hc] at h
   obtain ⟨h1,h2⟩:=beh_one l (by omega)
   rw [h1]
   exact ⟨by omega,by rw [List.getElem?_cons_succ];exact h2⟩
theorem toB_no : ∀l:List Int,brkN l=0→toB l=l.length
 | [],h=>rfl
 | c::l,h=>by
  rw [brkN_cons] at h
  rw [toB,List.length_cons]
  split
  ·rename_i hc
   rw [if_pos hc] at h;omega
  ·rename_i hc
   rw [if_neg hc] at h
   rw [toB_no l (by omega)]
theorem toB_not : ∀(l:List Int) (i:Nat),i<toB l→l[i]? ≠ some 10
 | [],i,h=>by simp
 | c::l,i,h=>by
  rw [toB] at h
  split at h
  ·omega
  ·rename_i hc
   cases i with
   | zero=>simpa using hc
   | succ i=>rw [List.getElem?_cons_succ];exact toB_not l i (by omega)
theorem beh_next (l:List Int) (i:Nat) (hi:i≤l.length) (h:brkN (l.take i)<brkN l):behL l (brkN (l.take i)+1)=i+toB (l.drop i)+1∧l[i+toB (l.drop i)]? = some 10:=by
 have e:=brkN_app (l.take i) (l.drop i)
 rw [List.take_append_drop] at e
 have h1:=behL_skip (l.take i) (l.drop i) (brkN (l.take i)+1) (by omega)
 rw [List.take_append_drop,Nat.add_sub_cancel_left,List.length_take,Nat.min_eq_left hi] at h1
 obtain ⟨h2,h3⟩:=beh_one (l.drop i) (by omega)
 rw [List.getElem?_drop] at h3
 exact ⟨by omega,h3⟩
theorem beh_none (l:List Int) (i:Nat) (h : ¬brkN (l.take i)<brkN l):toB (l.drop i)=l.length - i:=by
 have e:=brkN_app (l.take i) (l.drop i)
 rw [List.take_append_drop] at e
 rw [toB_no _ (by omega),List.length_drop]
def seekUp (p:Nat→Bool) (n i:Nat):Nat:=if i<n then (if p i=true then i else seekUp p n (i+1)) else n
termination_by n - i
theorem seekUp_end (p:Nat→Bool) (n i:Nat) (h:n≤i):seekUp p n i=n:=by rw [seekUp,if_neg (by omega)]
theorem seekUp_at {p:Nat→Bool} {n i:Nat} (h:i<n) (hp:p i=true):seekUp p n i=i:=by rw [seekUp,if_pos h,if_pos hp]
theorem seekUp_step {p:Nat→Bool} {n i:Nat} (h:i<n) (hp:p i=false):seekUp p n i=seekUp p n (i+1):=by rw [seekUp,if_pos h,if_neg (by simp [hp])]
theorem seekUp_skip (p:Nat→Bool) (n:Nat) : ∀(d i:Nat),i+d≤n→(∀k,i≤k→k<i+d→p k=false)→seekUp p n i=seekUp p n (i+d)
 | 0,i,_,_=>rfl
 | d+1,i,h,hp=>by
  rw [seekUp_step (by omega) (hp i (by omega) (by omega)),seekUp_skip p n d (i+1) (by omega) (fun k h1 h2=>hp k (by omega) (by omega))]
  congr 1;omega
theorem seekUp_to (p:Nat→Bool) (n i j:Nat) (hij:i≤j) (hj:j≤n) (hp : ∀k,i≤k→k<j→p k=false):seekUp p n i=seekUp p n j:=by
 have:=seekUp_skip p n (j - i) i (by omega) (fun k h1 h2=>hp k h1 (by omega))
 rw [this];congr 1;omega
theorem seekUp_spec (p:Nat→Bool) (n:Nat) : ∀(d i:Nat),n - i≤d→i≤n→i≤seekUp p n i∧seekUp p n i≤n∧(seekUp p n i<n→p (seekUp p n i)=true) ∧ ∀k,i≤k→k<seekUp p n i→p k=false
 | 0,i,h,hi=>by
  rw [seekUp_end p n i (by omega)]
  exact ⟨by omega,by omega,fun h=>by omega,fun k h1 h2=>by omega⟩
 | d+1,i,h,hi=>by
  by_cases hlt:i<n
  ·cases hp:p i with
   | true=>rw [seekUp_at hlt hp];exact ⟨by omega,by omega,fun _=>hp,fun k h1 h2=>by omega⟩
   | false=>
    obtain ⟨h1,h2,h3,h4⟩:=seekUp_spec p n d (i+1) (by omega) (by omega)
    rw [seekUp_step hlt hp]
    refine ⟨by omega,h2,h3,fun k g1 g2 =>?_⟩
    by_cases hk:k=i
    ·subst hk;exact hp
    ·exact h4 k (by omega) g2
  ·rw [seekUp_end p n i (by omega)]
   exact ⟨by omega,by omega,fun h=>by omega,fun k h1 h2=>by omega⟩
abbrev Sn:=Int × Int
def rgt (n:Int):Int→List Sn→Bool
 | _,[]=>true
 | last,x::r=> !(decide (x.1<last)||decide (x.2≤x.1)||decide (n<x.2))&&rgt n x.2 r
theorem rgt_cons {n last:Int} {x:Sn} {r:List Sn} : rgt n last (x::r)=true↔(last≤x.1∧x.1<x.2∧x.2≤n)∧rgt n x.2 r=true:=by
 rw [rgt]
 simp only [Bool.and_eq_true,Bool.not_eq_true',Bool.or_eq_false_iff,decide_eq_false_iff_not]
 constructor
 ·rintro ⟨⟨⟨h1,h2⟩,h3⟩,h4⟩;exact ⟨⟨by omega,by omega,by omega⟩,h4⟩
 ·rintro ⟨⟨h1,h2,h3⟩,h4⟩;exact ⟨⟨⟨by omega,by omega⟩,by omega⟩,h4⟩
theorem rgt_mem {n:Int} : ∀ {l:List Sn} {last:Int},rgt n last l=true → ∀x∈l,last≤x.1∧x.1<x.2∧x.2≤n
 | [],_,_,x,hx=>by cases hx
 | y::r,last,h,x,hx=>by
  obtain ⟨⟨h1,h2,h3⟩,h4⟩:=rgt_cons.1 h
  rcases List.mem_cons.1 hx with rfl|hx
  ·exact ⟨h1,h2,h3⟩
  ·have:=rgt_mem h4 x hx
   exact ⟨by omega,this.2⟩
def inSp (i:Int) (x:Sn):Bool:=decide (x.1≤i)&&decide (i<x.2)
def hidO (h:List Sn) (i:Int):Option Sn:=h.find? (inSp i)
theorem inSp_iff {i:Int} {x:Sn} : inSp i x=true↔x.1≤i∧i<x.2:=by simp [inSp]
theorem hidO_some {h:List Sn} {i:Int} {x:Sn} (e:hidO h i=some x):x∈h∧x.1≤i∧i<x.2:=by
 refine ⟨List.mem_of_find?_eq_some e,?_⟩
 have:=List.find?_some e
 exact inSp_iff.1 this
theorem hidO_none {h:List Sn} {i:Int} (e:hidO h i=none) : ∀x∈h,¬(x.1≤i∧i<x.2):=by
 intro x hx hi
 have:=List.find?_eq_none.1 e x hx
 exact this (inSp_iff.2 hi)
theorem hidO_is {n:Int} : ∀ {h:List Sn} {last:Int},rgt n last h=true → ∀x∈h,∀i,x.1≤i→i<x.2→hidO h i=some x
 | [],_,_,x,hx,i,_,_=>by cases hx
 | y::r,last,hr,x,hx,i,h1,h2=>by
  obtain ⟨⟨q1,q2,q3⟩,q4⟩:=rgt_cons.1 hr
  unfold hidO
  rw [List.find?_cons]
  rcases List.mem_cons.1 hx with rfl|hx
  ·rw [inSp_iff.2 ⟨h1,h2⟩]
  ·have:=rgt_mem q4 x hx
   have e:inSp i y=false:=by
    cases hb:inSp i y with
    | false=>rfl
    | true=>have:=inSp_iff.1 hb;omega
   rw [e]
   exact hidO_is q4 x hx i h1 h2
def shB (l:List Int) (h:List Sn) (i:Nat):Bool:=decide (l[i]? = some 10)&&(hidO h i).isNone
theorem shB_iff {l:List Int} {h:List Sn} {i:Nat} : shB l h i=true↔l[i]? = some 10∧hidO h i=none:=by simp [shB]
theorem shB_hid {l:List Int} {h:List Sn} {n last:Int} (hr:rgt n last h=true) {x:Sn} (hx:x∈h) {i:Nat} (h1:x.1≤i) (h2:(i:Int)<x.2):shB l h i=false:=by
 have:=hidO_is hr x hx i h1 h2
 simp [shB,this]
theorem shB_no {l:List Int} {h:List Sn} {i:Nat} (h1:l[i]? ≠ some 10):shB l h i=false:=by simp [shB,h1]
def endP (l:List Int) (h:List Sn) (i:Nat):Nat:=seekUp (shB l h) l.length i
theorem endP_last {l:List Int} {h:List Sn} {i:Nat} (hi:i≤l.length) (hb : ¬brkN (l.take i)<brkN l):endP l h i=l.length:=by
 have h1:=beh_none l i hb
 unfold endP
 rw [seekUp_to _ _ i l.length hi (Nat.le_refl _) (fun k h2 h3=>shB_no ?_),seekUp_end _ _ _ (Nat.le_refl _)]
 have:=toB_not (l.drop i) (k - i) (by omega)
 rw [List.getElem?_drop,show i+(k - i)=k by omega] at this
 exact this
theorem endP_skip {l:List Int} {h:List Sn} {i:Nat} (hi:i≤l.length):endP l h i=endP l h (i+toB (l.drop i)):=by
 have:=toB_le (l.drop i)
 rw [List.length_drop] at this
 unfold endP
 refine seekUp_to _ _ i _ (by omega) (by omega) fun k h2 h3=>shB_no ?_
 have:=toB_not (l.drop i) (k - i) (by omega)
 rw [List.getElem?_drop,show i+(k - i)=k by omega] at this
 exact this
theorem endP_here {l:List Int} {h:List Sn} {i:Nat} (hi:i≤l.length) (hb:brkN (l.take i)<brkN l) (hn:hidO h ((i+toB (l.drop i):Nat):Int)=none):endP l h i=i+toB (l.drop i):=by
 obtain ⟨h1,h2⟩:=beh_next l i hi hb
 rw [endP_skip hi]
 exact seekUp_at (List.getElem?_eq_some_iff.1 h2).1 (shB_iff.2 ⟨h2,hn⟩)
theorem endP_over {l:List Int} {h:List Sn} {last:Int} (hr:rgt l.length last h=true) {i j:Nat} (hi:i≤l.length) {x:Sn} (hn:hidO h ((i+toB (l.drop i):Nat):Int)=some x) (hj:x.2=j):endP l h i=endP l h j:=by
 obtain ⟨h1,h2,h3⟩:=hidO_some hn
 have hm:=rgt_mem hr x h1
 rw [endP_skip hi]
 unfold endP
 exact seekUp_to _ _ _ _ (by omega) (by omega) fun k q1 q2=>shB_hid hr h1 (by omega) (by omega)
def linesP (l:List Int) (h:List Sn) (i:Nat):List (Nat × Nat):=(i,endP l h i)::(if hlt:endP l h i<l.length∧i≤endP l h i then linesP l h (endP l h i+1) else [])
termination_by l.length - i
decreasing_by omega
theorem endP_in (l:List Int) (h:List Sn) {i:Nat} (hi:i≤l.length):i≤endP l h i∧endP l h i≤l.length:=by
 have:=seekUp_spec (shB l h) l.length _ i (Nat.le_refl _) hi
 exact ⟨this.1,this.2.1⟩
theorem endP_sh (l:List Int) (h:List Sn) {i:Nat} (hi:i≤l.length) (hlt:endP l h i<l.length):shB l h (endP l h i)=true:=(seekUp_spec (shB l h) l.length _ i (Nat.le_refl _) hi).2.2.1 hlt
theorem endP_no (l:List Int) (h:List Sn) {i k:Nat} (hi:i≤l.length) (h1:i≤k) (h2:k<endP l h i):shB l h k=false:=(seekUp_spec (shB l h) l.length _ i (Nat.le_refl _) hi).2.2.2 k h1 h2
end Go.Proofs.YtkhonlnajdfhfaaGreatDoor
