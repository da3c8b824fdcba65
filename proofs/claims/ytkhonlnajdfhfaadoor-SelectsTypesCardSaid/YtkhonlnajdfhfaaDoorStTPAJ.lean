/- What the theorem leans on, part 10. -/
import Derived.Test.YtkhonlnajdfhfaaDoorStTPAG
import Derived.Test.YtkhonlnajdfhfaaDoorStTPAH
set_option linter.unusedSimpArgs false
set_option linter.unusedVariables false
namespace Go.Proofs.YtkhonlnajdfhfaaDoor
def d9 (l:List Int):Nat:=(l.filter (· = 10)).length
def dk (l:List Int):It:=⟨0,0,(aD l).length,l.length,d9 l,0,⟨(aD l).toArray⟩⟩
def mh:Nat→List Int→List (List Int)
 | 0,_=>[]
 | k+1,l=>l.take (l.length / (k+1))::mh k (l.drop (l.length / (k+1)))
theorem mI : ∀(k:Nat) (l:List Int),(k=0→l=[])→(mh k l).flatten=l
 | 0,l,h=>by rw [h rfl];rfl
 | k+1,l,_=>by
  rw [mh,List.flatten_cons,mI k _ (fun hk=>by subst hk;simp),List.take_append_drop]
theorem sa : ∀(k:Nat) (l:List Int),k≤l.length→l.length≤16*k → ∀p∈mh k l,1≤p.length∧p.length≤16
 | 0,l,_,_,p,hp=>by simp [mh] at hp
 | k+1,l,h1,h2,p,hp=>by
  obtain ⟨q,r,hq,hr⟩ : ∃q r,l.length=q*(k+1)+r∧r<k+1:=⟨l.length / (k+1),l.length % (k+1),by rw [Nat.mul_comm];exact (Nat.div_add_mod _ _).symm,Nat.mod_lt _ (by omega)⟩
  have e:l.length / (k+1)=q:=by
   rw [hq,Nat.mul_comm,Nat.mul_add_div (by omega),Nat.div_eq_of_lt hr,Nat.add_zero]
  have hq1:1≤q:=by
   rcases Nat.eq_zero_or_pos q with h|h
   ·subst h;omega
   ·exact h
  have hq2:q≤16:=by
   rw [←e];exact Nat.div_le_of_le_mul (by omega)
  rw [mh,e] at hp;rcases List.mem_cons.1 hp with rfl|hp
  ·rw [List.length_take];have:q≤l.length:=by rw [←e];exact Nat.div_le_self _ _
   omega
  ·refine sa k (l.drop q) ?_ ?_ p hp
   ·rw [List.length_drop,hq,Nat.mul_succ];have:k≤q*k:=Nat.le_mul_of_pos_left k hq1;omega
   ·rw [List.length_drop,hq,Nat.mul_succ];by_cases h16:q=16
    ·subst h16;omega
    ·have h3:=Nat.mul_le_mul_right k (show q+1≤16 by omega);rw [Nat.succ_mul] at h3;omega
def pcs (l:List Int):List (List Int):=mh ((l.length+15) / 16) l
theorem pD (l:List Int):(pcs l).flatten=l:=mI _ l (fun h=>List.length_eq_zero_iff.1 (by omega))
theorem Ba (l:List Int) : ∀p∈pcs l,1≤p.length∧p.length≤16:=sa _ l (by omega) (by omega)
theorem oP (a b:List Int):d9 (a++b)=d9 a+d9 b:=by simp [d9]
theorem oi : ∀ps:List (List Int),(ar (ps.map dk)).n=ps.length∧(ar (ps.map dk)).d0=(aD ps.flatten).length∧(ar (ps.map dk)).d1=ps.flatten.length∧(ar (ps.map dk)).d2=d9 ps.flatten
 | []=>⟨rfl,rfl,rfl,rfl⟩
 | p::r=>by
  obtain ⟨h1,h2,h3,h4⟩:=oi r;have e:ar ((p::r).map dk)=aS (ar [dk p]) (ar (r.map dk)):=by
   rw [←iO];rfl
  rw [e];have e1:ar [dk p]=aS Sm.zero (fk (dk p)):=rfl;refine ⟨?_,?_,?_,?_⟩
  ·show (ar [dk p]).n+(ar (r.map dk)).n=_;rw [e1,h1];simp [aS,Sm.zero,fk];omega
  ·show (ar [dk p]).d0+(ar (r.map dk)).d0=_;rw [e1,h2];simp [aS,Sm.zero,fk,dk,ba]
  ·show (ar [dk p]).d1+(ar (r.map dk)).d1=_;rw [e1,h3];simp [aS,Sm.zero,fk,dk]
  ·show (ar [dk p]).d2+(ar (r.map dk)).d2=_;rw [e1,h4];simp [aS,Sm.zero,fk,dk,oP]
theorem tD {a b:ByteArray} (h:a.data.toList=b.data.toList):a=b:=by
 apply ByteArray.ext;apply Array.ext';exact h
theorem iT (l:List Int):(fQ l).data.toList=aD l:=by simp [fQ]
theorem wo (s:ByteArray) (i j:Nat):(s.extract i j).data.toList=(s.data.toList.drop i).take (j - i):=by
 rw [ByteArray.data_extract,Array.toList_extract,List.extract_eq_take_drop]
theorem zD (a b c:List Int) (i j:Nat) (hi:i=(aD a).length) (hj:j=(aD a).length+(aD b).length):(fQ (a++(b++c))).extract i j=fQ b:=by
 apply tD;rw [wo,iT,iT,ba,ba,hi,hj,List.drop_left,Nat.add_sub_cancel_left,List.take_left]
theorem Bk (ps:List (List Int)) (j:Nat):(ar ((ps.take j).map dk)).n=(ps.take j).length∧(ar ((ps.take j).map dk)).d0=(aD (ps.take j).flatten).length∧(ar ((ps.take j).map dk)).d1=(ps.take j).flatten.length∧(ar ((ps.take j).map dk)).d2=d9 (ps.take j).flatten:=oi _
theorem yN {ps:List (List Int)} {j:Nat} {p:List Int} (h:ps[j]? = some p):ps.flatten=(ps.take j).flatten++(p++(ps.drop (j+1)).flatten):=by
 conv=>lhs;rw [←List.take_append_drop j ps,List.flatten_append,List.drop_eq_getElem_cons (List.getElem?_eq_some_iff.1 h).1,(List.getElem?_eq_some_iff.1 h).2,List.flatten_cons]
theorem tW {ps:List (List Int)} {j:Nat} {p:List Int} (h:ps[j]? = some p):(ps.take (j+1)).flatten=(ps.take j).flatten++p:=by
 rw [List.take_add_one,h,List.flatten_append];simp
theorem tS (r:Int) (l:List Int):aD (r::l)=(Utf8.encode r).data.toList++aD l:=by rw [show r::l=[r]++l from rfl,ba,ky]
theorem hJ:aD []=[]:=rfl
theorem yE (r:Int):1≤(Utf8.encode r).data.toList.length:=by
 by_cases hv:Utf8.valid r=true
 ·have h1:=(dU r).1.2 hv;have h2:=(sI hv).2;rw [Array.length_toList];have:(Utf8.encode r).size=(Utf8.encode r).data.size:=rfl;omega
 ·rw [gB r (by simpa using hv)];decide
theorem nJ : ∀l:List Int,l.length≤(aD l).length
 | []=>Nat.le_refl _
 | r::l=>by
  have:=nJ l;have:=yE r;rw [tS,List.length_append,List.length_cons];omega
theorem eL (l:List Int) (i:Nat):(aD (l.take i)).length≤(aD l).length:=by
 conv=>rhs;rw [←List.take_append_drop i l,ba,List.length_append]
 omega
theorem sm (l:List Int) {i j:Nat} (h:i<j) (hj:j≤l.length):(aD (l.take i)).length<(aD (l.take j)).length:=by
 have e:l.take j=l.take i++(l.drop i).take (j - i):=by
  rw [←List.take_add];congr 1;omega
 have:=nJ ((l.drop i).take (j - i));rw [e,ba,List.length_append];simp only [List.length_take,List.length_drop] at this;omega
theorem oQ:d9 []=0:=rfl
theorem mE (c:Int) (l:List Int):d9 (c::l)=(if c=10 then 1 else 0)+d9 l:=by
 unfold d9;by_cases h:c=10
 ·simp [h];omega
 ·simp [h]
theorem nB : ∀l:List Int,d9 l≤l.length
 | []=>Nat.le_refl _
 | c::l=>by
  have:=nB l;rw [mE,List.length_cons];split<;>omega
theorem tA (l:List Int) (c:Int):d9 (l++[c])=d9 l+(if c=10 then 1 else 0):=by rw [oP,mE,oQ,Nat.add_zero]
end Go.Proofs.YtkhonlnajdfhfaaDoor
