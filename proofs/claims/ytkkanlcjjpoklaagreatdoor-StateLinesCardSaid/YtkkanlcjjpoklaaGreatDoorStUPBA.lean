/- What the theorem leans on, part 27. -/
import Derived.Test.YtkkanlcjjpoklaaGreatDoorStUPAG
import Derived.Test.YtkkanlcjjpoklaaGreatDoorStUPAJ
set_option linter.unusedSimpArgs false
set_option linter.unusedVariables false
namespace Go.Proofs.YtkkanlcjjpoklaaGreatDoor
abbrev Cl:=Int × Int × Nat × Int
def F9 (l:List (Int × Int)) (r:Int):Bool:=l.any fun x=>decide (x.1≤r∧r≤x.2)
def NA (z w:List (Int × Int)) (r:Int):Nat:=if F9 z r then 0 else if F9 w r then 2 else 1
theorem Dz (z w:List (Int × Int)) (r:Int):NA z w r≤2:=by unfold NA;split;omega;split<;>omega
def nl (z w:List (Int × Int)) (tab:Nat) (at':Nat) (r:Int):Nat:=if r=9 then (if 64≤at' then 1 else tab - at' % tab) else NA z w r
def pP (z w:List (Int × Int)) (tab:Nat):Nat→List Int→List Nat
 | _,[]=>[]
 | a,r::t=>nl z w tab a r::pP z w tab (a+nl z w tab a r) t
theorem kD (z w:List (Int × Int)) (tab:Nat) : ∀(l:List Int) (a:Nat),(pP z w tab a l).length=l.length
 | [],_=>rfl
 | r::t,a=>by rw [pP,List.length_cons,List.length_cons,kD z w tab t]
theorem Nh {z w:List (Int × Int)} {tab a:Nat} (ht:1≤tab):1≤nl z w tab a 9:=by
 rw [nl,if_pos rfl];split
 ·omega
 ·have:=Nat.mod_lt a ht;omega
theorem tt {z w:List (Int × Int)} {tab a:Nat} {r:Int} (ht:1≤tab) (h:tab≤16):nl z w tab a r≤16:=by
 rw [nl];split
 ·split<;>omega
 ·have:=Dz z w r;omega
def mj (z w:List (Int × Int)) (tab:Nat):Nat→List Int→Nat
 | a,[]=>a
 | a,r::t=>mj z w tab (a+nl z w tab a r) t
theorem nD (z w:List (Int × Int)) (tab:Nat) (r:Int) : ∀(l:List Int) (a:Nat),mj z w tab a (l++[r])=mj z w tab a l+nl z w tab (mj z w tab a l) r
 | [],_=>rfl
 | x::t,a=>by rw [List.cons_append,mj,nD z w tab r t,mj]
theorem tn (z w:List (Int × Int)) (tab:Nat) (r:Int) : ∀(l:List Int) (a:Nat),pP z w tab a (l++[r])=pP z w tab a l++[nl z w tab (mj z w tab a l) r]
 | [],_=>rfl
 | x::t,a=>by rw [List.cons_append,pP,tn z w tab r t,pP,mj];rfl
theorem xh {z w:List (Int × Int)} {tab:Nat} (ht:1≤tab) (h:tab≤16) : ∀(l:List Int) (a:Nat),mj z w tab a l≤a+16*l.length
 | [],_=>Nat.le_refl _
 | x::t,a=>by
  have h1:=xh (z:=z) (w:=w) ht h t (a+nl z w tab a x);have h2:=tt (z:=z) (w:=w) (a:=a) (r:=x) ht h;rw [mj,List.length_cons];omega
def ff (x:Int × Int × Int) (s:Nat):List Cl:=(x.1,x.2.1,(if x.1=9 then 1 else s),x.2.2)::List.replicate (s - (if x.1=9 then 1 else s)) (32,4,1,x.2.2)
def du (l:List (Int × Int × Int)) (ss:List Nat):List Cl:=(List.zipWith ff l ss).flatten
theorem oM (x:Int × Int × Int) (s:Nat) (l:List (Int × Int × Int)) (ss:List Nat) (h:l.length=ss.length):du (l++[x]) (ss++[s])=du l ss++ff x s:=by
 rw [du,List.zipWith_append h,List.flatten_append];simp [du]
abbrev cw (c:Cl):Nat:=c.2.2.1
def cZ (l:List Cl):Nat:=(l.map cw).sum
theorem NE:cZ []=0:=rfl
theorem gl (c:Cl) (l:List Cl):cZ (c::l)=cw c+cZ l:=by simp [cZ]
theorem yA (a b:List Cl):cZ (a++b)=cZ a+cZ b:=by simp [cZ]
theorem j8 (l:List Cl) {i:Nat} {c:Cl} (h:l[i]? = some c):cZ (l.take (i+1))=cZ (l.take i)+cw c:=by
 rw [List.take_add_one,h,Option.toList_some,yA,gl,NE];omega
theorem iu (l:List Cl) {i j:Nat} (h:i≤j):cZ (l.take i)≤cZ (l.take j):=by
 have e:l.take j=l.take i++(l.take j).drop i:=by
  have:=(List.take_append_drop i (l.take j)).symm;rwa [List.take_take,Nat.min_eq_left h] at this
 rw [e,yA];omega
theorem gL {l:List Cl} (h : ∀c∈l,cw c≤2):cZ l≤2*l.length:=by
 induction l with
 | nil=>exact Nat.zero_le _
 | cons c r ih=>
  have:=ih (fun x hx=>h x (List.mem_cons_of_mem _ hx));have:=h c List.mem_cons_self;rw [gl,List.length_cons];omega
def bL (c:Cl):Bool:=c.1==32||c.1==9
def iP (l:List Cl):Nat:=min (cZ (l.takeWhile bL)) 8
def nu (l:List Cl) (i:Nat):Bool:=
 decide (0<i)&&(match l[i - 1]?,l[i]? with|some a,some b=>bL a && !bL b&&decide (0<cw b)|_,_=>false)
def nG (room:Int):List Cl→Int→Nat
 | [],_=>0
 | c::r,a=>if a+cw c≤room then nG room r (a+cw c)+1 else 0
def HB (l:List Cl):Nat:=(l.takeWhile fun c=>cw c==0).length
def d9 (l:List Cl) (room:Int):Nat:=if nG room l 0=0 then 1+HB (l.drop 1) else nG room l 0
theorem D6 (room:Int) : ∀(l:List Cl) (a:Int),nG room l a≤l.length
 | [],_=>Nat.le_refl _
 | c::r,a=>by
  rw [nG];split
  ·have:=D6 room r (a+cw c);rw [List.length_cons];omega
  ·omega
theorem xm (room:Int) : ∀(l:List Cl) (a:Int) (i:Nat),i≤l.length→(∀j,j<i→a+cZ (l.take (j+1))≤room)→(∀c,l[i]? = some c→room<a+cZ (l.take i)+cw c)→nG room l a=i
 | [],_,i,h,_,_=>by simp at h;subst h;rfl
 | c::r,a,i,h,h1,h2=>by
  rw [nG];cases i with
  | zero=>
   have:=h2 c rfl;simp [cZ] at this;rw [if_neg (by simp only [cw] at *;omega)]
  | succ i=>
   have:=h1 0 (by omega);rw [List.take_succ_cons,gl] at this;simp [cZ] at this;rw [if_pos (by simp only [cw] at *;omega),xm room r (a+cw c) i (by simpa using h)]
   ·intro j hj;have:=h1 (j+1) (by omega);rw [List.take_succ_cons,gl] at this;omega
   ·intro x hx;have:=h2 x (by simpa using hx);rw [List.take_succ_cons,gl] at this;omega
theorem zk (room:Int) : ∀(l:List Cl) (a:Int),a≤room→a+cZ (l.take (nG room l a))≤room
 | [],_,h=>by simpa [nG,cZ] using h
 | c::r,a,h=>by
  rw [nG];split
  ·rename_i h1;have:=zk room r (a+cw c) h1;rw [List.take_succ_cons,gl];omega
  ·simpa [cZ] using h
theorem Qw (l:List Cl):HB l≤l.length:=by
 unfold HB;exact (List.takeWhile_sublist _).length_le
theorem mq (l:List Cl) (room:Int):1≤d9 l room:=by unfold d9;split<;>omega
theorem pZ {l:List Cl} {room:Int} (h:l≠[]):d9 l room≤l.length:=by
 unfold d9;split
 ·have:=Qw (l.drop 1);have:=List.length_pos_iff.2 h;simp at *;omega
 ·exact D6 _ _ _
def lD (l:List Cl):Nat→Nat
 | 0=>0
 | n+1=>if nu l (n+1) then n+1 else lD l n
theorem qc (l:List Cl) : ∀n,lD l n≤n
 | 0=>Nat.le_refl _
 | n+1=>by
  rw [lD];split
  ·omega
  ·have:=qc l n;omega
def bJ (l:List Cl) (room:Int):Nat:=
 if l=[] then 0 else if d9 l room=l.length then l.length else if lD l (d9 l room)=0 then d9 l room else lD l (d9 l room)
theorem fH (l:List Cl) (room:Int):bJ l room≤l.length:=by
 unfold bJ;split
 ·omega
 ·rename_i h;have:=pZ (room:=room) h;have:=qc l (d9 l room);split
  ·omega
  ·split<;>omega
theorem tp {l:List Cl} (room:Int) (h:l≠[]):bJ l room≤d9 l room:=by
 unfold bJ;rw [if_neg h];have:=qc l (d9 l room);split
 ·omega
 ·split<;>omega
theorem ci {l:List Cl} (room:Int) (h:l≠[]):1≤bJ l room:=by
 unfold bJ;rw [if_neg h];have:=mq l room;have:=List.length_pos_iff.2 h;split
 ·omega
 ·split<;>omega
def cC (l:List Cl) (room:Int):Nat:=
 if (l.take (bJ l room)).all bL∧bJ l room≠0 then d9 l room else bJ l room
theorem ou (l:List Cl) (room:Int):cC l room≤l.length:=by
 unfold cC;split
 ·rename_i h;refine pZ fun e =>?_
  subst e;exact h.2 rfl
 ·exact fH _ _
theorem lP {l:List Cl} (room:Int) (h:l≠[]):1≤cC l room∧cC l room≤d9 l room:=by
 unfold cC;have:=tp room h;have:=ci room h;have:=mq l room;split<;>omega
def cO (room:Int) (l:List Cl):List Nat:=
 if h:l=[] then [] else bJ l room::cO room (l.drop (bJ l room))
termination_by l.length
decreasing_by
 have:=ci room h;have:=List.length_pos_iff.2 h;rw [List.length_drop];omega
def px (l:List Cl) (first rest:Int):List Nat:=cC l first::cO rest (l.drop (cC l first))
def dD (l:List Cl) (w:Int):Nat:=if w<iP l+2 then 0 else iP l
def bn (l:List Cl) (w:Int):List Nat:=if w=0 then [l.length] else px l w (w - dD l w)
def dg:List Cl→List Nat→List (List Cl)
 | _,[]=>[]
 | l,n::r=>l.take n::dg (l.drop n) r
def et (n:Nat) (l:List Cl):List Cl:=
 match l with
 | []=>[]
 | c::r=>List.replicate n (32,5,1,c.2.2.2)++c::r
def bN (l:List Cl) (w:Int):List (List Cl):=
 match dg l (bn l w) with
 | []=>[]
 | a::r=>a::r.map (et (dD l w))
theorem AK (room:Int) : ∀(n:Nat) (l:List Cl),l.length≤n→(dg l (cO room l)).flatten=l
 | n,l,hn=>by
  by_cases h:l=[]
  ·subst h;rw [cO,dif_pos rfl];rfl
  ·have h1:=ci room h;have h2:=List.length_pos_iff.2 h;rw [cO,dif_neg h,dg,List.flatten_cons,AK room (n - 1) _ (by rw [List.length_drop];omega),List.take_append_drop]
 termination_by n=>n
 decreasing_by
  have:=List.length_pos_iff.2 h;omega
theorem wz (l:List Cl) (w:Int):(dg l (bn l w)).flatten=l:=by
 unfold bn;split
 ·simp [dg]
 ·rw [px,dg,List.flatten_cons,AK _ _ _ (Nat.le_refl _),List.take_append_drop]
theorem AJ {P:List Cl→Prop} (room:Int) (h : ∀l:List Cl,l≠[]→P (l.take (bJ l room))) : ∀(n:Nat) (l:List Cl),l.length≤n → ∀r∈dg l (cO room l),P r
 | n,l,hn=>by
  by_cases h0:l=[]
  ·subst h0;rw [cO,dif_pos rfl];intro r hr;cases hr
  ·have h1:=ci room h0;have h2:=List.length_pos_iff.2 h0;rw [cO,dif_neg h0,dg];intro r hr;rcases List.mem_cons.1 hr with rfl|hr
   ·exact h l h0
   ·exact AJ room h (n - 1) _ (by rw [List.length_drop];omega) r hr
 termination_by n=>n
 decreasing_by
  have:=List.length_pos_iff.2 h0;omega
theorem zl {l:List Cl} {room:Int} (hr:2≤room) (h : ∀c∈l,cw c≤2):(cZ (l.take (d9 l room)):Int)≤room:=by
 unfold d9;split
 ·rename_i h0;cases l with
  | nil=>simp [cZ];omega
  | cons c r=>
   have:=h c List.mem_cons_self;rw [nG,if_pos (by omega)] at h0;omega
 ·have:=zk room l 0 (by omega);omega
theorem AM {room:Int} (hr:2≤room) : ∀(n:Nat) (l:List Cl),l.length≤n→(∀c∈l,cw c≤2) → ∀r∈dg l (cO room l),(cZ r:Int)≤room∧r≠[]
 | n,l,hn,hc=>by
  by_cases h0:l=[]
  ·subst h0;rw [cO,dif_pos rfl];intro r hr;cases hr
  ·have h1:=ci room h0;have h2:=List.length_pos_iff.2 h0;rw [cO,dif_neg h0,dg];intro r hr';rcases List.mem_cons.1 hr' with rfl|hr'
   ·have:=zl hr hc;have:=iu l (tp room h0);refine ⟨by omega,fun e =>?_⟩;have:=congrArg List.length e;rw [List.length_take,List.length_nil] at this;omega
   ·exact AM hr (n - 1) _ (by rw [List.length_drop];omega) (fun c hc'=>hc c (List.mem_of_mem_drop hc')) r hr'
 termination_by n=>n
 decreasing_by
  have:=List.length_pos_iff.2 h0;omega
theorem MS (room:Int) (l:List Cl) : ∀r∈dg l (cO room l),r≠[]:=
 AJ room (fun l h e=>by
  have h1:=ci room h;have h2:=List.length_pos_iff.2 h;have:=congrArg List.length e;rw [List.length_take,List.length_nil] at this;omega) _ l (Nat.le_refl _)
theorem NF (n:Nat) (c:Cl):cZ (List.replicate n c)=n*cw c:=by
 induction n with
 | zero=>simp [cZ]
 | succ n ih=>rw [List.replicate_succ,gl,ih,Nat.succ_mul];omega
theorem ND (n:Nat) {l:List Cl} (h:l≠[]):cZ (et n l)=n+cZ l:=by
 cases l with
 | nil=>exact (h rfl).elim
 | cons c r=>rw [et,yA,NF,Nat.mul_one]
theorem eF (l:List Cl):iP l≤8:=Nat.min_le_right _ _
theorem Mi (l:List Cl) {w:Int} (h:2≤w):(dD l w:Int)+2≤w:=by
 unfold dD;split<;>omega
theorem Ki {l:List Cl} {w:Int} (hw:2≤w) (hc : ∀c∈l,cw c≤2) : ∀r∈bN l w,(cZ r:Int)≤w:=by
 have hh:=Mi l hw;have key:=AM (room:=w - dD l w) (by omega) _ (l.drop (cC l w)) (Nat.le_refl _) (fun c h=>hc c (List.mem_of_mem_drop h));have e:dg l (bn l w)=l.take (cC l w)::dg (l.drop (cC l w)) (cO (w - dD l w) (l.drop (cC l w))):=by
  rw [bn,if_neg (by omega),px,dg]
 intro r hr;rw [bN,e] at hr;rcases List.mem_cons.1 hr with rfl|hr
 ·by_cases h0:l=[]
  ·subst h0;simp [cZ];omega
  ·have:=zl hw hc;have:=iu l (lP w h0).2;omega
 ·obtain ⟨r',hr',rfl⟩:=List.mem_map.1 hr;obtain ⟨h1,h2⟩:=key r' hr';rw [ND _ h2];omega
def bz (z w:List (Int × Int)) (tab:Nat):Nat→List (Int × Int × Int)→List Cl
 | _,[]=>[]
 | a,x::t=>ff x (nl z w tab a x.1)++bz z w tab (a+nl z w tab a x.1) t
theorem qJ (z w:List (Int × Int)) (tab:Nat) : ∀(l:List (Int × Int × Int)) (a:Nat),du l (pP z w tab a (l.map (·.1)))=bz z w tab a l
 | [],_=>rfl
 | x::t,a=>by
  rw [List.map_cons,pP,du,List.zipWith_cons_cons,List.flatten_cons,bz,←qJ z w tab t];rfl
theorem Dq {z w:List (Int × Int)} {tab:Nat} (ht:1≤tab∧tab≤16) : ∀(fl:List (Int × Int × Int)) (a:Nat) (i:Nat) (x:Int × Int × Int) (s:Nat),fl[i]? = some x→(pP z w tab a (fl.map (·.1)))[i]? = some s→(if x.1=9 then 1 else s)≤s∧s≤16
 | [],_,i,x,s,h,_=>by simp at h
 | y::t,a,0,x,s,h,hs=>by
  rw [List.map_cons,pP] at hs;simp only [List.getElem?_cons_zero,Option.some.injEq] at h hs;subst h hs;have:=tt (z:=z) (w:=w) (a:=a) (r:=y.1) ht.1 ht.2;refine ⟨?_,this⟩;split
  ·rename_i h9;rw [h9];exact Nh ht.1
  ·exact Nat.le_refl _
 | y::t,a,i+1,x,s,h,hs=>by
  rw [List.map_cons,pP,List.getElem?_cons_succ] at hs;rw [List.getElem?_cons_succ] at h;exact Dq ht t _ i x s h hs
def dC (k st:Int):Int→List Int→List (Int × Int × Int)
 | _,[]=>[]
 | a,r::t=>(r,k,a)::dC k st (a+st) t
def c8:Pz→List (Int × Int × Int)
 | .tx k a rs=>dC k (if k=1 then 1 else 0) a rs
 | .fo a=>[(8230,3,a)]
def aE:List Pz→List (Int × Int × Int)
 | []=>[]
 | z::t=>c8 z++aE t
theorem a5 : ∀a b:List Pz,aE (a++b)=aE a++aE b
 | [],b=>rfl
 | z::t,b=>by rw [List.cons_append,aE,aE,a5 t b,List.append_assoc]
theorem dU (z:Pz):aE [z]=c8 z:=by rw [aE,aE,List.append_nil]
theorem iK (k st:Int) (r:Int) : ∀(x:List Int) (a:Int),dC k st a (x++[r])=dC k st a x++[(r,k,a+st*x.length)]
 | [],a=>by simp [dC]
 | y::t,a=>by
  rw [List.cons_append,dC,iK k st r t,dC,List.cons_append];congr 4;rw [List.length_cons,Int.natCast_add,Int.mul_add,Int.add_assoc,Int.add_comm (st*_),Int.natCast_one,Int.mul_one]
theorem vi {k st:Int} : ∀(x:List Int) (a:Int) c,c∈dC k st a x→c.2.1=k∧(st=0→c.2.2=a)
 | [],_,c,h=>by cases h
 | y::t,a,c,h=>by
  rcases List.mem_cons.1 h with rfl|h
  ·exact ⟨rfl,fun _=>rfl⟩
  ·obtain ⟨h1,h2⟩:=vi t _ c h;exact ⟨h1,fun e=>by rw [h2 e,e];omega⟩
theorem hJ (k st:Int) : ∀(x:List Int) (a:Int),(dC k st a x).length=x.length
 | [],_=>rfl
 | y::t,a=>by rw [dC,List.length_cons,List.length_cons,hJ k st t]
theorem ve (l:List Pz) (i:Nat):(aE (l.take i)).length+(aE (l.drop i)).length=(aE l).length:=by
 rw [←List.length_append,←a5,List.take_append_drop]
def bo (fr:Int) (r:List Cl):Int:=match r.find? (fun c=>c.2.1 != 5) with
 | some c=>c.2.2.2
 | none=>fr
def eQ (r:List Cl):Bool:=r.any fun c=>c.2.1==3
theorem AS {fr:Int} : ∀ {r:List Cl} {i:Nat} {c:Cl},(∀(j:Nat) x,j<i→r[j]? = some x→x.2.1=5)→r[i]? = some c→c.2.1≠5→bo fr r=c.2.2.2
 | [],i,c,_,h,_=>by simp at h
 | y::t,0,c,_,h,hc=>by
  simp only [List.getElem?_cons_zero,Option.some.injEq] at h;subst h;rw [bo,List.find?_cons_of_pos (by simpa using hc)]
 | y::t,i+1,c,h1,h,hc=>by
  have hy:=h1 0 y (Nat.succ_pos _) rfl;have:=AS (fr:=fr) (r:=t) (i:=i) (c:=c) (fun j x hj hx=>h1 (j+1) x (by omega) (by rwa [List.getElem?_cons_succ])) (by rwa [List.getElem?_cons_succ] at h) hc;rw [bo,List.find?_cons_of_neg (by simpa using hy)];exact this
theorem AT {fr:Int} : ∀ {r:List Cl},(∀(j:Nat) x,r[j]? = some x→x.2.1=5)→bo fr r=fr
 | [],_=>rfl
 | y::t,h=>by
  have hy:=h 0 y rfl;have:=AT (fr:=fr) (r:=t) (fun j x hx=>h (j+1) x (by rwa [List.getElem?_cons_succ]));rw [bo,List.find?_cons_of_neg (by simpa using hy)];exact this
theorem FX {r:List Cl} {c:Cl} (h:c∈r) (hc:c.2.1=3):eQ r=true:=by
 unfold eQ;exact List.any_eq_true.2 ⟨c,h,by simpa using hc⟩
theorem I0 {r:List Cl} (h : ∀(j:Nat) x,r[j]? = some x→x.2.1≠3):eQ r=false:=by
 cases hb:eQ r with
 | false=>rfl
 | true=>
  unfold eQ at hb;obtain ⟨x,hx,h1⟩:=List.any_eq_true.1 hb;obtain ⟨i,hi⟩:=List.getElem?_of_mem hx;exact (h i x hi (by simpa using h1)).elim
end Go.Proofs.YtkkanlcjjpoklaaGreatDoor
