/- What the theorem leans on, part 30. -/
import Derived.Test.YtkkanlcjjpoklaaGreatDoorSpTPAJ
import Derived.Test.YtkkanlcjjpoklaaGreatDoorSpTPAR
set_option linter.unusedSimpArgs false
set_option linter.unusedVariables false
namespace Go.Proofs.YtkkanlcjjpoklaaGreatDoor
abbrev Cl:=Int × Int × Nat × Int
def Fg (l:List (Int × Int)) (r:Int):Bool:=l.any fun x=>decide (x.1≤r∧r≤x.2)
def Mt (z w:List (Int × Int)) (r:Int):Nat:=if Fg z r then 0 else if Fg w r then 2 else 1
theorem E1 (z w:List (Int × Int)) (r:Int):Mt z w r≤2:=by unfold Mt;split;omega;split<;>omega
def qG (z w:List (Int × Int)) (tab:Nat) (at':Nat) (r:Int):Nat:=if r=9 then (if 64≤at' then 1 else tab - at' % tab) else Mt z w r
def tT (z w:List (Int × Int)) (tab:Nat):Nat→List Int→List Nat
 | _,[]=>[]
 | a,r::t=>qG z w tab a r::tT z w tab (a+qG z w tab a r) t
theorem nz (z w:List (Int × Int)) (tab:Nat) : ∀(l:List Int) (a:Nat),(tT z w tab a l).length=l.length
 | [],_=>rfl
 | r::t,a=>by rw [tT,List.length_cons,List.length_cons,nz z w tab t]
theorem Hk {z w:List (Int × Int)} {tab a:Nat} (ht:1≤tab):1≤qG z w tab a 9:=by
 rw [qG,if_pos rfl];split
 ·omega
 ·have:=Nat.mod_lt a ht;omega
theorem tV {z w:List (Int × Int)} {tab a:Nat} {r:Int} (ht:1≤tab) (h:tab≤16):qG z w tab a r≤16:=by
 rw [qG];split
 ·split<;>omega
 ·have:=E1 z w r;omega
def mT (z w:List (Int × Int)) (tab:Nat):Nat→List Int→Nat
 | a,[]=>a
 | a,r::t=>mT z w tab (a+qG z w tab a r) t
theorem qX (z w:List (Int × Int)) (tab:Nat) (r:Int) : ∀(l:List Int) (a:Nat),mT z w tab a (l++[r])=mT z w tab a l+qG z w tab (mT z w tab a l) r
 | [],_=>rfl
 | x::t,a=>by rw [List.cons_append,mT,qX z w tab r t,mT]
theorem wL (z w:List (Int × Int)) (tab:Nat) (r:Int) : ∀(l:List Int) (a:Nat),tT z w tab a (l++[r])=tT z w tab a l++[qG z w tab (mT z w tab a l) r]
 | [],_=>rfl
 | x::t,a=>by rw [List.cons_append,tT,wL z w tab r t,tT,mT];rfl
theorem zk {z w:List (Int × Int)} {tab:Nat} (ht:1≤tab) (h:tab≤16) : ∀(l:List Int) (a:Nat),mT z w tab a l≤a+16*l.length
 | [],_=>Nat.le_refl _
 | x::t,a=>by
  have h1:=zk (z:=z) (w:=w) ht h t (a+qG z w tab a x);have h2:=tV (z:=z) (w:=w) (a:=a) (r:=x) ht h;rw [mT,List.length_cons];omega
def gB (x:Int × Int × Int) (s:Nat):List Cl:=(x.1,x.2.1,(if x.1=9 then 1 else s),x.2.2)::List.replicate (s - (if x.1=9 then 1 else s)) (32,4,1,x.2.2)
def fi (l:List (Int × Int × Int)) (ss:List Nat):List Cl:=(List.zipWith gB l ss).flatten
theorem ut (x:Int × Int × Int) (s:Nat) (l:List (Int × Int × Int)) (ss:List Nat) (h:l.length=ss.length):fi (l++[x]) (ss++[s])=fi l ss++gB x s:=by
 rw [fi,List.zipWith_append h,List.flatten_append];simp [fi]
abbrev cw (c:Cl):Nat:=c.2.2.1
def dK (l:List Cl):Nat:=(l.map cw).sum
theorem HG:dK []=0:=rfl
theorem eN (c:Cl) (l:List Cl):dK (c::l)=cw c+dK l:=by simp [dK]
theorem t5 (a b:List Cl):dK (a++b)=dK a+dK b:=by simp [dK]
theorem qd (l:List Cl) {i:Nat} {c:Cl} (h:l[i]? = some c):dK (l.take (i+1))=dK (l.take i)+cw c:=by
 rw [List.take_add_one,h,Option.toList_some,t5,eN,HG];omega
theorem iN (l:List Cl) {i j:Nat} (h:i≤j):dK (l.take i)≤dK (l.take j):=by
 have e:l.take j=l.take i++(l.take j).drop i:=by
  have:=(List.take_append_drop i (l.take j)).symm;rwa [List.take_take,Nat.min_eq_left h] at this
 rw [e,t5];omega
theorem l8 {l:List Cl} (h : ∀c∈l,cw c≤2):dK l≤2*l.length:=by
 induction l with
 | nil=>exact Nat.zero_le _
 | cons c r ih=>
  have:=ih (fun x hx=>h x (List.mem_cons_of_mem _ hx));have:=h c List.mem_cons_self;rw [eN,List.length_cons];omega
def dl (c:Cl):Bool:=c.1==32||c.1==9
def lr (l:List Cl):Nat:=min (dK (l.takeWhile dl)) 8
def un (l:List Cl) (i:Nat):Bool:=
 decide (0<i)&&(match l[i - 1]?,l[i]? with|some a,some b=>dl a && !dl b&&decide (0<cw b)|_,_=>false)
def mU (room:Int):List Cl→Int→Nat
 | [],_=>0
 | c::r,a=>if a+cw c≤room then mU room r (a+cw c)+1 else 0
def Ik (l:List Cl):Nat:=(l.takeWhile fun c=>cw c==0).length
def eO (l:List Cl) (room:Int):Nat:=if mU room l 0=0 then 1+Ik (l.drop 1) else mU room l 0
theorem zt (room:Int) : ∀(l:List Cl) (a:Int),mU room l a≤l.length
 | [],_=>Nat.le_refl _
 | c::r,a=>by
  rw [mU];split
  ·have:=zt room r (a+cw c);rw [List.length_cons];omega
  ·omega
theorem zr (room:Int) : ∀(l:List Cl) (a:Int) (i:Nat),i≤l.length→(∀j,j<i→a+dK (l.take (j+1))≤room)→(∀c,l[i]? = some c→room<a+dK (l.take i)+cw c)→mU room l a=i
 | [],_,i,h,_,_=>by simp at h;subst h;rfl
 | c::r,a,i,h,h1,h2=>by
  rw [mU];cases i with
  | zero=>
   have:=h2 c rfl;simp [dK] at this;rw [if_neg (by simp only [cw] at *;omega)]
  | succ i=>
   have:=h1 0 (by omega);rw [List.take_succ_cons,eN] at this;simp [dK] at this;rw [if_pos (by simp only [cw] at *;omega),zr room r (a+cw c) i (by simpa using h)]
   ·intro j hj;have:=h1 (j+1) (by omega);rw [List.take_succ_cons,eN] at this;omega
   ·intro x hx;have:=h2 x (by simpa using hx);rw [List.take_succ_cons,eN] at this;omega
theorem uG (room:Int) : ∀(l:List Cl) (a:Int),a≤room→a+dK (l.take (mU room l a))≤room
 | [],_,h=>by simpa [mU,dK] using h
 | c::r,a,h=>by
  rw [mU];split
  ·rename_i h1;have:=uG room r (a+cw c) h1;rw [List.take_succ_cons,eN];omega
  ·simpa [dK] using h
theorem J8 (l:List Cl):Ik l≤l.length:=by
 unfold Ik;exact (List.takeWhile_sublist _).length_le
theorem oi (l:List Cl) (room:Int):1≤eO l room:=by unfold eO;split<;>omega
theorem sW {l:List Cl} {room:Int} (h:l≠[]):eO l room≤l.length:=by
 unfold eO;split
 ·have:=J8 (l.drop 1);have:=List.length_pos_iff.2 h;simp at *;omega
 ·exact zt _ _ _
def oM (l:List Cl):Nat→Nat
 | 0=>0
 | n+1=>if un l (n+1) then n+1 else oM l n
theorem th (l:List Cl) : ∀n,oM l n≤n
 | 0=>Nat.le_refl _
 | n+1=>by
  rw [oM];split
  ·omega
  ·have:=th l n;omega
def bV (l:List Cl) (room:Int):Nat:=
 if l=[] then 0 else if eO l room=l.length then l.length else if oM l (eO l room)=0 then eO l room else oM l (eO l room)
theorem i5 (l:List Cl) (room:Int):bV l room≤l.length:=by
 unfold bV;split
 ·omega
 ·rename_i h;have:=sW (room:=room) h;have:=th l (eO l room);split
  ·omega
  ·split<;>omega
theorem pW {l:List Cl} (room:Int) (h:l≠[]):bV l room≤eO l room:=by
 unfold bV;rw [if_neg h];have:=th l (eO l room);split
 ·omega
 ·split<;>omega
theorem bW {l:List Cl} (room:Int) (h:l≠[]):1≤bV l room:=by
 unfold bV;rw [if_neg h];have:=oi l room;have:=List.length_pos_iff.2 h;split
 ·omega
 ·split<;>omega
def cQ (l:List Cl) (room:Int):Nat:=
 if (l.take (bV l room)).all dl∧bV l room≠0 then eO l room else bV l room
theorem rU (l:List Cl) (room:Int):cQ l room≤l.length:=by
 unfold cQ;split
 ·rename_i h;refine sW fun e =>?_
  subst e;exact h.2 rfl
 ·exact i5 _ _
theorem jJ {l:List Cl} (room:Int) (h:l≠[]):1≤cQ l room∧cQ l room≤eO l room:=by
 unfold cQ;have:=pW room h;have:=bW room h;have:=oi l room;split<;>omega
def cx (room:Int) (l:List Cl):List Nat:=
 if h:l=[] then [] else bV l room::cx room (l.drop (bV l room))
termination_by l.length
decreasing_by
 have:=bW room h;have:=List.length_pos_iff.2 h;rw [List.length_drop];omega
def qj (l:List Cl) (first rest:Int):List Nat:=cQ l first::cx rest (l.drop (cQ l first))
def eP (l:List Cl) (w:Int):Nat:=if w<lr l+2 then 0 else lr l
def bb (l:List Cl) (w:Int):List Nat:=if w=0 then [l.length] else qj l w (w - eP l w)
def cE:List Cl→List Nat→List (List Cl)
 | _,[]=>[]
 | l,n::r=>l.take n::cE (l.drop n) r
def dD (n:Nat) (l:List Cl):List Cl:=
 match l with
 | []=>[]
 | c::r=>List.replicate n (32,5,1,c.2.2.2)++c::r
def bP (l:List Cl) (w:Int):List (List Cl):=
 match cE l (bb l w) with
 | []=>[]
 | a::r=>a::r.map (dD (eP l w))
theorem wh (room:Int) : ∀(n:Nat) (l:List Cl),l.length≤n→(cE l (cx room l)).flatten=l
 | n,l,hn=>by
  by_cases h:l=[]
  ·subst h;rw [cx,dif_pos rfl];rfl
  ·have h1:=bW room h;have h2:=List.length_pos_iff.2 h;rw [cx,dif_neg h,cE,List.flatten_cons,wh room (n - 1) _ (by rw [List.length_drop];omega),List.take_append_drop]
 termination_by n=>n
 decreasing_by
  have:=List.length_pos_iff.2 h;omega
theorem rY (l:List Cl) (w:Int):(cE l (bb l w)).flatten=l:=by
 unfold bb;split
 ·simp [cE]
 ·rw [qj,cE,List.flatten_cons,wh _ _ _ (Nat.le_refl _),List.take_append_drop]
theorem wg {P:List Cl→Prop} (room:Int) (h : ∀l:List Cl,l≠[]→P (l.take (bV l room))) : ∀(n:Nat) (l:List Cl),l.length≤n → ∀r∈cE l (cx room l),P r
 | n,l,hn=>by
  by_cases h0:l=[]
  ·subst h0;rw [cx,dif_pos rfl];intro r hr;cases hr
  ·have h1:=bW room h0;have h2:=List.length_pos_iff.2 h0;rw [cx,dif_neg h0,cE];intro r hr;rcases List.mem_cons.1 hr with rfl|hr
   ·exact h l h0
   ·exact wg room h (n - 1) _ (by rw [List.length_drop];omega) r hr
 termination_by n=>n
 decreasing_by
  have:=List.length_pos_iff.2 h0;omega
theorem uH {l:List Cl} {room:Int} (hr:2≤room) (h : ∀c∈l,cw c≤2):(dK (l.take (eO l room)):Int)≤room:=by
 unfold eO;split
 ·rename_i h0;cases l with
  | nil=>simp [dK];omega
  | cons c r=>
   have:=h c List.mem_cons_self;rw [mU,if_pos (by omega)] at h0;omega
 ·have:=uG room l 0 (by omega);omega
theorem wm {room:Int} (hr:2≤room) : ∀(n:Nat) (l:List Cl),l.length≤n→(∀c∈l,cw c≤2) → ∀r∈cE l (cx room l),(dK r:Int)≤room∧r≠[]
 | n,l,hn,hc=>by
  by_cases h0:l=[]
  ·subst h0;rw [cx,dif_pos rfl];intro r hr;cases hr
  ·have h1:=bW room h0;have h2:=List.length_pos_iff.2 h0;rw [cx,dif_neg h0,cE];intro r hr';rcases List.mem_cons.1 hr' with rfl|hr'
   ·have:=uH hr hc;have:=iN l (pW room h0);refine ⟨by omega,fun e =>?_⟩;have:=congrArg List.length e;rw [List.length_take,List.length_nil] at this;omega
   ·exact wm hr (n - 1) _ (by rw [List.length_drop];omega) (fun c hc'=>hc c (List.mem_of_mem_drop hc')) r hr'
 termination_by n=>n
 decreasing_by
  have:=List.length_pos_iff.2 h0;omega
theorem GX (room:Int) (l:List Cl) : ∀r∈cE l (cx room l),r≠[]:=
 wg room (fun l h e=>by
  have h1:=bW room h;have h2:=List.length_pos_iff.2 h;have:=congrArg List.length e;rw [List.length_take,List.length_nil] at this;omega) _ l (Nat.le_refl _)
theorem HH (n:Nat) (c:Cl):dK (List.replicate n c)=n*cw c:=by
 induction n with
 | zero=>simp [dK]
 | succ n ih=>rw [List.replicate_succ,eN,ih,Nat.succ_mul];omega
theorem HF (n:Nat) {l:List Cl} (h:l≠[]):dK (dD n l)=n+dK l:=by
 cases l with
 | nil=>exact (h rfl).elim
 | cons c r=>rw [dD,t5,HH,Nat.mul_one]
theorem iV (l:List Cl):lr l≤8:=Nat.min_le_right _ _
theorem Gq (l:List Cl) {w:Int} (h:2≤w):(eP l w:Int)+2≤w:=by
 unfold eP;split<;>omega
theorem Ek {l:List Cl} {w:Int} (hw:2≤w) (hc : ∀c∈l,cw c≤2) : ∀r∈bP l w,(dK r:Int)≤w:=by
 have hh:=Gq l hw;have key:=wm (room:=w - eP l w) (by omega) _ (l.drop (cQ l w)) (Nat.le_refl _) (fun c h=>hc c (List.mem_of_mem_drop h));have e:cE l (bb l w)=l.take (cQ l w)::cE (l.drop (cQ l w)) (cx (w - eP l w) (l.drop (cQ l w))):=by
  rw [bb,if_neg (by omega),qj,cE]
 intro r hr;rw [bP,e] at hr;rcases List.mem_cons.1 hr with rfl|hr
 ·by_cases h0:l=[]
  ·subst h0;simp [dK];omega
  ·have:=uH hw hc;have:=iN l (jJ w h0).2;omega
 ·obtain ⟨r',hr',rfl⟩:=List.mem_map.1 hr;obtain ⟨h1,h2⟩:=key r' hr';rw [HF _ h2];omega
def bq (z w:List (Int × Int)) (tab:Nat):Nat→List (Int × Int × Int)→List Cl
 | _,[]=>[]
 | a,x::t=>gB x (qG z w tab a x.1)++bq z w tab (a+qG z w tab a x.1) t
theorem ur (z w:List (Int × Int)) (tab:Nat) : ∀(l:List (Int × Int × Int)) (a:Nat),fi l (tT z w tab a (l.map (·.1)))=bq z w tab a l
 | [],_=>rfl
 | x::t,a=>by
  rw [List.map_cons,tT,fi,List.zipWith_cons_cons,List.flatten_cons,bq,←ur z w tab t];rfl
theorem EJ {z w:List (Int × Int)} {tab:Nat} (ht:1≤tab∧tab≤16) : ∀(fl:List (Int × Int × Int)) (a:Nat) (i:Nat) (x:Int × Int × Int) (s:Nat),fl[i]? = some x→(tT z w tab a (fl.map (·.1)))[i]? = some s→(if x.1=9 then 1 else s)≤s∧s≤16
 | [],_,i,x,s,h,_=>by simp at h
 | y::t,a,0,x,s,h,hs=>by
  rw [List.map_cons,tT] at hs;simp only [List.getElem?_cons_zero,Option.some.injEq] at h hs;subst h hs;have:=tV (z:=z) (w:=w) (a:=a) (r:=y.1) ht.1 ht.2;refine ⟨?_,this⟩;split
  ·rename_i h9;rw [h9];exact Hk ht.1
  ·exact Nat.le_refl _
 | y::t,a,i+1,x,s,h,hs=>by
  rw [List.map_cons,tT,List.getElem?_cons_succ] at hs;rw [List.getElem?_cons_succ] at h;exact EJ ht t _ i x s h hs
def dP (k st:Int):Int→List Int→List (Int × Int × Int)
 | _,[]=>[]
 | a,r::t=>(r,k,a)::dP k st (a+st) t
def gC:Pz→List (Int × Int × Int)
 | .tx k a rs=>dP k (if k=1 then 1 else 0) a rs
 | .fo a=>[(8230,3,a)]
def aI:List Pz→List (Int × Int × Int)
 | []=>[]
 | z::t=>gC z++aI t
theorem aV : ∀a b:List Pz,aI (a++b)=aI a++aI b
 | [],b=>rfl
 | z::t,b=>by rw [List.cons_append,aI,aI,aV t b,List.append_assoc]
theorem dw (z:Pz):aI [z]=gC z:=by rw [aI,aI,List.append_nil]
theorem gg (k st:Int) (r:Int) : ∀(x:List Int) (a:Int),dP k st a (x++[r])=dP k st a x++[(r,k,a+st*x.length)]
 | [],a=>by simp [dP]
 | y::t,a=>by
  rw [List.cons_append,dP,gg k st r t,dP,List.cons_append];congr 4;rw [List.length_cons,Int.natCast_add,Int.mul_add,Int.add_assoc,Int.add_comm (st*_),Int.natCast_one,Int.mul_one]
theorem rj {k st:Int} : ∀(x:List Int) (a:Int) c,c∈dP k st a x→c.2.1=k∧(st=0→c.2.2=a)
 | [],_,c,h=>by cases h
 | y::t,a,c,h=>by
  rcases List.mem_cons.1 h with rfl|h
  ·exact ⟨rfl,fun _=>rfl⟩
  ·obtain ⟨h1,h2⟩:=rj t _ c h;exact ⟨h1,fun e=>by rw [h2 e,e];omega⟩
theorem fG (k st:Int) : ∀(x:List Int) (a:Int),(dP k st a x).length=x.length
 | [],_=>rfl
 | y::t,a=>by rw [dP,List.length_cons,List.length_cons,fG k st t]
theorem A7 (l:List Pz) (i:Nat):(aI (l.take i)).length+(aI (l.drop i)).length=(aI l).length:=by
 rw [←List.length_append,←aV,List.take_append_drop]
def e8 (fr:Int) (r:List Cl):Int:=match r.find? (fun c=>c.2.1 != 5) with
 | some c=>c.2.2.2
 | none=>fr
def KV (r:List Cl):Bool:=r.any fun c=>c.2.1==3
end Go.Proofs.YtkkanlcjjpoklaaGreatDoor
