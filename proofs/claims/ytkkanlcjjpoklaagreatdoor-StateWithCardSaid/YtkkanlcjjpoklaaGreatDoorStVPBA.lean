/- What the theorem leans on, part 27. -/
import Derived.Test.YtkkanlcjjpoklaaGreatDoorStVPAG
import Derived.Test.YtkkanlcjjpoklaaGreatDoorStVPAJ
set_option linter.unusedSimpArgs false
set_option linter.unusedVariables false
namespace Go.Proofs.YtkkanlcjjpoklaaGreatDoor
abbrev Cl:=Int × Int × Nat × Int
def H8 (l:List (Int × Int)) (r:Int):Bool:=l.any fun x=>decide (x.1≤r∧r≤x.2)
def P2 (z w:List (Int × Int)) (r:Int):Nat:=if H8 z r then 0 else if H8 w r then 2 else 1
theorem Fs (z w:List (Int × Int)) (r:Int):P2 z w r≤2:=by unfold P2;split;omega;split<;>omega
def og (z w:List (Int × Int)) (tab:Nat) (at':Nat) (r:Int):Nat:=if r=9 then (if 64≤at' then 1 else tab - at' % tab) else P2 z w r
def qC (z w:List (Int × Int)) (tab:Nat):Nat→List Int→List Nat
 | _,[]=>[]
 | a,r::t=>og z w tab a r::qC z w tab (a+og z w tab a r) t
theorem lC (z w:List (Int × Int)) (tab:Nat) : ∀(l:List Int) (a:Nat),(qC z w tab a l).length=l.length
 | [],_=>rfl
 | r::t,a=>by rw [qC,aa6,aa6,lC z w tab t]
theorem PK {z w:List (Int × Int)} {tab a:Nat} (ht:1≤tab):1≤og z w tab a 9:=by
 rw [og,aa3 rfl];split
 ·omega
 ·have:=adm a ht;omega
theorem uy {z w:List (Int × Int)} {tab a:Nat} {r:Int} (ht:1≤tab) (h:tab≤16):og z w tab a r≤16:=by
 rw [og];split
 ·split<;>omega
 ·have:=Fs z w r;omega
def m9 (z w:List (Int × Int)) (tab:Nat):Nat→List Int→Nat
 | a,[]=>a
 | a,r::t=>m9 z w tab (a+og z w tab a r) t
theorem oC (z w:List (Int × Int)) (tab:Nat) (r:Int) : ∀(l:List Int) (a:Nat),m9 z w tab a (l++[r])=m9 z w tab a l+og z w tab (m9 z w tab a l) r
 | [],_=>rfl
 | x::t,a=>by rw [abG,m9,oC z w tab r t,m9]
theorem uu (z w:List (Int × Int)) (tab:Nat) (r:Int) : ∀(l:List Int) (a:Nat),qC z w tab a (l++[r])=qC z w tab a l++[og z w tab (m9 z w tab a l) r]
 | [],_=>rfl
 | x::t,a=>by rw [abG,qC,uu z w tab r t,qC,m9];rfl
theorem yG {z w:List (Int × Int)} {tab:Nat} (ht:1≤tab) (h:tab≤16) : ∀(l:List Int) (a:Nat),m9 z w tab a l≤a+16*l.length
 | [],_=>aaV _
 | x::t,a=>by
  have h1:=yG (z:=z) (w:=w) ht h t (a+og z w tab a x);have h2:=uy (z:=z) (w:=w) (a:=a) (r:=x) ht h;rw [m9,aa6];omega
def fO (x:Int × Int × Int) (s:Nat):List Cl:=(x.1,x.2.1,(if x.1=9 then 1 else s),x.2.2)::List.replicate (s - (if x.1=9 then 1 else s)) (32,4,1,x.2.2)
def dK (l:List (Int × Int × Int)) (ss:List Nat):List Cl:=(List.zipWith fO l ss).flatten
theorem pK (x:Int × Int × Int) (s:Nat) (l:List (Int × Int × Int)) (ss:List Nat) (h:l.length=ss.length):dK (l++[x]) (ss++[s])=dK l ss++fO x s:=by
 rw [dK,List.zipWith_append h,acQ];simp [dK]
abbrev cw (c:Cl):Nat:=c.2.2.1
def dH (l:List Cl):Nat:=(l.map cw).sum
theorem P5:dH []=0:=rfl
theorem gS (c:Cl) (l:List Cl):dH (c::l)=cw c+dH l:=by simp [dH]
theorem Au (a b:List Cl):dH (a++b)=dH a+dH b:=by simp [dH]
theorem kR (l:List Cl) {i:Nat} {c:Cl} (h:l[i]? = some c):dH (l.take (i+1))=dH (l.take i)+cw c:=by
 rw [ac7,h,Option.toList_some,Au,gS,P5];omega
theorem jd (l:List Cl) {i j:Nat} (h:i≤j):dH (l.take i)≤dH (l.take j):=by
 have e:l.take j=l.take i++(l.take j).drop i:=by
  have:=(abf i (l.take j)).symm;rwa [aed,acw h] at this
 rw [e,Au];omega
theorem iB {l:List Cl} (h : ∀c∈l,cw c≤2):dH l≤2*l.length:=by
 induction l with
 | nil=>exact aa1 _
 | cons c r ih=>
  have:=ih (fun x hx=>h x (abd _ hx));have:=h c abj;rw [gS,aa6];omega
def bU (c:Cl):Bool:=c.1==32||c.1==9
def ju (l:List Cl):Nat:=min (dH (l.takeWhile bU)) 8
def oq (l:List Cl) (i:Nat):Bool:=
 decide (0<i)&&(match l[i - 1]?,l[i]? with|some a,some b=>bU a && !bU b&&decide (0<cw b)|_,_=>false)
def oE (room:Int):List Cl→Int→Nat
 | [],_=>0
 | c::r,a=>if a+cw c≤room then oE room r (a+cw c)+1 else 0
def JB (l:List Cl):Nat:=(l.takeWhile fun c=>cw c==0).length
def eE (l:List Cl) (room:Int):Nat:=if oE room l 0=0 then 1+JB (l.drop 1) else oE room l 0
theorem F5 (room:Int) : ∀(l:List Cl) (a:Int),oE room l a≤l.length
 | [],_=>aaV _
 | c::r,a=>by
  rw [oE];split
  ·have:=F5 room r (a+cw c);rw [aa6];omega
  ·omega
theorem yM (room:Int) : ∀(l:List Cl) (a:Int) (i:Nat),i≤l.length→(∀j,j<i→a+dH (l.take (j+1))≤room)→(∀c,l[i]? = some c→room<a+dH (l.take i)+cw c)→oE room l a=i
 | [],_,i,h,_,_=>by simp at h;subst h;rfl
 | c::r,a,i,h,h1,h2=>by
  rw [oE];cases i with
  | zero=>
   have:=h2 c rfl;simp [dH] at this;rw [aaY (by simp only [cw] at *;omega)]
  | succ i=>
   have:=h1 0 (by omega);rw [abn,gS] at this;simp [dH] at this;rw [aa3 (by simp only [cw] at *;omega),yM room r (a+cw c) i (by simpa using h)]
   ·intro j hj;have:=h1 (j+1) (by omega);rw [abn,gS] at this;omega
   ·intro x hx;have:=h2 x (by simpa using hx);rw [abn,gS] at this;omega
theorem Bg (room:Int) : ∀(l:List Cl) (a:Int),a≤room→a+dH (l.take (oE room l a))≤room
 | [],_,h=>by simpa [oE,dH] using h
 | c::r,a,h=>by
  rw [oE];split
  ·rename_i h1;have:=Bg room r (a+cw c) h1;rw [abn,gS];omega
  ·simpa [dH] using h
theorem Ta (l:List Cl):JB l≤l.length:=by
 unfold JB;exact (List.takeWhile_sublist _).length_le
theorem ng (l:List Cl) (room:Int):1≤eE l room:=by unfold eE;split<;>omega
theorem qJ {l:List Cl} {room:Int} (h:l≠[]):eE l room≤l.length:=by
 unfold eE;split
 ·have:=Ta (l.drop 1);have:=aby.2 h;simp at *;omega
 ·exact F5 _ _ _
def mn (l:List Cl):Nat→Nat
 | 0=>0
 | n+1=>if oq l (n+1) then n+1 else mn l n
theorem qO (l:List Cl) : ∀n,mn l n≤n
 | 0=>aaV _
 | n+1=>by
  rw [mn];split
  ·omega
  ·have:=qO l n;omega
def bR (l:List Cl) (room:Int):Nat:=
 if l=[] then 0 else if eE l room=l.length then l.length else if mn l (eE l room)=0 then eE l room else mn l (eE l room)
theorem gr (l:List Cl) (room:Int):bR l room≤l.length:=by
 unfold bR;split
 ·omega
 ·rename_i h;have:=qJ (room:=room) h;have:=qO l (eE l room);split
  ·omega
  ·split<;>omega
theorem ux {l:List Cl} (room:Int) (h:l≠[]):bR l room≤eE l room:=by
 unfold bR;rw [aaY h];have:=qO l (eE l room);split
 ·omega
 ·split<;>omega
theorem cD {l:List Cl} (room:Int) (h:l≠[]):1≤bR l room:=by
 unfold bR;rw [aaY h];have:=ng l room;have:=aby.2 h;split
 ·omega
 ·split<;>omega
def cO (l:List Cl) (room:Int):Nat:=
 if (l.take (bR l room)).all bU∧bR l room≠0 then eE l room else bR l room
theorem pj (l:List Cl) (room:Int):cO l room≤l.length:=by
 unfold cO;split
 ·rename_i h;refine qJ fun e =>?_
  subst e;exact h.2 rfl
 ·exact gr _ _
theorem mH {l:List Cl} (room:Int) (h:l≠[]):1≤cO l room∧cO l room≤eE l room:=by
 unfold cO;have:=ux room h;have:=cD room h;have:=ng l room;split<;>omega
def db (room:Int) (l:List Cl):List Nat:=
 if h:l=[] then [] else bR l room::db room (l.drop (bR l room))
termination_by l.length
decreasing_by
 have:=cD room h;have:=aby.2 h;rw [abg];omega
def qm (l:List Cl) (first rest:Int):List Nat:=cO l first::db rest (l.drop (cO l first))
def dS (l:List Cl) (w:Int):Nat:=if w<ju l+2 then 0 else ju l
def bz (l:List Cl) (w:Int):List Nat:=if w=0 then [l.length] else qm l w (w - dS l w)
def dB:List Cl→List Nat→List (List Cl)
 | _,[]=>[]
 | l,n::r=>l.take n::dB (l.drop n) r
def eQ (n:Nat) (l:List Cl):List Cl:=
 match l with
 | []=>[]
 | c::r=>List.replicate n (32,5,1,c.2.2.2)++c::r
def cf (l:List Cl) (w:Int):List (List Cl):=
 match dB l (bz l w) with
 | []=>[]
 | a::r=>a::r.map (eQ (dS l w))
theorem Ct (room:Int) : ∀(n:Nat) (l:List Cl),l.length≤n→(dB l (db room l)).flatten=l
 | n,l,hn=>by
  by_cases h:l=[]
  ·subst h;rw [db,acB rfl];rfl
  ·have h1:=cD room h;have h2:=aby.2 h;rw [db,acX h,dB,acf,Ct room (n - 1) _ (by rw [abg];omega),abf]
 termination_by n=>n
 decreasing_by
  have:=aby.2 h;omega
theorem xN (l:List Cl) (w:Int):(dB l (bz l w)).flatten=l:=by
 unfold bz;split
 ·simp [dB]
 ·rw [qm,dB,acf,Ct _ _ _ (aaV _),abf]
theorem Cr {P:List Cl→Prop} (room:Int) (h : ∀l:List Cl,l≠[]→P (l.take (bR l room))) : ∀(n:Nat) (l:List Cl),l.length≤n → ∀r∈dB l (db room l),P r
 | n,l,hn=>by
  by_cases h0:l=[]
  ·subst h0;rw [db,acB rfl];intro r hr;cases hr
  ·have h1:=cD room h0;have h2:=aby.2 h0;rw [db,acX h0,dB];intro r hr;rcases abi.1 hr with rfl|hr
   ·exact h l h0
   ·exact Cr room h (n - 1) _ (by rw [abg];omega) r hr
 termination_by n=>n
 decreasing_by
  have:=aby.2 h0;omega
theorem Bh {l:List Cl} {room:Int} (hr:2≤room) (h : ∀c∈l,cw c≤2):(dH (l.take (eE l room)):Int)≤room:=by
 unfold eE;split
 ·rename_i h0;cases l with
  | nil=>simp [dH];omega
  | cons c r=>
   have:=h c abj;rw [oE,aa3 (by omega)] at h0;omega
 ·have:=Bg room l 0 (by omega);omega
theorem Cu {room:Int} (hr:2≤room) : ∀(n:Nat) (l:List Cl),l.length≤n→(∀c∈l,cw c≤2) → ∀r∈dB l (db room l),(dH r:Int)≤room∧r≠[]
 | n,l,hn,hc=>by
  by_cases h0:l=[]
  ·subst h0;rw [db,acB rfl];intro r hr;cases hr
  ·have h1:=cD room h0;have h2:=aby.2 h0;rw [db,acX h0,dB];intro r hr';rcases abi.1 hr' with rfl|hr'
   ·have:=Bh hr hc;have:=jd l (ux room h0);refine ⟨by omega,fun e =>?_⟩;have:=congrArg List.length e;rw [aa7,abt] at this;omega
   ·exact Cu hr (n - 1) _ (by rw [abg];omega) (fun c hc'=>hc c (abU hc')) r hr'
 termination_by n=>n
 decreasing_by
  have:=aby.2 h0;omega
theorem Ph (room:Int) (l:List Cl) : ∀r∈dB l (db room l),r≠[]:=
 Cr room (fun l h e=>by
  have h1:=cD room h;have h2:=aby.2 h;have:=congrArg List.length e;rw [aa7,abt] at this;omega) _ l (aaV _)
theorem P6 (n:Nat) (c:Cl):dH (List.replicate n c)=n*cw c:=by
 induction n with
 | zero=>simp [dH]
 | succ n ih=>rw [acW,gS,ih,ad6];omega
theorem P4 (n:Nat) {l:List Cl} (h:l≠[]):dH (eQ n l)=n+dH l:=by
 cases l with
 | nil=>exact (h rfl).elim
 | cons c r=>rw [eQ,Au,P6,Nat.mul_one]
theorem ff (l:List Cl):ju l≤8:=Nat.min_le_right _ _
theorem OD (l:List Cl) {w:Int} (h:2≤w):(dS l w:Int)+2≤w:=by
 unfold dS;split<;>omega
theorem Mi {l:List Cl} {w:Int} (hw:2≤w) (hc : ∀c∈l,cw c≤2) : ∀r∈cf l w,(dH r:Int)≤w:=by
 have hh:=OD l hw;have key:=Cu (room:=w - dS l w) (by omega) _ (l.drop (cO l w)) (aaV _) (fun c h=>hc c (abU h));have e:dB l (bz l w)=l.take (cO l w)::dB (l.drop (cO l w)) (db (w - dS l w) (l.drop (cO l w))):=by
  rw [bz,aaY (by omega),qm,dB]
 intro r hr;rw [cf,e] at hr;rcases abi.1 hr with rfl|hr
 ·by_cases h0:l=[]
  ·subst h0;simp [dH];omega
  ·have:=Bh hw hc;have:=jd l (mH w h0).2;omega
 ·obtain ⟨r',hr',rfl⟩:=abY.1 hr;obtain ⟨h1,h2⟩:=key r' hr';rw [P4 _ h2];omega
def b7 (z w:List (Int × Int)) (tab:Nat):Nat→List (Int × Int × Int)→List Cl
 | _,[]=>[]
 | a,x::t=>fO x (og z w tab a x.1)++b7 z w tab (a+og z w tab a x.1) t
theorem rJ (z w:List (Int × Int)) (tab:Nat) : ∀(l:List (Int × Int × Int)) (a:Nat),dK l (qC z w tab a (l.map (·.1)))=b7 z w tab a l
 | [],_=>rfl
 | x::t,a=>by
  rw [abh,qC,dK,List.zipWith_cons_cons,acf,b7,←rJ z w tab t];rfl
theorem Ff {z w:List (Int × Int)} {tab:Nat} (ht:1≤tab∧tab≤16) : ∀(fl:List (Int × Int × Int)) (a:Nat) (i:Nat) (x:Int × Int × Int) (s:Nat),fl[i]? = some x→(qC z w tab a (fl.map (·.1)))[i]? = some s→(if x.1=9 then 1 else s)≤s∧s≤16
 | [],_,i,x,s,h,_=>by simp at h
 | y::t,a,0,x,s,h,hs=>by
  rw [abh,qC] at hs;simp only [abq,aa5] at h hs;subst h hs;have:=uy (z:=z) (w:=w) (a:=a) (r:=y.1) ht.1 ht.2;refine ⟨?_,this⟩;split
  ·rename_i h9;rw [h9];exact PK ht.1
  ·exact aaV _
 | y::t,a,i+1,x,s,h,hs=>by
  rw [abh,qC,abB] at hs;rw [abB] at h;exact Ff ht t _ i x s h hs
def dR (k st:Int):Int→List Int→List (Int × Int × Int)
 | _,[]=>[]
 | a,r::t=>(r,k,a)::dR k st (a+st) t
def dp:Pz→List (Int × Int × Int)
 | .tx k a rs=>dR k (if k=1 then 1 else 0) a rs
 | .fo a=>[(8230,3,a)]
def aI:List Pz→List (Int × Int × Int)
 | []=>[]
 | z::t=>dp z++aI t
theorem bc : ∀a b:List Pz,aI (a++b)=aI a++aI b
 | [],b=>rfl
 | z::t,b=>by rw [abG,aI,aI,bc t b,aba]
theorem eg (z:Pz):aI [z]=dp z:=by rw [aI,aI,abb]
theorem jr (k st:Int) (r:Int) : ∀(x:List Int) (a:Int),dR k st a (x++[r])=dR k st a x++[(r,k,a+st*x.length)]
 | [],a=>by simp [dR]
 | y::t,a=>by
  rw [abG,dR,jr k st r t,dR,abG];congr 4;rw [aa6,adE,Int.mul_add,Int.add_assoc,Int.add_comm (st*_),Int.natCast_one,Int.mul_one]
theorem wW {k st:Int} : ∀(x:List Int) (a:Int) c,c∈dR k st a x→c.2.1=k∧(st=0→c.2.2=a)
 | [],_,c,h=>by cases h
 | y::t,a,c,h=>by
  rcases abi.1 h with rfl|h
  ·exact ⟨rfl,fun _=>rfl⟩
  ·obtain ⟨h1,h2⟩:=wW t _ c h;exact ⟨h1,fun e=>by rw [h2 e,e];omega⟩
theorem iW (k st:Int) : ∀(x:List Int) (a:Int),(dR k st a x).length=x.length
 | [],_=>rfl
 | y::t,a=>by rw [dR,aa6,aa6,iW k st t]
theorem wS (l:List Pz) (i:Nat):(aI (l.take i)).length+(aI (l.drop i)).length=(aI l).length:=by
 rw [←Or,←bc,abf]
def dk (fr:Int) (r:List Cl):Int:=match r.find? (fun c=>c.2.1 != 5) with
 | some c=>c.2.2.2
 | none=>fr
def wX (r:List Cl):Bool:=r.any fun c=>c.2.1==3
end Go.Proofs.YtkkanlcjjpoklaaGreatDoor
