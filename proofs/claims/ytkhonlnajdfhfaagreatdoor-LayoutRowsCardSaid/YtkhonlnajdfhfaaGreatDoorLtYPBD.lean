/- What the theorem leans on, part 30. -/
import Derived.Test.YtkhonlnajdfhfaaGreatDoorLtYPAJ
import Derived.Test.YtkhonlnajdfhfaaGreatDoorLtYPAR
set_option linter.unusedSimpArgs false
set_option linter.unusedVariables false
namespace Go.Proofs.YtkhonlnajdfhfaaGreatDoor
abbrev Cl:=Int × Int × Nat × Int
def inR (l:List (Int × Int)) (r:Int):Bool:=l.any fun x=>decide (x.1≤r∧r≤x.2)
def wOf (z w:List (Int × Int)) (r:Int):Nat:=if inR z r then 0 else if inR w r then 2 else 1
theorem wOf_le (z w:List (Int × Int)) (r:Int):wOf z w r≤2:=by unfold wOf;split;omega;split<;>omega
def tbT (z w:List (Int × Int)) (tab:Nat) (at':Nat) (r:Int):Nat:=if r=9 then (if 64≤at' then 1 else tab - at' % tab) else wOf z w r
def szs (z w:List (Int × Int)) (tab:Nat):Nat→List Int→List Nat
 | _,[]=>[]
 | a,r::t=>tbT z w tab a r::szs z w tab (a+tbT z w tab a r) t
theorem szs_len (z w:List (Int × Int)) (tab:Nat) : ∀(l:List Int) (a:Nat),(szs z w tab a l).length=l.length
 | [],_=>rfl
 | r::t,a=>by rw [szs,List.length_cons,List.length_cons,szs_len z w tab t]
theorem tbT_pos {z w:List (Int × Int)} {tab a:Nat} (ht:1≤tab):1≤tbT z w tab a 9:=by
 rw [tbT,if_pos rfl];split
 ·omega
 ·have:=Nat.mod_lt a ht;omega
theorem tbT_le {z w:List (Int × Int)} {tab a:Nat} {r:Int} (ht:1≤tab) (h:tab≤16):tbT z w tab a r≤16:=by
 rw [tbT];split
 ·split<;>omega
 ·have:=wOf_le z w r;omega
def endA (z w:List (Int × Int)) (tab:Nat):Nat→List Int→Nat
 | a,[]=>a
 | a,r::t=>endA z w tab (a+tbT z w tab a r) t
theorem endA_snoc (z w:List (Int × Int)) (tab:Nat) (r:Int) : ∀(l:List Int) (a:Nat),endA z w tab a (l++[r])=endA z w tab a l+tbT z w tab (endA z w tab a l) r
 | [],_=>rfl
 | x::t,a=>by rw [List.cons_append,endA,endA_snoc z w tab r t,endA]
theorem szs_snoc (z w:List (Int × Int)) (tab:Nat) (r:Int) : ∀(l:List Int) (a:Nat),szs z w tab a (l++[r])=szs z w tab a l++[tbT z w tab (endA z w tab a l) r]
 | [],_=>rfl
 | x::t,a=>by rw [List.cons_append,szs,szs_snoc z w tab r t,szs,endA];rfl
theorem endA_le {z w:List (Int × Int)} {tab:Nat} (ht:1≤tab) (h:tab≤16) : ∀(l:List Int) (a:Nat),endA z w tab a l≤a+16*l.length
 | [],_=>Nat.le_refl _
 | x::t,a=>by
  have h1:=endA_le (z:=z) (w:=w) ht h t (a+tbT z w tab a x)
  have h2:=tbT_le (z:=z) (w:=w) (a:=a) (r:=x) ht h
  rw [endA,List.length_cons];omega
def cell1 (x:Int × Int × Int) (s:Nat):List Cl:=(x.1,x.2.1,(if x.1=9 then 1 else s),x.2.2)::List.replicate (s - (if x.1=9 then 1 else s)) (32,4,1,x.2.2)
def cells1 (l:List (Int × Int × Int)) (ss:List Nat):List Cl:=(List.zipWith cell1 l ss).flatten
theorem cells1_snoc (x:Int × Int × Int) (s:Nat) (l:List (Int × Int × Int)) (ss:List Nat) (h:l.length=ss.length):cells1 (l++[x]) (ss++[s])=cells1 l ss++cell1 x s:=by
 rw [cells1,List.zipWith_append h,List.flatten_append];simp [cells1]
abbrev cw (c:Cl):Nat:=c.2.2.1
def wid (l:List Cl):Nat:=(l.map cw).sum
theorem wid_nil:wid []=0:=rfl
theorem wid_cons (c:Cl) (l:List Cl):wid (c::l)=cw c+wid l:=by simp [wid]
theorem wid_app (a b:List Cl):wid (a++b)=wid a+wid b:=by simp [wid]
theorem wid_take (l:List Cl) {i:Nat} {c:Cl} (h:l[i]? = some c):wid (l.take (i+1))=wid (l.take i)+cw c:=by
 rw [List.take_add_one,h,Option.toList_some,wid_app,wid_cons,wid_nil];omega
theorem wid_mono (l:List Cl) {i j:Nat} (h:i≤j):wid (l.take i)≤wid (l.take j):=by
 have e:l.take j=l.take i++(l.take j).drop i:=by
  have:=(List.take_append_drop i (l.take j)).symm
  rwa [List.take_take,Nat.min_eq_left h] at this
 rw [e,wid_app];omega
theorem wid_le {l:List Cl} (h : ∀c∈l,cw c≤2):wid l≤2*l.length:=by
 induction l with
 | nil=>exact Nat.zero_le _
 | cons c r ih=>
  have:=ih (fun x hx=>h x (List.mem_cons_of_mem _ hx))
  have:=h c List.mem_cons_self
  rw [wid_cons,List.length_cons];omega
def blank (c:Cl):Bool:=c.1==32||c.1==9
def indent (l:List Cl):Nat:=min (wid (l.takeWhile blank)) 8
def bndy (l:List Cl) (i:Nat):Bool:=
 decide (0<i)&&(match l[i - 1]?,l[i]? with|some a,some b=>blank a && !blank b&&decide (0<cw b)|_,_=>false)
def fitG (room:Int):List Cl→Int→Nat
 | [],_=>0
 | c::r,a=>if a+cw c≤room then fitG room r (a+cw c)+1 else 0
def zer (l:List Cl):Nat:=(l.takeWhile fun c=>cw c==0).length
def fitN (l:List Cl) (room:Int):Nat:=if fitG room l 0=0 then 1+zer (l.drop 1) else fitG room l 0
theorem fitG_le (room:Int) : ∀(l:List Cl) (a:Int),fitG room l a≤l.length
 | [],_=>Nat.le_refl _
 | c::r,a=>by
  rw [fitG];split
  ·have:=fitG_le room r (a+cw c);rw [List.length_cons];omega
  ·omega
theorem fitG_at (room:Int) : ∀(l:List Cl) (a:Int) (i:Nat),i≤l.length→(∀j,j<i→a+wid (l.take (j+1))≤room)→(∀c,l[i]? = some c→room<a+wid (l.take i)+cw c)→fitG room l a=i
 | [],_,i,h,_,_=>by simp at h;subst h;rfl
 | c::r,a,i,h,h1,h2=>by
  rw [fitG]
  cases i with
  | zero=>
   have:=h2 c rfl
   simp [wid] at this
   rw [if_neg (by simp only [cw] at *;omega)]
  | succ i=>
   have:=h1 0 (by omega)
   rw [List.take_succ_cons,wid_cons] at this
   simp [wid] at this
   rw [if_pos (by simp only [cw] at *;omega),fitG_at room r (a+cw c) i (by simpa using h)]
   ·intro j hj
    have:=h1 (j+1) (by omega)
    rw [List.take_succ_cons,wid_cons] at this
    omega
   ·intro x hx
    have:=h2 x (by simpa using hx)
    rw [List.take_succ_cons,wid_cons] at this
    omega
theorem fitG_wid (room:Int) : ∀(l:List Cl) (a:Int),a≤room→a+wid (l.take (fitG room l a))≤room
 | [],_,h=>by simpa [fitG,wid] using h
 | c::r,a,h=>by
  rw [fitG];split
  ·rename_i h1
   have:=fitG_wid room r (a+cw c) h1
   rw [List.take_succ_cons,wid_cons];omega
  ·simpa [wid] using h
theorem zer_le (l:List Cl):zer l≤l.length:=by
 unfold zer;exact (List.takeWhile_sublist _).length_le
theorem fitN_pos (l:List Cl) (room:Int):1≤fitN l room:=by unfold fitN;split<;>omega
theorem fitN_le {l:List Cl} {room:Int} (h:l≠[]):fitN l room≤l.length:=by
 unfold fitN;split
 ·have:=zer_le (l.drop 1)
  have:=List.length_pos_iff.2 h
  simp at *;omega
 ·exact fitG_le _ _ _
def lstB (l:List Cl):Nat→Nat
 | 0=>0
 | n+1=>if bndy l (n+1) then n+1 else lstB l n
theorem lstB_le (l:List Cl) : ∀n,lstB l n≤n
 | 0=>Nat.le_refl _
 | n+1=>by
  rw [lstB]
  split
  ·omega
  ·have:=lstB_le l n;omega
def takesN (l:List Cl) (room:Int):Nat:=
 if l=[] then 0 else if fitN l room=l.length then l.length else if lstB l (fitN l room)=0 then fitN l room else lstB l (fitN l room)
theorem takesN_le (l:List Cl) (room:Int):takesN l room≤l.length:=by
 unfold takesN
 split
 ·omega
 ·rename_i h
  have:=fitN_le (room:=room) h
  have:=lstB_le l (fitN l room)
  split
  ·omega
  ·split<;>omega
theorem takesN_fit {l:List Cl} (room:Int) (h:l≠[]):takesN l room≤fitN l room:=by
 unfold takesN
 rw [if_neg h]
 have:=lstB_le l (fitN l room)
 split
 ·omega
 ·split<;>omega
theorem takesN_pos {l:List Cl} (room:Int) (h:l≠[]):1≤takesN l room:=by
 unfold takesN
 rw [if_neg h]
 have:=fitN_pos l room
 have:=List.length_pos_iff.2 h
 split
 ·omega
 ·split<;>omega
def startN (l:List Cl) (room:Int):Nat:=
 if (l.take (takesN l room)).all blank∧takesN l room≠0 then fitN l room else takesN l room
theorem startN_le (l:List Cl) (room:Int):startN l room≤l.length:=by
 unfold startN
 split
 ·rename_i h
  refine fitN_le fun e =>?_
  subst e
  exact h.2 rfl
 ·exact takesN_le _ _
theorem startN_fit {l:List Cl} (room:Int) (h:l≠[]):1≤startN l room∧startN l room≤fitN l room:=by
 unfold startN
 have:=takesN_fit room h
 have:=takesN_pos room h
 have:=fitN_pos l room
 split<;>omega
def restN (room:Int) (l:List Cl):List Nat:=
 if h:l=[] then [] else takesN l room::restN room (l.drop (takesN l room))
termination_by l.length
decreasing_by
 have:=takesN_pos room h
 have:=List.length_pos_iff.2 h
 rw [List.length_drop];omega
def allN (l:List Cl) (first rest:Int):List Nat:=startN l first::restN rest (l.drop (startN l first))
def hang (l:List Cl) (w:Int):Nat:=if w<indent l+2 then 0 else indent l
def takesL (l:List Cl) (w:Int):List Nat:=if w=0 then [l.length] else allN l w (w - hang l w)
def cutN:List Cl→List Nat→List (List Cl)
 | _,[]=>[]
 | l,n::r=>l.take n::cutN (l.drop n) r
def behN (n:Nat) (l:List Cl):List Cl:=
 match l with
 | []=>[]
 | c::r=>List.replicate n (32,5,1,c.2.2.2)++c::r
def rowsN (l:List Cl) (w:Int):List (List Cl):=
 match cutN l (takesL l w) with
 | []=>[]
 | a::r=>a::r.map (behN (hang l w))
theorem rest_cut (room:Int) : ∀(n:Nat) (l:List Cl),l.length≤n→(cutN l (restN room l)).flatten=l
 | n,l,hn=>by
  by_cases h:l=[]
  ·subst h;rw [restN,dif_pos rfl];rfl
  ·have h1:=takesN_pos room h
   have h2:=List.length_pos_iff.2 h
   rw [restN,dif_neg h,cutN,List.flatten_cons,rest_cut room (n - 1) _ (by rw [List.length_drop];omega),List.take_append_drop]
 termination_by n=>n
 decreasing_by
  have:=List.length_pos_iff.2 h
  omega
theorem takes_cut (l:List Cl) (w:Int):(cutN l (takesL l w)).flatten=l:=by
 unfold takesL;split
 ·simp [cutN]
 ·rw [allN,cutN,List.flatten_cons,rest_cut _ _ _ (Nat.le_refl _),List.take_append_drop]
theorem rest_all {P:List Cl→Prop} (room:Int) (h : ∀l:List Cl,l≠[]→P (l.take (takesN l room))) : ∀(n:Nat) (l:List Cl),l.length≤n → ∀r∈cutN l (restN room l),P r
 | n,l,hn=>by
  by_cases h0:l=[]
  ·subst h0;rw [restN,dif_pos rfl];intro r hr;cases hr
  ·have h1:=takesN_pos room h0
   have h2:=List.length_pos_iff.2 h0
   rw [restN,dif_neg h0,cutN]
   intro r hr
   rcases List.mem_cons.1 hr with rfl|hr
   ·exact h l h0
   ·exact rest_all room h (n - 1) _ (by rw [List.length_drop];omega) r hr
 termination_by n=>n
 decreasing_by
  have:=List.length_pos_iff.2 h0
  omega
theorem fitN_wid {l:List Cl} {room:Int} (hr:2≤room) (h : ∀c∈l,cw c≤2):(wid (l.take (fitN l room)):Int)≤room:=by
 unfold fitN
 split
 ·rename_i h0
  cases l with
  | nil=>simp [wid];omega
  | cons c r=>
   have:=h c List.mem_cons_self
   rw [fitG,if_pos (by omega)] at h0
   omega
 ·have:=fitG_wid room l 0 (by omega)
  omega
theorem rest_wid {room:Int} (hr:2≤room) : ∀(n:Nat) (l:List Cl),l.length≤n→(∀c∈l,cw c≤2) → ∀r∈cutN l (restN room l),(wid r:Int)≤room∧r≠[]
 | n,l,hn,hc=>by
  by_cases h0:l=[]
  ·subst h0;rw [restN,dif_pos rfl];intro r hr;cases hr
  ·have h1:=takesN_pos room h0
   have h2:=List.length_pos_iff.2 h0
   rw [restN,dif_neg h0,cutN]
   intro r hr'
   rcases List.mem_cons.1 hr' with rfl|hr'
   ·have:=fitN_wid hr hc
    have:=wid_mono l (takesN_fit room h0)
    refine ⟨by omega,fun e =>?_⟩
    have:=congrArg List.length e
    rw [List.length_take,List.length_nil] at this
    omega
   ·exact rest_wid hr (n - 1) _ (by rw [List.length_drop];omega) (fun c hc'=>hc c (List.mem_of_mem_drop hc')) r hr'
 termination_by n=>n
 decreasing_by
  have:=List.length_pos_iff.2 h0
  omega
theorem rest_ne (room:Int) (l:List Cl) : ∀r∈cutN l (restN room l),r≠[]:=
 rest_all room (fun l h e=>by
  have h1:=takesN_pos room h
  have h2:=List.length_pos_iff.2 h
  have:=congrArg List.length e
  rw [List.length_take,List.length_nil] at this
  omega) _ l (Nat.le_refl _)
theorem wid_rep (n:Nat) (c:Cl):wid (List.replicate n c)=n*cw c:=by
 induction n with
 | zero=>simp [wid]
 | succ n ih=>rw [List.replicate_succ,wid_cons,ih,Nat.succ_mul];omega
theorem wid_beh (n:Nat) {l:List Cl} (h:l≠[]):wid (behN n l)=n+wid l:=by
 cases l with
 | nil=>exact (h rfl).elim
 | cons c r=>rw [behN,wid_app,wid_rep,Nat.mul_one]
theorem indent_le (l:List Cl):indent l≤8:=Nat.min_le_right _ _
theorem hang_le (l:List Cl) {w:Int} (h:2≤w):(hang l w:Int)+2≤w:=by
 unfold hang;split<;>omega
theorem rows_wid {l:List Cl} {w:Int} (hw:2≤w) (hc : ∀c∈l,cw c≤2) : ∀r∈rowsN l w,(wid r:Int)≤w:=by
 have hh:=hang_le l hw
 have key:=rest_wid (room:=w - hang l w) (by omega) _ (l.drop (startN l w)) (Nat.le_refl _) (fun c h=>hc c (List.mem_of_mem_drop h))
 have e:cutN l (takesL l w)=l.take (startN l w)::cutN (l.drop (startN l w)) (restN (w - hang l w) (l.drop (startN l w))):=by
  rw [takesL,if_neg (by omega),allN,cutN]
 intro r hr
 rw [rowsN,e] at hr
 rcases List.mem_cons.1 hr with rfl|hr
 ·by_cases h0:l=[]
  ·subst h0;simp [wid];omega
  ·have:=fitN_wid hw hc
   have:=wid_mono l (startN_fit w h0).2
   omega
 ·obtain ⟨r',hr',rfl⟩:=List.mem_map.1 hr
  obtain ⟨h1,h2⟩:=key r' hr'
  rw [wid_beh _ h2];omega
def cellsR (z w:List (Int × Int)) (tab:Nat):Nat→List (Int × Int × Int)→List Cl
 | _,[]=>[]
 | a,x::t=>cell1 x (tbT z w tab a x.1)++cellsR z w tab (a+tbT z w tab a x.1) t
theorem cells1_R (z w:List (Int × Int)) (tab:Nat) : ∀(l:List (Int × Int × Int)) (a:Nat),cells1 l (szs z w tab a (l.map (·.1)))=cellsR z w tab a l
 | [],_=>rfl
 | x::t,a=>by
  rw [List.map_cons,szs,cells1,List.zipWith_cons_cons,List.flatten_cons,cellsR,←cells1_R z w tab t]
  rfl
theorem szs_at {z w:List (Int × Int)} {tab:Nat} (ht:1≤tab∧tab≤16) : ∀(fl:List (Int × Int × Int)) (a:Nat) (i:Nat) (x:Int × Int × Int) (s:Nat),fl[i]? = some x→(szs z w tab a (fl.map (·.1)))[i]? = some s→(if x.1=9 then 1 else s)≤s∧s≤16
 | [],_,i,x,s,h,_=>by simp at h
 | y::t,a,0,x,s,h,hs=>by
  rw [List.map_cons,szs] at hs
  simp only [List.getElem?_cons_zero,Option.some.injEq] at h hs
  subst h hs
  have:=tbT_le (z:=z) (w:=w) (a:=a) (r:=y.1) ht.1 ht.2
  refine ⟨?_,this⟩
  split
  ·rename_i h9;rw [h9];exact tbT_pos ht.1
  ·exact Nat.le_refl _
 | y::t,a,i+1,x,s,h,hs=>by
  rw [List.map_cons,szs,List.getElem?_cons_succ] at hs
  rw [List.getElem?_cons_succ] at h
  exact szs_at ht t _ i x s h hs
def flatT (k st:Int):Int→List Int→List (Int × Int × Int)
 | _,[]=>[]
 | a,r::t=>(r,k,a)::flatT k st (a+st) t
def flatP:Pz→List (Int × Int × Int)
 | .tx k a rs=>flatT k (if k=1 then 1 else 0) a rs
 | .fo a=>[(8230,3,a)]
def flatL:List Pz→List (Int × Int × Int)
 | []=>[]
 | z::t=>flatP z++flatL t
theorem flatL_app : ∀a b:List Pz,flatL (a++b)=flatL a++flatL b
 | [],b=>rfl
 | z::t,b=>by rw [List.cons_append,flatL,flatL,flatL_app t b,List.append_assoc]
theorem flatL_one (z:Pz):flatL [z]=flatP z:=by rw [flatL,flatL,List.append_nil]
theorem flatT_snoc (k st:Int) (r:Int) : ∀(x:List Int) (a:Int),flatT k st a (x++[r])=flatT k st a x++[(r,k,a+st*x.length)]
 | [],a=>by simp [flatT]
 | y::t,a=>by
  rw [List.cons_append,flatT,flatT_snoc k st r t,flatT,List.cons_append]
  congr 4
  rw [List.length_cons,Int.natCast_add,Int.mul_add,Int.add_assoc,Int.add_comm (st*_),Int.natCast_one,Int.mul_one]
theorem flatT_mem {k st:Int} : ∀(x:List Int) (a:Int) c,c∈flatT k st a x→c.2.1=k∧(st=0→c.2.2=a)
 | [],_,c,h=>by cases h
 | y::t,a,c,h=>by
  rcases List.mem_cons.1 h with rfl|h
  ·exact ⟨rfl,fun _=>rfl⟩
  ·obtain ⟨h1,h2⟩:=flatT_mem t _ c h
   exact ⟨h1,fun e=>by rw [h2 e,e];omega⟩
theorem flatT_len (k st:Int) : ∀(x:List Int) (a:Int),(flatT k st a x).length=x.length
 | [],_=>rfl
 | y::t,a=>by rw [flatT,List.length_cons,List.length_cons,flatT_len k st t]
theorem flatL_cut (l:List Pz) (i:Nat):(flatL (l.take i)).length+(flatL (l.drop i)).length=(flatL l).length:=by
 rw [←List.length_append,←flatL_app,List.take_append_drop]
def rowSt (fr:Int) (r:List Cl):Int:=match r.find? (fun c=>c.2.1 != 5) with
 | some c=>c.2.2.2
 | none=>fr
def fold3 (r:List Cl):Bool:=r.any fun c=>c.2.1==3
theorem rowSt_at {fr:Int} : ∀ {r:List Cl} {i:Nat} {c:Cl},(∀(j:Nat) x,j<i→r[j]? = some x→x.2.1=5)→r[i]? = some c→c.2.1≠5→rowSt fr r=c.2.2.2
 | [],i,c,_,h,_=>by simp at h
 | y::t,0,c,_,h,hc=>by
  simp only [List.getElem?_cons_zero,Option.some.injEq] at h
  subst h
  rw [rowSt,List.find?_cons_of_pos (by simpa using hc)]
 | y::t,i+1,c,h1,h,hc=>by
  have hy:=h1 0 y (Nat.succ_pos _) rfl
  have:=rowSt_at (fr:=fr) (r:=t) (i:=i) (c:=c) (fun j x hj hx=>h1 (j+1) x (by omega) (by rwa [List.getElem?_cons_succ])) (by rwa [List.getElem?_cons_succ] at h) hc
  rw [rowSt,List.find?_cons_of_neg (by simpa using hy)]
  exact this
theorem rowSt_no {fr:Int} : ∀ {r:List Cl},(∀(j:Nat) x,r[j]? = some x→x.2.1=5)→rowSt fr r=fr
 | [],_=>rfl
 | y::t,h=>by
  have hy:=h 0 y rfl
  have:=rowSt_no (fr:=fr) (r:=t) (fun j x hx=>h (j+1) x (by rwa [List.getElem?_cons_succ]))
  rw [rowSt,List.find?_cons_of_neg (by simpa using hy)]
  exact this
theorem fold3_yes {r:List Cl} {c:Cl} (h:c∈r) (hc:c.2.1=3):fold3 r=true:=by
 unfold fold3
 exact List.any_eq_true.2 ⟨c,h,by simpa using hc⟩
theorem fold3_no {r:List Cl} (h : ∀(j:Nat) x,r[j]? = some x→x.2.1≠3):fold3 r=false:=by
 cases hb:fold3 r with
 | false=>rfl
 | true=>
  unfold fold3 at hb
  obtain ⟨x,hx,h1⟩:=List.any_eq_true.1 hb
  obtain ⟨i,hi⟩:=List.getElem?_of_mem hx
  exact (h i x hi (by simpa using h1)).elim
end Go.Proofs.YtkhonlnajdfhfaaGreatDoor
