/- What the theorem leans on, part 35. -/
import Derived.Test.YtkhonlnajdfhfaaGreatDoorLtYPBG
import Derived.Test.YtkhonlnajdfhfaaGreatDoorLtYPBH
set_option linter.unusedSimpArgs false
set_option linter.unusedVariables false
set_option maxRecDepth 8000
namespace Go.Proofs.YtkhonlnajdfhfaaGreatDoor
abbrev rwD (r:Rw):D:= .agg [.sd 4 false (r.1.map clD),iD r.2.1,iD r.2.2.1,iD r.2.2.2.1,.lit (.bool r.2.2.2.2.1),.lit (.bool r.2.2.2.2.2.1),iD r.2.2.2.2.2.2]
theorem snoc_rw (l:List Rw) (r:Rw):l.map rwD++[rwD r]=(l++[r]).map rwD:=by rw [List.map_append];rfl
def endAt (to:Int):List Rw→List Rw
 | []=>[]
 | [r]=>[(r.1,r.2.1,to,r.2.2.2)]
 | r::n::t=>r::endAt to (n::t)
theorem lineRs_snoc (l:List Int) (fr to:Int) (x:List Cl) : ∀(b:Bool) (q:List (List Cl)),lineRs l fr to b (q++[x])=endAt (rowSt fr x) (lineRs l fr to b q)++[(x,rowSt fr x,to,brkA l (rowSt fr x),(if q=[] then b else true),fold3 x,wid x)]
 | b,[]=>rfl
 | b,[r]=>rfl
 | b,r::n::t=>by
  have ih:=lineRs_snoc l fr to x true (n::t)
  rw [List.cons_append,lineRs,ih]
  simp [lineRs,endAt,nxtS]
theorem endAt_map (to:Int) : ∀(out:List Rw) (i:Nat),out.length=i+1 → ∀G:D→D,(∀r:Rw,G (rwD r)=rwD (r.1,r.2.1,to,r.2.2.2))→(out.map rwD).modify i G=(endAt to out).map rwD
 | [],_,h,_,_=>by cases h
 | [r],i,h,G,hG=>by
  have:i=0:=by simpa using h.symm
  subst this
  simp [endAt,hG]
 | r::n::t,i,h,G,hG=>by
  obtain ⟨j,rfl⟩ : ∃j,i=j+1:=⟨t.length,by simp only [List.length_cons] at h;omega⟩
  have:=endAt_map to (n::t) j (by simpa using h) G hG
  rw [List.map_cons,List.modify_succ_cons,this,endAt,List.map_cons]
abbrev vwD (rp il hd:D) (z w:List (Int × Int)) (tab:Nat) (wd:Int):D:= .agg [rp,il,hd,tbD z w,iD tab,iD wd]
def lnS (rp il hd:D) (z w:List (Int × Int)) (tab:Nat) (wd:Int) (P:D) (fr to:Int) (q:List (List Cl)) (x:Nat × List Rw):St:=
 ⟨[(2,.po 0 0),(3,.po 1 0),(9,.so 2 7 0 x.2.length),(30,rwsL q),(31,iv q.length),(32,iv x.1)],[(0,.cell [.d rp,.d il,.d hd,.d (tbD z w),iv tab,iv wd]),(1,.cell [.d P,iv fr,iv to]),(2,.row 7 (x.2.map rwD))],3⟩
attribute [push_cast] lnS.eq_def
set_option maxHeartbeats 6400000 in
theorem lLine_fn (l:List Int) (rp il hd:D) (z w:List (Int × Int)) (hz:RgOk z) (hw:RgOk w) (tab:Nat) (ht:1≤tab∧tab≤16) (wd:Int) (hwd:0≤wd∧wd≤200) (ps:List Pz) (h:PzOk ps) (hl:(flatL ps).length≤4000000) (fr to:Int)
 (hll:l.length≤100000000) (hA : ∀s:Int,0≤s→s≤l.length→OFn Tryz.prog G0 53 [.d rp,iv s] [] 0 (.tup [iv (brkA l s),iv 0]) []) (hC:ClOk (cellsR z w tab 0 (flatL ps))) (hQ:(rowsN (cellsR z w tab 0 (flatL ps)) wd).length≤100000000) (hS : ∀r∈rowsN (cellsR z w tab 0 (flatL ps)) wd,0≤rowSt fr r∧rowSt fr r≤l.length∧r.length≤100000000 ∧ ∀c∈r,cw c≤2) :
 OFn Tryz.prog G0 24 [.d (vwD rp il hd z w tab wd),.d (.agg [.sd 3 false (ps.map pzD),iD fr,iD to])] [] 0 (.d (.sd 7 false ((layL z w tab wd l ps fr to).map rwD))) []:=by
 have r1:=cOf_fn z w hz hw tab ht ps h hl
 have r2:=wRows_fn _ hC wd hwd
 unfold layL
 generalize cellsR z w tab 0 (flatL ps)=C at *
 generalize rowsN C wd=q at *
 refine vF mixed [0,1,2,3,4,5,7,9,10,11,12,30,31,32,33,61] Tryz.func24 rfl Tryz.results24 Tryz.ntmps24 ?_
 (refine' zg2 r1 r2)
 refine vL (lv:=[0,1,2,3,4,5,7,9,10,11,12,30,31,32,33,61]) mixed (lnS rp il hd z w tab wd (.sd 3 false (ps.map pzD)) fr to q) (fun x=>x.1≤q.length∧x.2=lineRs l fr to false (q.take x.1)) (fun x=>q.length - x.1) ((0,[])) (GhW.nil 9 7<|(GhW.go [2,3,9,30,31,32] (by exact vT) rfl)) ?_ ?_
 ·exact ⟨Nat.zero_le _,rfl⟩
 rintro ⟨i,out⟩ ⟨g1,g2⟩
 simp only at g1 g2
 have hol:out.length=i:=by rw [g2,lineRs_len,List.length_take];omega
 have hol':(out.map rwD).length=i:=by rw [List.length_map,hol]
 rcases Nat.lt_or_ge i q.length with hi|hi
 ·obtain ⟨x,hx⟩ : ∃x,q[i]? = some x:=⟨_,List.getElem?_eq_getElem hi⟩
  obtain ⟨k1,k2,k3,k4⟩:=hS x (List.mem_of_getElem? hx)
  have r3:=lStart_fn x (by omega) 3 (ps.map pzD) fr to
  have r4:=folded_fn x (by omega)
  have r5:=cWidth_fn x k3 k4
  have r6:=hA (rowSt fr x) k1 k2
  have e1:lineRs l fr to false (q.take (i+1))=endAt (rowSt fr x) out++[(x,rowSt fr x,to,brkA l (rowSt fr x),(if q.take i=[] then false else true),fold3 x,wid x)]:=by rw [take_snoc' hx,lineRs_snoc,←g2]
  have e2:(if q.take i=[] then false else true)=decide (0<(i:Int)):=by
   rcases Nat.eq_zero_or_pos i with h0|h0
   ·subst h0;simp
   ·have h3:(q.take i).length=i:=by rw [List.length_take];omega
    rw [if_neg (fun h4=>by rw [h4,List.length_nil] at h3;omega),decide_eq_true (by omega)]
  rw [e2] at e1
  generalize rowSt fr x=s at *
  generalize fold3 x=fo at *
  generalize wid x=wx at *
  generalize brkA l s=bk at *
  (refine' zm41 r3 r4 r5 r6 hx)
  ·try rw [show ((i:Int) - 1).toNat=i - 1 by omega]
   rw [endAt_map s out (i - 1) (by omega)]
   rotate_left
   ·intro r;rfl
   have e4:=snoc_rw (endAt s out) (x,s,to,bk,decide (0<(i:Int)),fo,wx)
   rw [e4,List.length_map]
   refine AgW.go ((i+1,endAt s out++[(x,s,to,bk,decide (0<(i:Int)),fo,wx)])) [2,3,9,30,31,32] (by exact vT) ?_ ?_
   ·show q.length - (i+1)<q.length - i
    omega
   ·exact ⟨hi,e1.symm⟩
  ·have h0:out=[]:=List.length_eq_zero_iff.1 (by omega)
   rw [h0] at e1 ⊢
   have e4:=snoc_rw [] (x,s,to,bk,decide (0<(i:Int)),fo,wx)
   rw [e4,List.length_map]
   refine AgW.go ((i+1,[]++[(x,s,to,bk,decide (0<(i:Int)),fo,wx)])) [2,3,9,30,31,32] (by exact vT) ?_ ?_
   ·show q.length - (i+1)<q.length - i
    omega
   ·exact ⟨hi,e1.symm⟩
 ·rw [List.take_of_length_le hi] at g2
  subst g2
  (refine' zg)
  refine DoneW.frz 2 (DoneW.out ?_)
  (refine' zg)
  all_goals (try rw [List.take_of_length_le (by simp)])
end Go.Proofs.YtkhonlnajdfhfaaGreatDoor
