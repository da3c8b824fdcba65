/- What the theorem leans on, part 32. -/
import Derived.Test.YtkkanlcjjpoklaaGreatDoorStUPBD
import Derived.Test.YtkkanlcjjpoklaaGreatDoorStUPBE
set_option linter.unusedSimpArgs false
set_option linter.unusedVariables false
set_option maxRecDepth 8000
namespace Go.Proofs.YtkkanlcjjpoklaaGreatDoor
abbrev kA (r:Rw):D:= .agg [.sd 4 false (r.1.map gN),iD r.2.1,iD r.2.2.1,iD r.2.2.2.1,.lit (.bool r.2.2.2.2.1),.lit (.bool r.2.2.2.2.2.1),iD r.2.2.2.2.2.2]
theorem EM (l:List Rw) (r:Rw):l.map kA++[kA r]=(l++[r]).map kA:=by rw [List.map_append];rfl
def ml (to:Int):List Rw→List Rw
 | []=>[]
 | [r]=>[(r.1,r.2.1,to,r.2.2.2)]
 | r::n::t=>r::ml to (n::t)
theorem oU (l:List Int) (fr to:Int) (x:List Cl) : ∀(b:Bool) (q:List (List Cl)),bP l fr to b (q++[x])=ml (bo fr x) (bP l fr to b q)++[(x,bo fr x,to,lb l (bo fr x),(if q=[] then b else true),eQ x,cZ x)]
 | b,[]=>rfl
 | b,[r]=>rfl
 | b,r::n::t=>by
  have ih:=oU l fr to x true (n::t);rw [List.cons_append,bP,ih];simp [bP,ml,xF]
theorem u6 (to:Int) : ∀(out:List Rw) (i:Nat),out.length=i+1 → ∀G:D→D,(∀r:Rw,G (kA r)=kA (r.1,r.2.1,to,r.2.2.2))→(out.map kA).modify i G=(ml to out).map kA
 | [],_,h,_,_=>by cases h
 | [r],i,h,G,hG=>by
  have:i=0:=by simpa using h.symm
  subst this;simp [ml,hG]
 | r::n::t,i,h,G,hG=>by
  obtain ⟨j,rfl⟩ : ∃j,i=j+1:=⟨t.length,by simp only [List.length_cons] at h;omega⟩
  have:=u6 to (n::t) j (by simpa using h) G hG;rw [List.map_cons,List.modify_succ_cons,this,ml,List.map_cons]
abbrev Qv (rp il hd:D) (z w:List (Int × Int)) (tab:Nat) (wd:Int):D:= .agg [rp,il,hd,pQ z w,iD tab,iD wd]
def X0 (rp il hd:D) (z w:List (Int × Int)) (tab:Nat) (wd:Int) (P:D) (fr to:Int) (q:List (List Cl)) (x:Nat × List Rw):St:=
 ⟨[(2,.po 0 0),(3,.po 1 0),(9,.so 2 7 0 x.2.length),(30,pI q),(31,iv q.length),(32,iv x.1)],[(0,.cell [.d rp,.d il,.d hd,.d (pQ z w),iv tab,iv wd]),(1,.cell [.d P,iv fr,iv to]),(2,.row 7 (x.2.map kA))],3⟩
attribute [push_cast] X0.eq_def
set_option maxHeartbeats 6400000 in
theorem Jt (l:List Int) (rp il hd:D) (z w:List (Int × Int)) (hz:gP z) (hw:gP w) (tab:Nat) (ht:1≤tab∧tab≤16) (wd:Int) (hwd:0≤wd∧wd≤200) (ps:List Pz) (h:HS ps) (hl:(aE ps).length≤4000000) (fr to:Int)
 (hll:l.length≤100000000) (hA : ∀s:Int,0≤s→s≤l.length→an Tryz.prog G0 168 [.d rp,iv s] [] 0 (.tup [iv (lb l s),iv 0]) []) (hC:dH (bz z w tab 0 (aE ps))) (hQ:(bN (bz z w tab 0 (aE ps)) wd).length≤100000000) (hS : ∀r∈bN (bz z w tab 0 (aE ps)) wd,0≤bo fr r∧bo fr r≤l.length∧r.length≤100000000 ∧ ∀c∈r,cw c≤2) :
 an Tryz.prog G0 108 [.d (Qv rp il hd z w tab wd),.d (.agg [.sd 3 false (ps.map fF),iD fr,iD to])] [] 0 (.d (.sd 7 false ((rH z w tab wd l ps fr to).map kA))) []:=by
 have r1:=Ig z w hz hw tab ht ps h hl;have r2:=Bz _ hC wd hwd;unfold rH;generalize bz z w tab 0 (aE ps)=C at *
 generalize bN C wd=q at *
 refine vF ab [0,1,2,3,4,5,7,9,10,11,12,30,31,32,33,61] Tryz.func108 rfl Tryz.results108 Tryz.ntmps108 ?_;(refine' BC r1 r2)
 refine vL (lv:=[0,1,2,3,4,5,7,9,10,11,12,30,31,32,33,61]) ab (X0 rp il hd z w tab wd (.sd 3 false (ps.map fF)) fr to q) (fun x=>x.1≤q.length∧x.2=bP l fr to false (q.take x.1)) (fun x=>q.length - x.1) ((0,[])) (aC.nil 9 7<|(aC.go [2,3,9,30,31,32] (by exact vT) rfl)) ?_ ?_
 ·exact ⟨Nat.zero_le _,rfl⟩
 rintro ⟨i,out⟩ ⟨g1,g2⟩;simp only at g1 g2;have hol:out.length=i:=by rw [g2,eG,List.length_take];omega
 have hol':(out.map kA).length=i:=by rw [List.length_map,hol]
 rcases Nat.lt_or_ge i q.length with hi|hi
 ·obtain ⟨x,hx⟩ : ∃x,q[i]? = some x:=⟨_,List.getElem?_eq_getElem hi⟩
  obtain ⟨k1,k2,k3,k4⟩:=hS x (List.mem_of_getElem? hx);have r3:=Gf x (by omega) 3 (ps.map fF) fr to;have r4:=FY x (by omega);have r5:=uS x k3 k4;have r6:=hA (bo fr x) k1 k2;have e1:bP l fr to false (q.take (i+1))=ml (bo fr x) out++[(x,bo fr x,to,lb l (bo fr x),(if q.take i=[] then false else true),eQ x,cZ x)]:=by rw [ax hx,oU,←g2]
  have e2:(if q.take i=[] then false else true)=decide (0<(i:Int)):=by
   rcases Nat.eq_zero_or_pos i with h0|h0
   ·subst h0;simp
   ·have h3:(q.take i).length=i:=by rw [List.length_take];omega
    rw [if_neg (fun h4=>by rw [h4,List.length_nil] at h3;omega),decide_eq_true (by omega)]
  rw [e2] at e1;generalize bo fr x=s at *
  generalize eQ x=fo at *
  generalize cZ x=wx at *
  generalize lb l s=bk at *
  (refine' Xz r3 r4 r5 r6 hx)
  ·try rw [show ((i:Int) - 1).toNat=i - 1 by omega]
   rw [u6 s out (i - 1) (by omega)];rotate_left
   ·intro r;rfl
   have e4:=EM (ml s out) (x,s,to,bk,decide (0<(i:Int)),fo,wx);rw [e4,List.length_map];refine aG.go ((i+1,ml s out++[(x,s,to,bk,decide (0<(i:Int)),fo,wx)])) [2,3,9,30,31,32] (by exact vT) ?_ ?_
   ·show q.length - (i+1)<q.length - i;omega
   ·exact ⟨hi,e1.symm⟩
  ·have h0:out=[]:=List.length_eq_zero_iff.1 (by omega);rw [h0] at e1 ⊢;have e4:=EM [] (x,s,to,bk,decide (0<(i:Int)),fo,wx);rw [e4,List.length_map];refine aG.go ((i+1,[]++[(x,s,to,bk,decide (0<(i:Int)),fo,wx)])) [2,3,9,30,31,32] (by exact vT) ?_ ?_
   ·show q.length - (i+1)<q.length - i;omega
   ·exact ⟨hi,e1.symm⟩
 ·rw [List.take_of_length_le hi] at g2;subst g2;(refine' zg)
  refine ae.frz 2 (ae.out ?_);(refine' zg)
  all_goals (try rw [List.take_of_length_le (by simp)])
end Go.Proofs.YtkkanlcjjpoklaaGreatDoor
