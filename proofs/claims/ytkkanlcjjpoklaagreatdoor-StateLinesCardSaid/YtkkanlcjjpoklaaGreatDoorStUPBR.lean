/- What the theorem leans on, part 44. -/
import Derived.Test.YtkkanlcjjpoklaaGreatDoorStUPBQ
set_option linter.unusedSimpArgs false
set_option linter.unusedVariables false
set_option maxRecDepth 8000
namespace Go.Proofs.YtkkanlcjjpoklaaGreatDoor
theorem zw (t:Option T):an Tryz.prog G0 92 [.d (iq t)] [] 0 (.d (aX t)) []:=by
 unfold iq;refine vF ab [0,2,4] Tryz.func92 rfl Tryz.results92 Tryz.ntmps92 ?_;(refine' zo)
theorem xl (t:Option T):an Tryz.prog G0 49 [.d (iq t)] [] 0 (.d (gm ((ay (ao t)).d0,(ay (ao t)).d1,(ay (ao t)).d2,(ay (ao t)).mx))) []:=by
 have r1:=zw t;have r2:=ju t;generalize iq t=TT at *
 simp only [gm];refine vF ab [0,2,3] Tryz.func49 rfl Tryz.results49 Tryz.ntmps49 ?_;(refine' tJ r1 r2)
abbrev Uk (S:Sm) (i:Int):D:= .agg [iD S.n,iD i,iD S.d2,iD S.d0,iD S.d1]
theorem Hf (S:Sm) (vis i:Int):an Tryz.prog G0 148 [.d (gK S vis),iv i] [] 0 (.d (Uk S i)) []:=by
 simp only [gK];refine vF ab [0,1,2,4] Tryz.func148 rfl Tryz.results148 Tryz.ntmps148 ?_;(refine' zo)
def nP (S:Sm) (d:Nat) (v:Int):Int:=if d=3 then 0 else v - nd S d
theorem Q8 (t:Option T) (d:Nat) (c:Int) (hd:(d=0∧c=0)∨(d=1∧c=1)∨(d=2∧c=2)∨(d=3∧c=3)) (v:Int) (hv:0≤v∧v≤1000000000000000000) (S:Sm) (hS:fc S) (vis:Int) (r1:an Tryz.prog G0 88 [.d (aX t),iv c,iv v,iv 1] [] 0 (.tup [.d (gK S vis),iv 0]) []) :
 an Tryz.prog G0 91 [.d (.bf 88 [aX t]),iv c,iv v] [] 0 (.tup [.d (Uk S (nP S d v)),iv 0]) []:=by
 have r2:=Hf S vis (nP S d v);unfold fc at hS;simp only [gK] at r1 r2;generalize aX t=A at *
 obtain ⟨rfl,rfl⟩|⟨rfl,rfl⟩|⟨rfl,rfl⟩|⟨rfl,rfl⟩:=hd
 ·have e:nP S 0 v=v - S.d0:=rfl;rw [e] at r2 ⊢;refine vF ab [0,1,2,6,7,8,9,10,19,24] Tryz.func91 rfl Tryz.results91 Tryz.ntmps91 ?_;(repeat' (first|(with_reducible first|exact True.intro|refine vD ?_|refine vG ?_|refine vE ?_)|with_reducible refine vC (r1) ?_|with_reducible refine vC (r2) ?_|(refine jh ?_)|with_reducible refine ae.out ?_|refine vR ?_|refine v6 ?_|with_reducible refine vN ?_|((with_reducible first|refine vB (fun h =>?_) (fun h =>?_)|refine vM (fun h =>?_) (fun h =>?_))<;>(first|(exfalso;omega)|skip))))
 ·have e:nP S 1 v=v - S.d1:=rfl;rw [e] at r2 ⊢;refine vF ab [0,1,2,6,7,8,9,10,19,24] Tryz.func91 rfl Tryz.results91 Tryz.ntmps91 ?_;(repeat' (first|(with_reducible first|exact True.intro|refine vD ?_|refine vG ?_|refine vE ?_)|with_reducible refine vC (r1) ?_|with_reducible refine vC (r2) ?_|(refine jh ?_)|with_reducible refine ae.out ?_|refine vR ?_|refine v6 ?_|with_reducible refine vN ?_|((with_reducible first|refine vB (fun h =>?_) (fun h =>?_)|refine vM (fun h =>?_) (fun h =>?_))<;>(first|(exfalso;omega)|skip))))
 ·have e:nP S 2 v=v - S.d2:=rfl;rw [e] at r2 ⊢;refine vF ab [0,1,2,6,7,8,9,10,19,24] Tryz.func91 rfl Tryz.results91 Tryz.ntmps91 ?_;(repeat' (first|(with_reducible first|exact True.intro|refine vD ?_|refine vG ?_|refine vE ?_)|with_reducible refine vC (r1) ?_|with_reducible refine vC (r2) ?_|(refine jh ?_)|with_reducible refine ae.out ?_|refine vR ?_|refine v6 ?_|with_reducible refine vN ?_|((with_reducible first|refine vB (fun h =>?_) (fun h =>?_)|refine vM (fun h =>?_) (fun h =>?_))<;>(first|(exfalso;omega)|skip))))
 ·have e:nP S 3 v=0:=rfl;rw [e] at r2 ⊢;refine vF ab [0,1,2,6,7,8,9,10,19,24] Tryz.func91 rfl Tryz.results91 Tryz.ntmps91 ?_;(repeat' (first|(with_reducible first|exact True.intro|refine vD ?_|refine vG ?_|refine vE ?_)|with_reducible refine vC (r1) ?_|with_reducible refine vC (r2) ?_|(refine jh ?_)|with_reducible refine ae.out ?_|refine vR ?_|refine v6 ?_|with_reducible refine vN ?_|((with_reducible first|refine vB (fun h =>?_) (fun h =>?_)|refine vM (fun h =>?_) (fun h =>?_))<;>(first|(exfalso;omega)|skip))))
theorem FS (t:Option T) (k:Tk t) (v:Int) (h0:0≤v) (h1:v<(ay (ao t)).d2) :
 ∃j,BP 2 v 1 (ao t) j∧an Tryz.prog G0 51 [.d (iq t),iv v] [] 0 (.tup [.d (Uk (ay ((ao t).take j)) (v - (ay ((ao t).take j)).d2)),iv 0]) []:=by
 have ho:=gA (ao t) k.ok (by have:=k.len;omega);unfold fc at ho;have hn:(ay (ao t)).n≤30000:=by rw [fe];have:=k.len;omega
 obtain ⟨j,vis,sp,-,r1⟩:=nF t k 2 (by omega) v 1 h0 (by show v≤(ay (ao t)).d2;omega) (.inr rfl);refine ⟨j,sp,?_⟩;have r2:=Q8 t 2 2 (by omega) v (by omega) _ (gA ((ao t).take j) (fun i hi=>k.ok i (List.mem_of_mem_take hi)) (by rw [List.length_take];have:=k.len;omega)) vis r1;have r3:=zw t;have r4:=xl t;have e : ∀S:Sm,nP S 2 v=v - S.d2:=fun _=>rfl
 rw [e] at r2;simp only [gm] at r4;generalize iq t=TT at *
 generalize aX t=A at *
 generalize ay ((ao t).take j)=S at *
 refine vF ab [0,1,4,5,10] Tryz.func51 rfl Tryz.results51 Tryz.ntmps51 ?_;(refine' QT r4 r3 r2)
theorem qj : ∀l:List Fl,(ay (l.map nj)).d0=(l.map (·.1)).sum∧(ay (l.map nj)).d1=(l.map (·.2.1)).sum∧(ay (l.map nj)).d2=(l.map (·.2.2.1)).sum
 | []=>⟨rfl,rfl,rfl⟩
 | x::l=>by
  obtain ⟨a,b,c⟩:=qj l;have h:=dO (nj x) (l.map nj);simp only [nj] at h;simp only [List.map_cons,List.sum_cons,nj];omega
section
variable (l:List Int) (H:List Sn)
abbrev RV (l:List Int) (x:Nat × Nat):Int:=(x.2:Int) - x.1+if x.2<l.length then 1 else 0
theorem vq : ∀(d a:Nat),l.length - a≤d→a≤l.length → ∀(j:Nat) x,(aW l H a)[j]? = some x→(((aW l H a).take j).map (RV l)).sum=(x.1:Int) - a
 | d,a,hd,ha,j,x,hx=>by
  have he:=bU l H ha;rw [aW] at hx ⊢;cases j with
  | zero=>
   simp only [List.getElem?_cons_zero,Option.some.injEq] at hx;subst hx;simp
  | succ j=>
   rw [List.getElem?_cons_succ] at hx;split at hx
   ·rename_i hlt;have:=vq (d - 1) (aF l H a+1) (by omega) (by omega) j x hx;rw [dif_pos hlt,List.take_succ_cons,List.map_cons,List.sum_cons,this,RV,if_pos hlt.1];simp only;omega
   ·simp at hx
 termination_by d=>d
 decreasing_by omega
variable (M:Nat × Nat→Fl)
def pF (M:Nat × Nat→Fl) (from' to:Int):List (Nat × Nat)→Bool→Bool→List Fl→Bool × Bool × List Fl
 | [],b,e,w=>(b,e,w)
 | x::r,b,e,w=>if (b||decide ((x.1:Int)=from')) && !e then pF M from' to r true (decide ((x.2:Int)=to)) (w++[M x]) else pF M from' to r (b||decide ((x.1:Int)=from')) e w
theorem JD {from' to:Int} : ∀(Ls:List (Nat × Nat)) (w:List Fl),(∀x∈Ls,(x.1:Int)≠from')→pF M from' to Ls false false w=(false,false,w)
 | [],w,h=>rfl
 | x::r,w,h=>by
  have h1:=h x List.mem_cons_self;rw [pF,decide_eq_false h1];exact JD r w fun y hy=>h y (List.mem_cons_of_mem _ hy)
theorem Ek {from' to:Int} : ∀(Ls:List (Nat × Nat)) (w:List Fl),pF M from' to Ls true true w=(true,true,w)
 | [],w=>rfl
 | x::r,w=>by rw [pF];exact Ek r w
theorem zY {from' to:Int} : ∀(Ls:List (Nat × Nat)) (w:List Fl),(∀x∈Ls,to<(x.2:Int))→(pF M from' to Ls true false w).2.1=false
 | [],w,_=>rfl
 | x::r,w,h=>by
  have h1:=h x List.mem_cons_self;rw [pF,decide_eq_false (show ¬(x.2:Int)=to by omega)];exact zY r _ fun y hy=>h y (List.mem_cons_of_mem _ hy)
theorem rK : ∀(d a:Nat),l.length - a≤d→a≤l.length → ∀x∈aW l H a,aF l H a≤x.2
 | d,a,hd,ha,x,hx=>by
  have he:=bU l H ha;rw [aW] at hx;rcases List.mem_cons.1 hx with rfl|hx
  ·exact Nat.le_refl _
  ·split at hx
   ·rename_i hlt;have:=rK (d - 1) (aF l H a+1) (by omega) (by omega) x hx;have h2:=bU l H (show aF l H a+1≤l.length by omega);omega
   ·cases hx
 termination_by d=>d
 decreasing_by omega
def U8 (w:List Fl):Option (List Fl)→Bool × Bool × List Fl→Prop
 | some fs,r=>r=(true,true,w++fs)
 | none,r=>r.2.1=false
theorem JC {from' to:Int} : ∀(d a:Nat) (w:List Fl),l.length - a≤d→a≤l.length→U8 w (pC l H M to a) (pF M from' to (aW l H a) true false w)
 | d,a,w,hd,ha=>by
  have he:=bU l H ha;by_cases h1:to<aF l H a
  ·rw [pC,if_pos h1];exact zY M _ _ fun x hx=>by have:=rK l H _ a (Nat.le_refl _) ha x hx;omega
  rw [pC,if_neg h1,aW,pF];by_cases h2:(aF l H a:Int)=to
  ·rw [if_pos h2,decide_eq_true h2];simp only [Bool.true_or,Bool.not_false,Bool.and_self,if_true,Ek];rfl
  ·rw [if_neg h2,decide_eq_false h2];simp only [Bool.true_or,Bool.not_false,Bool.and_self,if_true];by_cases hlt:aF l H a<l.length
   ·rw [dif_pos ⟨hlt,he.1⟩,dif_pos ⟨hlt,he.1⟩];have:=JC (from':=from') (to:=to) (d - 1) (aF l H a+1) (w++[M (a,aF l H a)]) (by omega) (by omega);cases hf:pC l H M to (aF l H a+1) with
    | none=>rw [hf] at this;exact this
    | some fs=>rw [hf] at this;simpa [U8] using this
   ·rw [dif_neg (by omega),dif_neg (by omega)];rfl
 termination_by d=>d
 decreasing_by omega
theorem zZ {from' to:Int} (b:Nat) (hfb:from'=b) (hb:b≤l.length) (hs:b=0∨eY l H (b - 1)=true) : ∀(d a:Nat),l.length - a≤d→a≤b→pF M from' to (aW l H a) false false []=pF M from' to (aW l H b) true false []
 | d,a,hd,hab=>by
  by_cases e:a=b
  ·subst e;rw [aW,pF,pF,decide_eq_true hfb.symm];rfl
  ·have he:=bU l H (show a≤l.length by omega);have hlt:aF l H a≤b - 1:=by
    refine Nat.le_of_not_lt fun hc =>?_
    have:=pV l H (i:=a) (k:=b - 1) (by omega) (by omega) hc;rcases hs with h|h
    ·omega
    ·rw [h] at this;cases this
   conv=>lhs;rw [aW,dif_pos ⟨by omega,he.1⟩,pF,decide_eq_false (show ¬((a,aF l H a).1:Int)=from' by simp only;omega)]
   exact zZ b hfb hb hs (d - 1) (aF l H a+1) (by omega) (by omega)
 termination_by d=>d
 decreasing_by omega
end
theorem rk {α β:Type} (G:α→List β) : ∀L:List α,((L.map fun x=>((G x).length:Int)).sum)=((L.flatMap G).length:Int)
 | []=>rfl
 | x::r=>by
  rw [List.map_cons,List.sum_cons,rk G r,List.flatMap_cons,List.length_append];omega
theorem D7 {Ls:List (Nat × Nat)} {M:Nat × Nat→Fl} (j:Nat):((Ls.map M).map nj).take j=((Ls.take j).map M).map nj:=by rw [List.map_take,List.map_take]
theorem G6 {β:Type} {Ls:List (Nat × Nat)} {M:Nat × Nat→Fl} {G:Nat × Nat→List β} (hM : ∀x∈Ls,(M x).2.2.1=((G x).length:Int)) {v:Int} {j:Nat} (h0:0≤v) (h1:v<((Ls.flatMap G).length:Int)) (sp:BP 2 v 1 ((Ls.map M).map nj) j) :
 ∃x,Ls[j]? = some x∧(ay (((Ls.map M).map nj).take j)).d2=(((Ls.take j).flatMap G).length:Int)∧(((Ls.take j).flatMap G).length:Int)≤v∧v<(((Ls.take j).flatMap G).length:Int)+(G x).length:=by
 have e : ∀j,(ay (((Ls.map M).map nj).take j)).d2=(((Ls.take j).flatMap G).length:Int):=fun j=>by
  rw [D7,(qj _).2.2,←rk,List.map_map];congr 1;refine List.map_congr_left fun x hx=>hM x (List.mem_of_mem_take hx)
 have hr : ∀s:Sm,bm 2 v 1 s=true↔v<s.d2:=fun s=>by simp [bm,nd]
 have hle:=sp.le;simp only [List.length_map] at hle;have hlo:(((Ls.take j).flatMap G).length:Int)≤v:=by
  rcases Nat.eq_zero_or_pos j with hj|hj
  ·subst hj;simpa using h0
  ·have:=sp.below j hj (Nat.le_refl _);have h2 : ¬v<_:=fun h=>by rw [(hr _).2 h] at this;cases this
   rw [e] at h2;omega
 have hlt:j<Ls.length:=by
  refine Nat.lt_of_le_of_ne hle fun hj =>?_
  rw [hj,List.take_length] at hlo;omega
 obtain ⟨x,hx⟩ : ∃x,Ls[j]? = some x:=⟨_,List.getElem?_eq_getElem hlt⟩
 refine ⟨x,hx,e j,hlo,?_⟩;have:=(hr _).1 (sp.here (by simpa using hlt));rw [e,ax hx,List.flatMap_append,List.length_append] at this;simpa using this
theorem take_drop {α:Type} (B:List α) {f r:Nat} (h1:f≤r) (h2:r≤B.length):(B.take r).drop f++B.drop r=B.drop f:=by
 conv=>rhs;rw [←List.take_append_drop r B]
 rw [List.drop_append,show f - (B.take r).length=0 by rw [List.length_take];omega,List.drop_zero]
theorem Ir {α:Type} {A pre q post:List α} {f r n:Nat} (e:A=pre++(q++post)) (hf:f≤r) (hr:pre.length≤r) (hn:n≤q.length) (hi:r - pre.length≤n):(A.take r).drop f++(q.take n).drop (r - pre.length)=(A.take (pre.length+n)).drop f:=by
 have e1:A.take (pre.length+n)=pre++q.take n:=by
  rw [e,List.take_append,List.take_of_length_le (by omega),show pre.length+n - pre.length=n by omega,List.take_append_of_le_length hn]
 have e2:(A.take (pre.length+n)).drop r=(q.take n).drop (r - pre.length):=by
  rw [e1,List.drop_append,List.drop_of_length_le hr,List.nil_append]
 have e3:A.take r=(A.take (pre.length+n)).take r:=by rw [List.take_take,Nat.min_eq_left (by omega)]
 rw [←e2,e3];refine take_drop _ hf ?_;rw [e1,List.length_append,List.length_take];omega
end Go.Proofs.YtkkanlcjjpoklaaGreatDoor
