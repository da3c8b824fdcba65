/- What the theorem leans on, part 37. -/
import Derived.Test.YtkhonlnajdfhfaaGreatDoorLtYPBJ
set_option linter.unusedSimpArgs false
set_option linter.unusedVariables false
set_option maxRecDepth 8000
namespace Go.Proofs.YtkhonlnajdfhfaaGreatDoor
abbrev vbD (v:D):D:= .pd 6 [v] 0 0
theorem rows1_fn (rp il hd:D) (z w:List (Int × Int)) (tab:Nat) (wd:Int) (X:D) (a b:Int) (r:List Rw) (h:OFn Tryz.prog G0 24 [.d (vwD rp il hd z w tab wd),.d (.agg [X,iD a,iD b])] [] 0 (.d (.sd 7 false (r.map rwD))) []) :
 OFn Tryz.prog G0 23 [.d (.agg [X,iD a,iD b]),.d (vbD (vwD rp il hd z w tab wd))] [] 0 (.d (.sd 7 false (r.map rwD))) []:=by
 refine vF mixed [0,1,2,3] Tryz.func23 rfl Tryz.results23 Tryz.ntmps23 ?_
 (refine' zo1 h)
def gaS (l:List Int) (L:List Iy) (H:List Sn) (Ls:List (Nat × Nat)) (bx:D) (x:Nat × List Rw):St:=
 ⟨[(1,.d (.fn 23 [bx])),(5,.so 0 7 0 x.2.length),(8,.d (.sd 3 false (Ls.map (lnD l L H)))),(9,iv Ls.length),(10,iv x.1)],[(0,.row 7 (x.2.map rwD))],1⟩
attribute [push_cast] gaS.eq_def
set_option maxHeartbeats 1600000 in
theorem gath_fn (l:List Int) (L:List Iy) (H:List Sn) (Ls:List (Nat × Nat)) (hl:Ls.length≤100000) (rp il hd:D) (z w:List (Int × Int)) (tab:Nat) (wd:Int) (F:Nat × Nat→List Rw) (hF:(Ls.flatMap F).length≤1000000000000)
 (h : ∀x∈Ls,OFn Tryz.prog G0 24 [.d (vwD rp il hd z w tab wd),.d (lnD l L H x)] [] 0 (.d (.sd 7 false ((F x).map rwD))) []) :
 OFn Tryz.prog G0 22 [.d (.sd 3 false (Ls.map (lnD l L H))),.d (.fn 23 [vbD (vwD rp il hd z w tab wd)])] [] 0 (.d (.sd 7 false ((Ls.flatMap F).map rwD))) []:=by
 have he:entT Tryz.prog 23=true:=by kernel_rfl
 refine vF mixed [0,1,4,5,7,8,9,10,11] Tryz.func22 rfl Tryz.results22 Tryz.ntmps22 ?_
 (refine' zg)
 refine vL (lv:=[0,1,4,5,7,8,9,10,11]) mixed (gaS l L H Ls (vbD (vwD rp il hd z w tab wd))) (fun x=>x.1≤Ls.length∧x.2++(Ls.drop x.1).flatMap F=Ls.flatMap F) (fun x=>Ls.length - x.1) ((0,[])) (GhW.nil 5 7<|(GhW.go [1,5,8,9,10] (by exact vT) rfl)) ?_ ?_
 ·exact ⟨Nat.zero_le _,rfl⟩
 rintro ⟨i,out⟩ ⟨g1,g2⟩
 simp only at g1 g2
 have ho:out.length≤1000000000000:=by have:=congrArg List.length g2;rw [List.length_append] at this;omega
 rcases Nat.lt_or_ge i Ls.length with hk|hk
 ·obtain ⟨x,hx⟩ : ∃x,Ls[i]? = some x:=⟨_,List.getElem?_eq_getElem hk⟩
  have r1:=h x (List.mem_of_getElem? hx)
  have hxl:(F x).length≤1000000000000:=by
   have e:=congrArg List.length g2
   rw [List.drop_eq_getElem_cons hk,(List.getElem?_eq_some_iff.1 hx).2,List.flatMap_cons,List.length_append,List.length_append] at e;omega
  rw [List.drop_eq_getElem_cons hk,(List.getElem?_eq_some_iff.1 hx).2,List.flatMap_cons] at g2
  simp only [lnD] at r1
  have r2:=rows1_fn rp il hd z w tab wd _ _ _ _ r1
  generalize F x=q at *
  (repeat' (first|(with_reducible first|exact True.intro|refine vD ?_|refine vG ?_|refine vE ?_)|(with_reducible refine elX.is i _ (by omega) hx ?_)|(with_reducible refine vC r2 ?_ he rfl rfl)|refine vR ?_|refine v6 ?_|with_reducible refine vN ?_|((with_reducible first|refine vB (fun h =>?_) (fun h =>?_)|refine vM (fun h =>?_) (fun h =>?_))<;>(first|(exfalso;omega)|skip))))
  try rw [←List.map_append]
  try rw [List.length_map]
  refine AgW.go ((i+1,out++q)) [1,5,8,9,10] (by exact vT) ?_ ?_
  ·show Ls.length - (i+1)<Ls.length - i
   omega
  ·exact ⟨hk,by rw [←g2];simp⟩
 ·rw [List.drop_of_length_le hk,List.flatMap_nil,List.append_nil] at g2
  subst g2
  (refine' zg)
  refine DoneW.frz 0 (DoneW.out ?_)
  (refine' zg)
  all_goals (try rw [List.take_of_length_le (by simp)])
theorem layA_eq (z w:List (Int × Int)) (tab:Nat) (wd:Int) (l:List Int) (L:List Iy) (H:List Sn) : ∀Ls:List (Nat × Nat),layA z w tab wd l L H Ls=Ls.flatMap fun x=>layL z w tab wd l (runP l L x.2 x.1 H) x.1 x.2
 | []=>rfl
 | x::r=>by rw [layA,layA_eq z w tab wd l L H r,List.flatMap_cons]
theorem flat_leB {α β:Type} (F:α→List β) (B:Nat) : ∀L:List α,(∀y∈L,(F y).length≤B)→(L.flatMap F).length≤B*L.length
 | [],_=>Nat.le_refl _
 | y::t,h=>by
  have h1:=flat_leB F B t fun x hx=>h x (List.mem_cons_of_mem _ hx)
  have h2:=h y List.mem_cons_self
  rw [List.flatMap_cons,List.length_append,List.length_cons,Nat.mul_succ];omega
structure RowsG (l:List Int) (wd:Int) (A:List Rw):Prop where
 ok:okRs l A
 nw : ∃n T,A=n::T∧n.2.2.2.2.1=false
 mem : ∀r∈A,r.2.2.2.2.2.2=wid r.1∧(2≤wd→(wid r.1:Int)≤wd) ∧ ∀c∈r.1,c.2.1=1 → ∃k:Nat,c.2.2.2=k∧l[k]? = some c.1
 cel : ∀r∈A,r.1.length≤100000000 ∧ ∀c∈r.1,cw c≤2
 len:A.length≤100000000000
section
variable {s:ByteArray} {L:List Iy} {F:List Sn} {tab:Nat} {wd:Int}
theorem OkD.lines (h:OkD s L F tab wd) : ∀x∈linesP (runesAt s 0) (hidSr F) 0,LnG zT wT tab wd (runesAt s 0) (insA L) (hidSr F) x:=fun x hx=>by
 obtain ⟨h1,h2,h3⟩:=lines_beg (runesAt s 0) (hidSr F) _ 0 (Nat.le_refl _) (Nat.zero_le _) (.inl rfl) x hx
 have ht:=h.tab0
 exact ln_ok h.gd h.rs (okT_rgt h.okT).1 zT wT (by omega) wd h1 h2 h3
theorem OkD.ll (h:OkD s L F tab wd):(linesP (runesAt s 0) (hidSr F) 0).length≤301:=by
 have:=linesP_len (runesAt s 0) (hidSr F) 0 (Nat.zero_le _)
 have:=h.rs
 omega
theorem OkD.hl (h:OkD s L F tab wd):(hidSr F).length≤60:=by
 have:=hid_len F
 have:=h.f0
 show (hidF (srtF F)).length≤60
 omega
abbrev rowsD (s:ByteArray) (L:List Iy) (F:List Sn) (tab:Nat) (wd:Int):List Rw:=layA zT wT tab wd (runesAt s 0) (insA L) (hidSr F) (linesP (runesAt s 0) (hidSr F) 0)
theorem OkD.lay (h:OkD s L F tab wd):RowsG (runesAt s 0) wd (rowsD s L F tab wd):=by
 have hr:=(okT_rgt h.okT).1
 obtain ⟨h1,n,T,h2,h3,_⟩:=lay_ok (z:=zT) (w:=wT) (tab:=tab) (wd:=wd) (L:=insA L) h.gd.so hr _ 0 (Nat.le_refl _) (Nat.zero_le _) (.inl rfl)
 refine ⟨h1,⟨n,T,h2,h3⟩,lay_mem h.gd.so hr _ 0 (Nat.le_refl _) (Nat.zero_le _) (.inl rfl),fun r hr' =>?_,?_⟩
 ·rw [rowsD,layA_eq] at hr'
  obtain ⟨x,hx,hm⟩:=List.mem_flatMap.1 hr'
  obtain ⟨_,_,q1,q2⟩:=(h.lines x hx).s r.1 (lineRs_mem hm).1
  exact ⟨q1,q2⟩
 ·rw [rowsD,layA_eq]
  have h4:=flat_leB (fun x:Nat × Nat=>layL zT wT tab wd (runesAt s 0) (runP (runesAt s 0) (insA L) x.2 x.1 (hidSr F)) x.1 x.2) 100000000 _ fun x hx=>by
   rw [layL,lineRs_len];exact (h.lines x hx).q
  have h5:=h.ll
  have h6:100000000*(linesP (runesAt s 0) (hidSr F) 0).length≤100000000*301:=Nat.mul_le_mul_left _ h5
  omega
variable {ps:List (List Int)} {t:Option T}
abbrev vwV (s:ByteArray) (L:List Iy) (F:List Sn) (tab:Nat) (wd:Int) (t:Option T):V:= .d (vwD (ropeD t) (inlD (runesAt s 0).length (inlL (insA L))) (.sd 2 false ((hidSr F).map snD)) zT wT tab wd)
theorem lCheck_fn (h:OkD s L F tab wd) (R:Rp (runesAt s 0) ps t):OFn Tryz.prog G0 8 [vwV s L F tab wd t] [] 0 (iv 0) []:=by
 have r1:=sCheck_fn R (runesAt s 0).length (inlL (insA L)) (hidSr F) (by have:=h.hl;omega)
 rw [if_pos h.okT] at r1
 have ht:=h.tab0
 have hw:=h.wd0
 try unfold vwV at *
 try unfold txD at *
 generalize ropeD t=rp at *
 generalize inlD _ _=il at *
 refine vF mixed [0,1,2,3,8,27] Tryz.func8 rfl Tryz.results8 Tryz.ntmps8 ?_
 (refine' zm10o r1)
theorem lRows_fn (h:OkD s L F tab wd) (R:Rp (runesAt s 0) ps t):OFn Tryz.prog G0 7 [vwV s L F tab wd t] [] 0 (.tup [.d (.sd 7 false ((rowsD s L F tab wd).map rwD)),iv 0]) []:=by
 have r1:=lCheck_fn h R
 have hf:=h.hl
 have r2:=sAll_fn R (runesAt s 0).length (insA L) (by have:=h.gd.len;omega) (fun y hy=>⟨h.gd.at' y hy,h.gd.sz y hy⟩) (hidSr F) (by omega) h.okT
 have hg:=h.lay.len
 rw [rowsD,layA_eq] at hg ⊢
 have ht:=h.tab0
 have r3:=gath_fn (runesAt s 0) (insA L) (hidSr F) _ (by have:=h.ll;omega) (ropeD t) (inlD (runesAt s 0).length (inlL (insA L))) (.sd 2 false ((hidSr F).map snD)) zT wT tab wd _ (Nat.le_trans hg (by omega)) fun x hx=>
  lLine_all R h.rs (inlL (insA L)) (runesAt s 0).length zT_ok wT_ok (by omega) h.wd0 (h.lines x hx)
 try unfold vwV at *
 try unfold txD at *
 generalize ropeD t=rp at *
 generalize inlD _ _=il at *
 generalize (linesP (runesAt s 0) (hidSr F) 0).map _=Q1 at *
 generalize List.map rwD _=Q2 at *
 refine vF mixed [0,1,2,3,4,5,6,10] Tryz.func7 rfl Tryz.results7 Tryz.ntmps7 ?_
 (refine' zg2 r1 r2)
 refine CallW.frz 0 rfl ?_
 (refine' zo1 r3)
end
end Go.Proofs.YtkhonlnajdfhfaaGreatDoor
