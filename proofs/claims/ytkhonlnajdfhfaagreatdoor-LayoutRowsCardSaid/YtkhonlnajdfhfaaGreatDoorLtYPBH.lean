/- What the theorem leans on, part 34. -/
import Derived.Test.YtkhonlnajdfhfaaGreatDoorLtYPAZ
import Derived.Test.YtkhonlnajdfhfaaGreatDoorLtYPBD
set_option linter.unusedSimpArgs false
set_option linter.unusedVariables false
namespace Go.Proofs.YtkhonlnajdfhfaaGreatDoor
theorem flatL_add (acc:List Pz) (r:Int) (a:Nat):flatL (addP acc r a)=flatL acc++[(r,1,(a:Int))]:=by
 have hn:flatL (acc++[.tx 1 a [r]])=flatL acc++[(r,1,(a:Int))]:=by rw [flatL_app,flatL_one];rfl
 rcases List.eq_nil_or_concat acc with rfl|⟨pre,z,rfl⟩
 ·rfl
 ·rw [List.concat_eq_append] at hn ⊢
  cases z with
  | tx k p rs=>
   rw [addP_tx]
   split
   ·rename_i hk
    obtain ⟨rfl,h2⟩:=hk
    rw [flatL_app,flatL_one,flatL_app,flatL_one,flatP,flatP,if_pos rfl,flatT_snoc,List.append_assoc,Int.one_mul,h2]
   ·exact hn
  | fo p=>rw [addP_fo];exact hn
theorem flatL_inl (L:List Iy) (a:Nat) : ∀c∈flatL (inlP L a),c.2=(2,(a:Int)):=by
 unfold inlP
 induction inWi L a a with
 | nil=>intro c h;cases h
 | cons y t ih=>
  intro c h
  rw [List.map_cons,flatL] at h
  rcases List.mem_append.1 h with h|h
  ·rw [flatP,if_neg (by decide)] at h
   obtain ⟨h1,h2⟩:=flatT_mem _ _ c h
   exact Prod.ext h1 (h2 rfl)
  ·exact ih c h
structure FlG (l:List Int) (H:List Sn) (a e:Nat) (G:List (Int × Int × Int)):Prop where
 rise:G.Pairwise fun x y=>x.2.2≤y.2.2
 ins : ∀c∈G,(a:Int)≤c.2.2∧c.2.2≤e
 kd : ∀c∈G,(c.2.1=1∨c.2.1=2∨c.2.1=3)∧(c.2.1=1 → ∃k:Nat,c.2.2=k∧l[k]? = some c.1)
 vis:(G.filter fun c=>c.2.1==1).map (·.1)=visR l H (e - a) a
 ne:a<e→G≠[]
theorem FlG.pre {l:List Int} {H:List Sn} {a e:Nat} {G I:List (Int × Int × Int)} (g:FlG l H a e G) (hae:a≤e) (h : ∀c∈I,c.2=(2,(a:Int))):FlG l H a e (I++G):=by
 have hI:I.filter (fun c=>c.2.1==1)=[]:=List.filter_eq_nil_iff.2 fun c hc=>by rw [h c hc];simp
 refine ⟨List.pairwise_append.2 ⟨?_,g.rise,?_⟩,?_,?_,?_,?_⟩
 ·clear hI
  induction I with
  | nil=>exact .nil
  | cons x t ih=>exact .cons (fun y hy=>by rw [h x List.mem_cons_self,h y (List.mem_cons_of_mem _ hy)];exact Int.le_refl _) (ih fun c hc=>h c (List.mem_cons_of_mem _ hc))
 ·intro x hx y hy
  rw [h x hx];exact (g.ins y hy).1
 ·intro c hc
  rcases List.mem_append.1 hc with hc|hc
  ·rw [h c hc];exact ⟨Int.le_refl _,by show (a:Int)≤e;omega⟩
  ·exact g.ins c hc
 ·intro c hc
  rcases List.mem_append.1 hc with hc|hc
  ·rw [h c hc];exact ⟨.inr (.inl rfl),fun e=>by cases e⟩
  ·exact g.kd c hc
 ·rw [List.filter_append,hI];exact g.vis
 ·intro hae e
  rw [List.append_eq_nil_iff] at e
  exact g.ne hae e.2
theorem FlG.nil (l:List Int) (H:List Sn) (a:Nat):FlG l H a a []:=
 ⟨.nil,fun c h=>(nomatch h),fun c h=>(nomatch h),(by rw [Nat.sub_self];rfl),fun h=>absurd h (Nat.lt_irrefl _)⟩
theorem FlG.plain {l:List Int} {H:List Sn} {a e:Nat} {G:List (Int × Int × Int)} {r:Int} (g:FlG l H (a+1) e G) (hae:a+1≤e) (hr:l[a]? = some r) (hx:hidO H a=none):FlG l H a e ((r,1,(a:Int))::G):=by
 refine ⟨.cons (fun y hy =>?_) g.rise,fun c hc =>?_,fun c hc =>?_,?_,fun _ h=>by cases h⟩
 ·have:=g.ins y hy
  show (a:Int)≤y.2.2
  omega
 ·rcases List.mem_cons.1 hc with rfl|hc
  ·exact ⟨Int.le_refl _,by show (a:Int)≤e;omega⟩
  ·have:=g.ins c hc;omega
 ·rcases List.mem_cons.1 hc with rfl|hc
  ·exact ⟨.inl rfl,fun _=>⟨a,rfl,hr⟩⟩
  ·exact g.kd c hc
 ·rw [show e - a=(e - (a+1))+1 by omega,visR_one hr hx,←g.vis];rfl
theorem FlG.hid {l:List Int} {H:List Sn} {a k e:Nat} {G:List (Int × Int × Int)} (g:FlG l H k e G) (hak:a<k) (hke:k≤e) (hx : ∀j,a≤j→j<k→hidO H j≠none):FlG l H a e ((8230,3,(a:Int))::G):=by
 refine ⟨.cons (fun y hy =>?_) g.rise,fun c hc =>?_,fun c hc =>?_,?_,fun _ h=>by cases h⟩
 ·have:=g.ins y hy
  show (a:Int)≤y.2.2
  omega
 ·rcases List.mem_cons.1 hc with rfl|hc
  ·exact ⟨Int.le_refl _,by show (a:Int)≤e;omega⟩
  ·have:=g.ins c hc;omega
 ·rcases List.mem_cons.1 hc with rfl|hc
  ·exact ⟨.inr (.inr rfl),fun h=>by cases h⟩
  ·exact g.kd c hc
 ·rw [show e - a=(k - a)+(e - k) by omega,visR_app,visR_hid l H (k - a) a (fun j q1 q2=>hx j q1 (by omega)),show a+(k - a)=k by omega,←g.vis];rfl
theorem docA_fl {l:List Int} {L:List Iy} {H:List Sn} (hr:rgt l.length 0 H=true) : ∀(d a:Nat) (acc:List Pz),l.length - a≤d→a≤l.length → ∃G,flatL (docA l L H a acc).1=flatL acc++G∧FlG l H a (endP l H a) G
 | d,a,acc,hd,ha=>by
  by_cases h:a<l.length∧shB l H a=false
  ·obtain ⟨h1,h2⟩:=h
   obtain ⟨r,hr'⟩ : ∃r,l[a]? = some r:=⟨_,List.getElem?_eq_getElem h1⟩
   have e1:endP l H a=endP l H (a+1):=seekUp_step h1 h2
   cases hx:hidO H a with
   | none=>
    have he:=endP_in l H (i:=a+1) (by omega)
    obtain ⟨G,g1,g2⟩:=docA_fl hr (d - 1) (a+1) (addP (acc++inlP L a) r a) (by omega) (by omega)
    refine ⟨flatL (inlP L a)++((r,1,(a:Int))::G),?_,(g2.plain he.1 hr' hx|>fun z=>by rw [e1];exact z.pre (by omega) (flatL_inl L a))⟩
    rw [docA_plain hr' h2 hx,g1,flatL_add,flatL_app,List.append_assoc,List.append_assoc]
    rfl
   | some x=>
    obtain ⟨q1,q2,q3⟩:=hidO_some hx
    have q4:=rgt_mem hr x q1
    obtain ⟨k,hk⟩ : ∃k:Nat,x.2=k:=⟨x.2.toNat,by omega⟩
    have he:=endP_in l H (i:=k) (by omega)
    have e2:endP l H a=endP l H k:=seekUp_to _ _ _ _ (by omega) (by omega) fun j q1' q2'=>shB_hid hr q1 (by omega) (by omega)
    obtain ⟨G,g1,g2⟩:=docA_fl hr (d - 1) k (acc++inlP L a++[.fo a]) (by omega) (by omega)
    refine ⟨flatL (inlP L a)++((8230,3,(a:Int))::G),?_,?_⟩
    ·rw [docA_hid h1 h2 hx hk (by omega),g1,flatL_app,flatL_app,flatL_one,flatP,List.append_assoc,List.append_assoc]
     rfl
    ·rw [e2]
     exact (g2.hid (by omega) he.1 fun j p1 p2 e=>by
      have:=hidO_is hr x q1 j (by omega) (by omega)
      rw [this] at e;cases e).pre (by omega) (flatL_inl L a)
  ·have e:endP l H a=a:=by
    by_cases h1:a<l.length
    ·have:shB l H a=true:=by
      cases hb:shB l H a with
      | true=>rfl
      | false=>exact (h ⟨h1,hb⟩).elim
     exact seekUp_at h1 this
    ·have:a=l.length:=by omega
     subst this
     exact seekUp_end _ _ _ (Nat.le_refl _)
   refine ⟨flatL (inlP L a)++[],?_,?_⟩
   ·rw [docA_end h,flatL_app,List.append_nil]
   ·rw [e];exact (FlG.nil l H a).pre (Nat.le_refl _) (flatL_inl L a)
 termination_by d=>d
 decreasing_by all_goals omega
theorem runP_fl {l:List Int} {L:List Iy} {H:List Sn} (hso:SoI L) (hr:rgt l.length 0 H=true) {a:Nat} (ha:a≤l.length) (hb:a=0∨shB l H (a - 1)=true):FlG l H a (endP l H a) (flatL (runP l L (endP l H a) a H)):=by
 obtain ⟨G,g1,g2⟩:=docA_fl (L:=L) hr _ a [] (Nat.le_refl _) ha
 rw [docA_is hso hr ha (beg_in hb hr)] at g1
 rw [g1];exact g2
structure CellG (l:List Int) (H:List Sn) (a e:Nat) (C:List Cl):Prop where
 rise:C.Pairwise fun x y=>x.2.2.2≤y.2.2.2
 ins : ∀c∈C,(a:Int)≤c.2.2.2∧c.2.2.2≤e
 kd : ∀c∈C,c.2.1≠5∧cw c≤2∧(c.2.1=1 → ∃k:Nat,c.2.2.2=k∧l[k]? = some c.1)
 vis:(C.filter fun c=>c.2.1==1).map (·.1)=visR l H (e - a) a
 ne:a<e→C≠[]
theorem cell1_mem {x:Int × Int × Int} {s:Nat} {c:Cl} (h:c∈cell1 x s):c.2.2.2=x.2.2∧((c.2.1=x.2.1∧c.1=x.1∧cw c=if x.1=9 then 1 else s)∨(c.2.1=4∧cw c=1)):=by
 rcases List.mem_cons.1 h with rfl|h
 ·exact ⟨rfl,.inl ⟨rfl,rfl,rfl⟩⟩
 ·rw [(List.mem_replicate.1 h).2];exact ⟨rfl,.inr ⟨rfl,rfl⟩⟩
theorem cell1_fil (x:Int × Int × Int) (s:Nat):((cell1 x s).filter fun c=>c.2.1==1).map (·.1)=if x.2.1=1 then [x.1] else []:=by
 have h2 : ∀n,(List.replicate n ((32,4,1,x.2.2):Cl)).filter (fun c=>c.2.1==1)=[]:=fun n=>List.filter_eq_nil_iff.2 fun c hc=>by rw [(List.mem_replicate.1 hc).2];simp
 rw [cell1,List.filter_cons,h2]
 by_cases h:x.2.1=1
 ·rw [if_pos h,if_pos (by simpa using h)];rfl
 ·rw [if_neg h,if_neg (by simpa using h)];rfl
section
variable {z w:List (Int × Int)} {tab:Nat}
theorem cellsR_mem : ∀(G:List (Int × Int × Int)) (n:Nat) (c:Cl),c∈cellsR z w tab n G → ∃x∈G,∃m,c∈cell1 x (tbT z w tab m x.1)
 | [],_,c,h=>by cases h
 | x::t,n,c,h=>by
  rw [cellsR] at h
  rcases List.mem_append.1 h with h|h
  ·exact ⟨x,List.mem_cons_self,n,h⟩
  ·obtain ⟨y,hy,m,hm⟩:=cellsR_mem t _ c h
   exact ⟨y,List.mem_cons_of_mem _ hy,m,hm⟩
theorem cellsR_rise : ∀(G:List (Int × Int × Int)) (n:Nat),(G.Pairwise fun x y=>x.2.2≤y.2.2)→(cellsR z w tab n G).Pairwise fun x y=>x.2.2.2≤y.2.2.2
 | [],_,_=> .nil
 | x::t,n,h=>by
  obtain ⟨h1,h2⟩:=List.pairwise_cons.1 h
  rw [cellsR]
  refine List.pairwise_append.2 ⟨?_,cellsR_rise t _ h2,?_⟩
  ·refine List.pairwise_of_forall_mem_list fun a ha b hb =>?_
   rw [(cell1_mem ha).1,(cell1_mem hb).1];exact Int.le_refl _
  ·intro a ha b hb
   obtain ⟨y,hy,m,hm⟩:=cellsR_mem t _ b hb
   rw [(cell1_mem ha).1,(cell1_mem hm).1];exact h1 y hy
theorem cellsR_fil : ∀(G:List (Int × Int × Int)) (n:Nat),((cellsR z w tab n G).filter fun c=>c.2.1==1).map (·.1)=(G.filter fun c=>c.2.1==1).map (·.1)
 | [],_=>rfl
 | x::t,n=>by
  rw [cellsR,List.filter_append,List.map_append,cell1_fil,cellsR_fil t,List.filter_cons]
  by_cases h:x.2.1=1
  ·rw [if_pos h,if_pos (by simpa using h)];rfl
  ·rw [if_neg h,if_neg (by simpa using h)];rfl
theorem FlG.cells {l:List Int} {H:List Sn} {a e:Nat} {G:List (Int × Int × Int)} (g:FlG l H a e G) (n:Nat):CellG l H a e (cellsR z w tab n G):=by
 refine ⟨cellsR_rise G n g.rise,fun c hc =>?_,fun c hc =>?_,by rw [cellsR_fil];exact g.vis,fun h h2 =>?_⟩
 ·obtain ⟨x,hx,m,hm⟩:=cellsR_mem G n c hc
  rw [(cell1_mem hm).1];exact g.ins x hx
 ·obtain ⟨x,hx,m,hm⟩:=cellsR_mem G n c hc
  obtain ⟨h1,h2⟩:=cell1_mem hm
  obtain ⟨k1,k2⟩:=g.kd x hx
  rcases h2 with ⟨q1,q2,q3⟩|⟨q1,q2⟩
  ·refine ⟨by rw [q1];omega,?_,fun e =>?_⟩
   ·rw [q3];split
    ·omega
    ·rename_i h9;rw [tbT,if_neg h9];exact wOf_le z w _
   ·rw [h1,q2];exact k2 (q1▸e)
  ·exact ⟨by rw [q1];decide,by omega,fun e=>by rw [q1] at e;cases e⟩
 ·have:=g.ne h
  cases G with
  | nil=>exact this rfl
  | cons x t=>rw [cellsR,cell1] at h2;cases h2
end
abbrev Rw:=List Cl × Int × Int × Nat × Bool × Bool × Nat
def brkA (l:List Int) (a:Int):Nat:=brkN (l.take a.toNat)
def nxtS (fr to:Int):List (List Cl)→Int
 | []=>to
 | r::_=>rowSt fr r
def lineRs (l:List Int) (fr to:Int):Bool→List (List Cl)→List Rw
 | _,[]=>[]
 | b,r::t=>(r,rowSt fr r,nxtS fr to t,brkA l (rowSt fr r),b,fold3 r,wid r)::lineRs l fr to true t
def layL (z w:List (Int × Int)) (tab:Nat) (wd:Int) (l:List Int) (ps:List Pz) (fr to:Int):List Rw:=lineRs l fr to false (rowsN (cellsR z w tab 0 (flatL ps)) wd)
theorem lineRs_len (l:List Int) (fr to:Int) : ∀(b:Bool) (r:List (List Cl)),(lineRs l fr to b r).length=r.length
 | _,[]=>rfl
 | _,r::t=>by rw [lineRs,List.length_cons,List.length_cons,lineRs_len l fr to true t]
theorem rowSt_cons {fr:Int} {c:Cl} {r:List Cl} (h:c.2.1≠5):rowSt fr (c::r)=c.2.2.2:=by
 rw [rowSt,List.find?_cons_of_pos (by simpa using h)]
theorem rowSt_beh {fr:Int} {c:Cl} {r:List Cl} (n:Nat) (h:c.2.1≠5):rowSt fr (behN n (c::r))=c.2.2.2:=by
 rw [behN]
 induction n with
 | zero=>exact rowSt_cons h
 | succ n ih=>rw [List.replicate_succ,List.cons_append,rowSt,List.find?_cons_of_neg (by simp)];exact ih
theorem beh_ne (n:Nat) {r:List Cl} (h:r≠[]):behN n r≠[]:=by
 cases r with
 | nil=>exact (h rfl).elim
 | cons c t=>rw [behN];simp
theorem brkA_mono (l:List Int) {a b:Int} (h:a≤b):brkA l a≤brkA l b:=by
 unfold brkA brkN
 have e:l.take b.toNat=l.take a.toNat++(l.take b.toNat).drop a.toNat:=by
  have:=(List.take_append_drop a.toNat (l.take b.toNat)).symm
  rwa [List.take_take,Nat.min_eq_left (by omega)] at this
 rw [e,List.filter_append,List.length_append];omega
def chnR (l:List Int) (e:Int):Int→List Rw→Prop
 | s,[]=>s=e
 | s,r::t=>r.2.1=s∧r.2.1≤r.2.2.1∧r.2.2.1≤e∧r.2.2.2.1=brkA l r.2.1∧r.2.2.2.2.1=true∧r.1≠[]∧chnR l e r.2.2.1 t
theorem chn_rest (l:List Int) {fr e:Int} (h:Nat) : ∀(ps:List (List Cl)) (lo:Int),(∀p∈ps,p≠[])→(ps.flatten.Pairwise fun x y=>x.2.2.2≤y.2.2.2)→(∀c∈ps.flatten,lo≤c.2.2.2∧c.2.2.2≤e∧c.2.1≠5) →
 lo≤e→chnR l e (nxtS fr e (ps.map (behN h))) (lineRs l fr e true (ps.map (behN h)))∧lo≤nxtS fr e (ps.map (behN h))∧nxtS fr e (ps.map (behN h))≤e
 | [],lo,_,_,_,hle=>⟨rfl,hle,Int.le_refl _⟩
 | p::t,lo,hne,hp,hin,hle=>by
  obtain ⟨c,r,rfl⟩:=List.exists_cons_of_ne_nil (hne p List.mem_cons_self)
  rw [List.flatten_cons] at hp hin
  obtain ⟨p1,p2,p3⟩:=List.pairwise_append.1 hp
  have hc:=hin c (by simp)
  obtain ⟨g1,g2,g3⟩:=chn_rest l h t c.2.2.2 (fun q hq=>hne q (List.mem_cons_of_mem _ hq)) p2 (fun x hx=>⟨p3 c List.mem_cons_self x hx,(hin x (List.mem_append.2 (.inr hx))).2⟩) hc.2.1
  rw [List.map_cons,lineRs,nxtS,rowSt_beh h hc.2.2]
  exact ⟨⟨rfl,g2,g3,rfl,rfl,beh_ne h (List.cons_ne_nil _ _),g1⟩,hc.1,hc.2.1⟩
theorem line_rows {l:List Int} {H:List Sn} {a e:Nat} {C:List Cl} (g:CellG l H a e C) (hae:a≤e) (wd:Int) :
 ∃r t,lineRs l a e false (rowsN C wd)=r::t∧(a:Int)≤r.2.1∧r.2.1≤r.2.2.1∧r.2.2.1≤e∧r.2.2.2.1=brkA l r.2.1∧r.2.2.2.2.1=false∧chnR l e r.2.2.1 t∧(r.1=[]→r.2.1=r.2.2.1):=by
 have hcut:=takes_cut C wd
 obtain ⟨p,q,hpq⟩ : ∃p q,cutN C (takesL C wd)=p::q:=by
  unfold takesL;split
  ·exact ⟨_,_,rfl⟩
  ·rw [allN,cutN];exact ⟨_,_,rfl⟩
 have hq : ∀x∈q,x≠[]:=by
  unfold takesL at hpq;split at hpq
  ·simp only [cutN,List.cons.injEq] at hpq
   rw [←hpq.2];intro x hx;cases hx
  ·rw [allN,cutN,List.cons.injEq] at hpq
   rw [←hpq.2];exact rest_ne _ _
 have hp0:p=[]→C=[]:=by
  intro hp
  by_cases hC:C=[]
  ·exact hC
  ·exfalso
   unfold takesL at hpq;split at hpq
   ·simp only [cutN,List.cons.injEq,List.take_length] at hpq
    exact hC (hpq.1.trans hp)
   ·rw [allN,cutN,List.cons.injEq] at hpq
    have:=(startN_fit wd hC).1
    have h2:=List.length_pos_iff.2 hC
    have h3:=congrArg List.length (hpq.1.trans hp)
    rw [List.length_take,List.length_nil] at h3
    omega
 rw [hpq,List.flatten_cons] at hcut
 have hr:rowsN C wd=p::q.map (behN (hang C wd)):=by rw [rowsN,hpq]
 rw [hr,lineRs]
 have hrise:=g.rise
 rw [←hcut] at hrise
 obtain ⟨p1,p2,p3⟩:=List.pairwise_append.1 hrise
 have hin : ∀c∈p++q.flatten,(a:Int)≤c.2.2.2∧c.2.2.2≤e∧c.2.1≠5:=fun c hc=>by
  rw [hcut] at hc
  exact ⟨(g.ins c hc).1,(g.ins c hc).2,(g.kd c hc).1⟩
 refine ⟨_,_,rfl,?_⟩
 rcases p with _|⟨c,r⟩
 ·have hC:=hp0 rfl
  rw [hC] at hcut
  have hq0:q=[]:=by
   cases q with
   | nil=>rfl
   | cons x t=>
    exfalso
    have:=hq x List.mem_cons_self
    have h2:x=[]:=by simp at hcut;exact hcut.1
    exact this h2
  subst hq0
  have hea:e=a:=by
   by_cases h:a<e
   ·exact (g.ne h hC).elim
   ·omega
  subst hea
  exact ⟨Int.le_refl _,Int.le_refl _,Int.le_refl _,rfl,rfl,rfl,fun _=>rfl⟩
 ·have hc:=hin c (by simp)
  obtain ⟨g1,g2,g3⟩:=chn_rest l (fr:=a) (e:=e) (hang C wd) q c.2.2.2 hq p2 (fun x hx=>⟨p3 c List.mem_cons_self x hx,(hin x (List.mem_append.2 (.inr hx))).2⟩) hc.2.1
  rw [rowSt_cons hc.2.2]
  exact ⟨hc.1,g2,g3,rfl,rfl,g1,fun h=>nomatch h⟩
def rwQ (l:List Int) (r:Rw):Prop:=0≤r.2.1∧r.2.1≤r.2.2.1∧r.2.2.1≤l.length∧r.2.2.2.1=brkA l r.2.1∧(r.1=[]→r.2.2.2.2.1=false∧r.2.1=r.2.2.1)
def rwP (l:List Int) (r n:Rw):Prop:=r.2.1≤n.2.1∧r.2.2.2.1≤n.2.2.2.1∧(n.2.2.2.2.1=true→n.2.1=r.2.2.1)∧(n.2.2.2.2.1=false → ∃k:Nat,r.2.2.1=k∧l[k]? = some 10)
def okRs (l:List Int):List Rw→Prop
 | []=>False
 | [r]=>rwQ l r∧r.2.2.1=l.length
 | r::n::t=>rwQ l r∧rwP l r n∧okRs l (n::t)
theorem chn_ok {l:List Int} {e:Nat} (he:e≤l.length) {S:List Rw} (hS:(S=[]∧e=l.length)∨(∃n T,S=n::T∧okRs l S∧n.2.2.2.2.1=false∧(e:Int)≤n.2.1∧n.2.2.2.1=brkA l n.2.1∧l[e]? = some 10)) :
 ∀(t:List Rw) (r:Rw),rwQ l r→chnR l e r.2.2.1 t→okRs l (r::t++S)
 | [],r,hq,hc=>by
  have hc:r.2.2.1=e:=hc
  rcases hS with ⟨rfl,h⟩|⟨n,T,rfl,h1,h2,h3,h4,h5⟩
  ·exact ⟨hq,by rw [hc,h]⟩
  ·obtain ⟨q1,q2,q3,q4,q5⟩:=hq
   exact ⟨⟨q1,q2,q3,q4,q5⟩,⟨by omega,by rw [q4,h4];exact brkA_mono l (by omega),fun h=>(by rw [h2] at h;exact nomatch h),fun _=>⟨e,hc,h5⟩⟩,h1⟩
 | x::t,r,hq,hc=>by
  obtain ⟨c1,c2,c3,c4,c5,c6,c7⟩:=hc
  obtain ⟨q1,q2,q3,q4,q5⟩:=hq
  exact ⟨⟨q1,q2,q3,q4,q5⟩,⟨by omega,by rw [q4,c4];exact brkA_mono l (by omega),fun _=>c1,fun h=>(by rw [c5] at h;exact nomatch h)⟩,
   chn_ok he hS t x ⟨by omega,c2,by omega,c4,fun h=>(c6 h).elim⟩ c7⟩
def layA (z w:List (Int × Int)) (tab:Nat) (wd:Int) (l:List Int) (L:List Iy) (H:List Sn):List (Nat × Nat)→List Rw
 | []=>[]
 | x::r=>layL z w tab wd l (runP l L x.2 x.1 H) x.1 x.2++layA z w tab wd l L H r
section
variable {z w:List (Int × Int)} {tab:Nat} {wd:Int} {l:List Int} {L:List Iy} {H:List Sn}
theorem lay_ok (hso:SoI L) (hr:rgt l.length 0 H=true) : ∀(d a:Nat),l.length - a≤d→a≤l.length→(a=0∨shB l H (a - 1)=true) →
 okRs l (layA z w tab wd l L H (linesP l H a)) ∧ ∃n T,layA z w tab wd l L H (linesP l H a)=n::T∧n.2.2.2.2.1=false∧(a:Int)≤n.2.1∧n.2.2.2.1=brkA l n.2.1
 | d,a,hd,ha,hb=>by
  have he:=endP_in l H ha
  obtain ⟨r,t,hrt,h1,h2,h3,h4,h5,h6,h7⟩:=line_rows ((runP_fl (L:=L) hso hr ha hb).cells (z:=z) (w:=w) (tab:=tab) 0) he.1 wd
  have hq:rwQ l r:=⟨by omega,h2,by omega,h4,fun e=>⟨h5,h7 e⟩⟩
  rw [linesP,layA,layL,hrt]
  refine ⟨chn_ok he.2 ?_ t r hq h6,r,t++_,rfl,h5,h1,h4⟩
  by_cases hlt:endP l H a<l.length
  ·have hsh:=endP_sh l H ha hlt
   obtain ⟨h10,hno⟩:=shB_iff.1 hsh
   rw [dif_pos ⟨hlt,he.1⟩]
   obtain ⟨g1,n,T,g2,g3,g4,g5⟩:=lay_ok hso hr (d - 1) (endP l H a+1) (by omega) hlt (.inr hsh)
   exact .inr ⟨n,T,g2,g1,g3,by omega,g5,h10⟩
  ·rw [dif_neg (by omega)]
   exact .inl ⟨rfl,by omega⟩
 termination_by d=>d
 decreasing_by all_goals omega
theorem rows_mem {C:List Cl} {r:List Cl} (h:r∈rowsN C wd) : ∀c∈r,c∈C∨c.2.1=5:=by
 have hcut:=takes_cut C wd
 rw [rowsN] at h
 rcases hpq:cutN C (takesL C wd) with _|⟨p,q⟩
 ·rw [hpq] at h;cases h
 ·rw [hpq] at h hcut
  rw [List.flatten_cons] at hcut
  rcases List.mem_cons.1 h with rfl|h
  ·exact fun c hc=> .inl (by rw [←hcut];exact List.mem_append.2 (.inl hc))
  ·obtain ⟨x,hx,rfl⟩:=List.mem_map.1 h
   intro c hc
   cases x with
   | nil=>cases hc
   | cons y t=>
    rw [behN] at hc
    rcases List.mem_append.1 hc with hc|hc
    ·rw [(List.mem_replicate.1 hc).2];exact .inr rfl
    ·exact .inl (by rw [←hcut];exact List.mem_append.2 (.inr (List.mem_flatten.2 ⟨_,hx,hc⟩)))
theorem lineRs_mem {fr to:Int} : ∀ {b:Bool} {q:List (List Cl)} {r:Rw},r∈lineRs l fr to b q→r.1∈q∧r.2.2.2.2.2.2=wid r.1
 | _,[],_,h=>by cases h
 | _,x::t,r,h=>by
  rw [lineRs] at h
  rcases List.mem_cons.1 h with rfl|h
  ·exact ⟨List.mem_cons_self,rfl⟩
  ·obtain ⟨h1,h2⟩:=lineRs_mem h
   exact ⟨List.mem_cons_of_mem _ h1,h2⟩
theorem lay_mem (hso:SoI L) (hr:rgt l.length 0 H=true) : ∀(d a:Nat),l.length - a≤d→a≤l.length→(a=0∨shB l H (a - 1)=true) → ∀r∈layA z w tab wd l L H (linesP l H a),
 r.2.2.2.2.2.2=wid r.1∧(2≤wd→(wid r.1:Int)≤wd) ∧ ∀c∈r.1,c.2.1=1 → ∃k:Nat,c.2.2.2=k∧l[k]? = some c.1
 | d,a,hd,ha,hb,r,h=>by
  have he:=endP_in l H ha
  have hC:=(runP_fl (L:=L) hso hr ha hb).cells (z:=z) (w:=w) (tab:=tab) 0
  rw [linesP,layA] at h
  rcases List.mem_append.1 h with h|h
  ·obtain ⟨h1,h2⟩:=lineRs_mem h
   refine ⟨h2,fun hw=>rows_wid hw (fun c hc=>(hC.kd c hc).2.1) _ h1,fun c hc hk =>?_⟩
   rcases rows_mem h1 c hc with q|q
   ·exact (hC.kd c q).2.2 hk
   ·rw [q] at hk;cases hk
  ·by_cases hlt:endP l H a<l.length
   ·rw [dif_pos ⟨hlt,he.1⟩] at h
    exact lay_mem hso hr (d - 1) (endP l H a+1) (by omega) hlt (.inr (endP_sh l H ha hlt)) r h
   ·rw [dif_neg (by omega)] at h;cases h
 termination_by d=>d
 decreasing_by all_goals omega
end
def inlB (L:List Iy):Nat:=(L.map fun y=>(runesAt y.2.2.2.2 0).length).sum
theorem flatL_inl_len (L:List Iy) (a:Nat):(flatL (inlP L a)).length≤inlB L:=by
 unfold inlP inWi inlB
 induction L with
 | nil=>exact Nat.zero_le _
 | cons y t ih=>
  rw [List.filter_cons,List.map_cons,List.sum_cons]
  split
  ·rw [List.map_cons,flatL,List.length_append,flatP,flatT_len]
   omega
  ·omega
theorem docA_len {l:List Int} {L:List Iy} {H:List Sn} : ∀(d a:Nat) (acc:List Pz),l.length - a≤d→a≤l.length→(flatL (docA l L H a acc).1).length≤(flatL acc).length+(inlB L+1)*(l.length - a+1)
 | d,a,acc,hd,ha=>by
  have h0:=flatL_inl_len L a
  by_cases h:a<l.length∧shB l H a=false
  ·obtain ⟨h1,h2⟩:=h
   obtain ⟨r,hr'⟩ : ∃r,l[a]? = some r:=⟨_,List.getElem?_eq_getElem h1⟩
   cases hx:hidO H a with
   | none=>
    have g:=docA_len (l:=l) (L:=L) (H:=H) (d - 1) (a+1) (addP (acc++inlP L a) r a) (by omega) (by omega)
    rw [docA_plain hr' h2 hx]
    rw [flatL_add,flatL_app,List.length_append,List.length_append,List.length_singleton] at g
    have e:(inlB L+1)*(l.length - a+1)=(inlB L+1)*(l.length - (a+1)+1)+(inlB L+1):=by
     rw [←Nat.mul_succ];congr 1;omega
    omega
   | some x=>
    by_cases h3:a<x.2.toNat
    ·by_cases h4:x.2.toNat≤l.length
     ·have g:=docA_len (l:=l) (L:=L) (H:=H) (d - 1) x.2.toNat (acc++inlP L a++[.fo a]) (by omega) h4
      rw [docA_hid h1 h2 hx (k:=x.2.toNat) (by omega) h3]
      rw [flatL_app,flatL_app,flatL_one,flatP,List.length_append,List.length_append,List.length_singleton] at g
      have e:(inlB L+1)*(l.length - x.2.toNat+1)+(inlB L+1)≤(inlB L+1)*(l.length - a+1):=by
       rw [←Nat.mul_succ];exact Nat.mul_le_mul_left _ (by omega)
      omega
     ·rw [docA_hid h1 h2 hx (k:=x.2.toNat) (by omega) h3,docA_end (by omega),flatL_app,flatL_app,flatL_app,flatL_one,flatP,List.length_append,List.length_append,List.length_append,List.length_singleton]
      have:=flatL_inl_len L x.2.toNat
      have e:(inlB L+1)*2≤(inlB L+1)*(l.length - a+1):=Nat.mul_le_mul_left _ (by omega)
      omega
    ·rw [docA,dif_pos ⟨h1,h2⟩]
     simp only [hx]
     rw [dif_neg h3,flatL_app,List.length_append]
     have e:(inlB L+1)*1≤(inlB L+1)*(l.length - a+1):=Nat.mul_le_mul_left _ (by omega)
     omega
  ·rw [docA_end h,flatL_app,List.length_append]
   have e:(inlB L+1)*1≤(inlB L+1)*(l.length - a+1):=Nat.mul_le_mul_left _ (by omega)
   omega
 termination_by d=>d
 decreasing_by all_goals omega
theorem runP_len {l:List Int} {L:List Iy} {H:List Sn} (hso:SoI L) (hr:rgt l.length 0 H=true) {a:Nat} (ha:a≤l.length) (hb:a=0∨shB l H (a - 1)=true):(flatL (runP l L (endP l H a) a H)).length≤(inlB L+1)*(l.length+1):=by
 have g:=docA_len (l:=l) (L:=L) (H:=H) _ a [] (Nat.le_refl _) ha
 rw [docA_is hso hr ha (beg_in hb hr)] at g
 refine Nat.le_trans g ?_
 rw [flatL,List.length_nil,Nat.zero_add]
 exact Nat.mul_le_mul_left _ (by omega)
theorem cellsR_len {z w:List (Int × Int)} {tab:Nat} (h1:1≤tab) (h2:tab≤16) : ∀(G:List (Int × Int × Int)) (n:Nat),(cellsR z w tab n G).length≤16*G.length
 | [],_=>Nat.le_refl _
 | x::t,n=>by
  have:=cellsR_len (z:=z) (w:=w) h1 h2 t (n+tbT z w tab n x.1)
  have h3:=tbT_le (z:=z) (w:=w) (a:=n) (r:=x.1) h1 h2
  rw [cellsR,List.length_append,cell1,List.length_cons,List.length_replicate,List.length_cons]
  split<;>omega
end Go.Proofs.YtkhonlnajdfhfaaGreatDoor
