/- What the theorem leans on, part 34. -/
import Derived.Test.YtkkanlcjjpoklaaGreatDoorStUPBG
set_option linter.unusedSimpArgs false
set_option linter.unusedVariables false
set_option maxRecDepth 8000
namespace Go.Proofs.YtkkanlcjjpoklaaGreatDoor
theorem mD (z w:List (Int × Int)) (tab:Nat) (wd:Int) (l:List Int) (L:List Iy) (H:List Sn) : ∀Ls:List (Nat × Nat),xz z w tab wd l L H Ls=Ls.flatMap fun x=>rH z w tab wd l (b4 l L x.2 x.1 H) x.1 x.2
 | []=>rfl
 | x::r=>by rw [xz,mD z w tab wd l L H r,List.flatMap_cons]
theorem zp {α β:Type} (F:α→List β) (B:Nat) : ∀L:List α,(∀y∈L,(F y).length≤B)→(L.flatMap F).length≤B*L.length
 | [],_=>Nat.le_refl _
 | y::t,h=>by
  have h1:=zp F B t fun x hx=>h x (List.mem_cons_of_mem _ hx)
  have h2:=h y List.mem_cons_self;rw [List.flatMap_cons,List.length_append,List.length_cons,Nat.mul_succ];omega
structure QZ (l:List Int) (wd:Int) (A:List Rw):Prop where
 ok:JU l A
 nw : ∃n T,A=n::T∧n.2.2.2.2.1=false
 mem : ∀r∈A,r.2.2.2.2.2.2=cZ r.1∧(2≤wd→(cZ r.1:Int)≤wd) ∧ ∀c∈r.1,c.2.1=1 → ∃k:Nat,c.2.2.2=k∧l[k]? = some c.1
 cel : ∀r∈A,r.1.length≤100000000 ∧ ∀c∈r.1,cw c≤2
 len:A.length≤100000000000
section
variable {s:ByteArray} {L:List Iy} {F:List Sn} {tab:Nat} {wd:Int}
theorem gM.lines (h:gM s L F tab wd) : ∀x∈aW (aa s 0) (aD F) 0,T5 zT wT tab wd (aa s 0) (aS L) (aD F) x:=fun x hx=>by
 obtain ⟨h1,h2,h3⟩:=fE (aa s 0) (aD F) _ 0 (Nat.le_refl _) (Nat.zero_le _) (.inl rfl) x hx;have ht:=h.tab0;exact Jy h.gd h.rs (gy h.okT).1 zT wT (by omega) wd h1 h2 h3
theorem gM.ll (h:gM s L F tab wd):(aW (aa s 0) (aD F) 0).length≤301:=by
 have:=lC (aa s 0) (aD F) 0 (Nat.zero_le _);have:=h.rs;omega
theorem gM.hl (h:gM s L F tab wd):(aD F).length≤60:=by
 have:=Mk F;have:=h.f0;show (hP (d6 F)).length≤60;omega
abbrev ik (s:ByteArray) (L:List Iy) (F:List Sn) (tab:Nat) (wd:Int):List Rw:=xz zT wT tab wd (aa s 0) (aS L) (aD F) (aW (aa s 0) (aD F) 0)
theorem gM.lay (h:gM s L F tab wd):QZ (aa s 0) wd (ik s L F tab wd):=by
 have hr:=(gy h.okT).1;obtain ⟨h1,n,T,h2,h3,_⟩:=Jv (z:=zT) (w:=wT) (tab:=tab) (wd:=wd) (L:=aS L) h.gd.so hr _ 0 (Nat.le_refl _) (Nat.zero_le _) (.inl rfl);refine ⟨h1,⟨n,T,h2,h3⟩,Ei h.gd.so hr _ 0 (Nat.le_refl _) (Nat.zero_le _) (.inl rfl),fun r hr' =>?_,?_⟩
 ·rw [ik,mD] at hr';obtain ⟨x,hx,hm⟩:=List.mem_flatMap.1 hr';obtain ⟨_,_,q1,q2⟩:=(h.lines x hx).s r.1 (lB hm).1;exact ⟨q1,q2⟩
 ·rw [ik,mD];have h4:=zp (fun x:Nat × Nat=>rH zT wT tab wd (aa s 0) (b4 (aa s 0) (aS L) x.2 x.1 (aD F)) x.1 x.2) 100000000 _ fun x hx=>by
   rw [rH,eG];exact (h.lines x hx).q
  have h5:=h.ll;have h6:100000000*(aW (aa s 0) (aD F) 0).length≤100000000*301:=Nat.mul_le_mul_left _ h5;omega
variable {ps:List (List Int)} {t:Option T}
abbrev Dx (s:ByteArray) (L:List Iy) (F:List Sn) (tab:Nat) (wd:Int) (t:Option T):V:= .d (Qv (bd t) (cg (aa s 0).length (bO (aS L))) (.sd 2 false ((aD F).map bA)) zT wT tab wd)
theorem Gc (h:gM s L F tab wd) (R:Rp (aa s 0) ps t):an Tryz.prog G0 107 [Dx s L F tab wd t] [] 0 (iv 0) []:=by
 have r1:=oe R (aa s 0).length (bO (aS L)) (aD F) (by have:=h.hl;omega);rw [if_pos h.okT] at r1;have ht:=h.tab0;have hw:=h.wd0;try unfold Dx at *
 try unfold wF at *
 generalize bd t=rp at *
 generalize cg _ _=il at *
 refine vF ab [0,1,2,3,8,27] Tryz.func107 rfl Tryz.results107 Tryz.ntmps107 ?_;(refine' BE r1)
theorem Gd (h:gM s L F tab wd) (R:Rp (aa s 0) ps t) (x:Nat × Nat) (hx:x∈aW (aa s 0) (aD F) 0) :
 an Tryz.prog G0 53 [Dx s L F tab wd t,.d (nS (aa s 0) (aS L) (aD F) x)] [] 0 (.tup [.d (.sd 7 false ((rH zT wT tab wd (aa s 0) (b4 (aa s 0) (aS L) x.2 x.1 (aD F)) x.1 x.2).map kA)),iv 0]) []:=by
 have r1:=Gc h R;have ht:=h.tab0;have r2:=Ge R h.rs (bO (aS L)) (aa s 0).length Ot Oq (by omega) h.wd0 (h.lines x hx);simp only [nS] at r2 ⊢;try unfold Dx at *
 try unfold wF at *
 generalize bd t=rp at *
 generalize cg _ _=il at *
 generalize List.map kA _=Q2 at *
 refine vF ab [0,1,2,3,4,5,6,10] Tryz.func53 rfl Tryz.results53 Tryz.ntmps53 ?_;(refine' tJ r1 r2)
end
end Go.Proofs.YtkkanlcjjpoklaaGreatDoor
