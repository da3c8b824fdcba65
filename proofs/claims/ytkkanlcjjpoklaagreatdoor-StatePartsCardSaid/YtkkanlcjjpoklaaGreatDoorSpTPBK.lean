/- What the theorem leans on, part 37. -/
import Derived.Test.YtkkanlcjjpoklaaGreatDoorSpTPBJ
set_option linter.unusedSimpArgs false
set_option linter.unusedVariables false
set_option maxRecDepth 8000
namespace Go.Proofs.YtkkanlcjjpoklaaGreatDoor
theorem te (z w:List (Int × Int)) (tab:Nat) (wd:Int) (l:List Int) (L:List Iy) (H:List Sn) : ∀Ls:List (Nat × Nat),td z w tab wd l L H Ls=Ls.flatMap fun x=>DJ z w tab wd l (bQ l L x.2 x.1 H) x.1 x.2
 | []=>rfl
 | x::r=>by rw [td,te z w tab wd l L H r,List.flatMap_cons]
theorem uL {α β:Type} (F:α→List β) (B:Nat) : ∀L:List α,(∀y∈L,(F y).length≤B)→(L.flatMap F).length≤B*L.length
 | [],_=>Nat.le_refl _
 | y::t,h=>by
  have h1:=uL F B t fun x hx=>h x (List.mem_cons_of_mem _ hx)
  have h2:=h y List.mem_cons_self;rw [List.flatMap_cons,List.length_append,List.length_cons,Nat.mul_succ];omega
structure KA (l:List Int) (wd:Int) (A:List Rw):Prop where
 ok:D2 l A
 nw : ∃n T,A=n::T∧n.2.2.2.2.1=false
 mem : ∀r∈A,r.2.2.2.2.2.2=dK r.1∧(2≤wd→(dK r.1:Int)≤wd) ∧ ∀c∈r.1,c.2.1=1 → ∃k:Nat,c.2.2.2=k∧l[k]? = some c.1
 cel : ∀r∈A,r.1.length≤100000000 ∧ ∀c∈r.1,cw c≤2
 len:A.length≤100000000000
section
variable {s:ByteArray} {L:List Iy} {F:List Sn} {tab:Nat} {wd:Int}
theorem sn.lines (h:sn s L F tab wd) : ∀x∈bG (aa s 0) (aL F) 0,M7 zT wT tab wd (aa s 0) (bp L) (aL F) x:=fun x hx=>by
 obtain ⟨h1,h2,h3⟩:=lE (aa s 0) (aL F) _ 0 (Nat.le_refl _) (Nat.zero_le _) (.inl rfl) x hx;have ht:=h.tab0;exact DL h.gd h.rs (kx h.okT).1 zT wT (by omega) wd h1 h2 h3
theorem sn.ll (h:sn s L F tab wd):(bG (aa s 0) (aL F) 0).length≤301:=by
 have:=eB (aa s 0) (aL F) 0 (Nat.zero_le _);have:=h.rs;omega
theorem sn.hl (h:sn s L F tab wd):(aL F).length≤60:=by
 have:=Gr F;have:=h.f0;show (xM (jI F)).length≤60;omega
abbrev Eh (s:ByteArray) (L:List Iy) (F:List Sn) (tab:Nat) (wd:Int):List Rw:=td zT wT tab wd (aa s 0) (bp L) (aL F) (bG (aa s 0) (aL F) 0)
theorem sn.lay (h:sn s L F tab wd):KA (aa s 0) wd (Eh s L F tab wd):=by
 have hr:=(kx h.okT).1;obtain ⟨h1,n,T,h2,h3,_⟩:=DK (z:=zT) (w:=wT) (tab:=tab) (wd:=wd) (L:=bp L) h.gd.so hr _ 0 (Nat.le_refl _) (Nat.zero_le _) (.inl rfl);refine ⟨h1,⟨n,T,h2,h3⟩,zF h.gd.so hr _ 0 (Nat.le_refl _) (Nat.zero_le _) (.inl rfl),fun r hr' =>?_,?_⟩
 ·rw [Eh,te] at hr';obtain ⟨x,hx,hm⟩:=List.mem_flatMap.1 hr';obtain ⟨_,_,q1,q2⟩:=(h.lines x hx).s r.1 (jz hm).1;exact ⟨q1,q2⟩
 ·rw [Eh,te];have h4:=uL (fun x:Nat × Nat=>DJ zT wT tab wd (aa s 0) (bQ (aa s 0) (bp L) x.2 x.1 (aL F)) x.1 x.2) 100000000 _ fun x hx=>by
   rw [DJ,oK];exact (h.lines x hx).q
  have h5:=h.ll;have h6:100000000*(bG (aa s 0) (aL F) 0).length≤100000000*301:=Nat.mul_le_mul_left _ h5;omega
variable {ps:List (List Int)} {t:Option T}
abbrev Ms (s:ByteArray) (L:List Iy) (F:List Sn) (tab:Nat) (wd:Int) (t:Option T):V:= .d (M1 (a5 t) (bY (aa s 0).length (ca (bp L))) (.sd 2 false ((aL F).map dk)) zT wT tab wd)
end
end Go.Proofs.YtkkanlcjjpoklaaGreatDoor
