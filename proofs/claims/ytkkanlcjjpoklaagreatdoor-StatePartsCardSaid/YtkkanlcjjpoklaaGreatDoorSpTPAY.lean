/- What the theorem leans on, part 25. -/
import Derived.Test.YtkkanlcjjpoklaaGreatDoorSpTPAX
set_option linter.unusedSimpArgs false
set_option linter.unusedVariables false
set_option maxRecDepth 8000
namespace Go.Proofs.YtkkanlcjjpoklaaGreatDoor
theorem FH {l:List Int} : 0<aO l↔10∈l:=by
 unfold aO;rw [List.length_pos_iff_exists_mem];constructor
 ·rintro ⟨a,ha⟩;rw [List.mem_filter] at ha;have:a=10:=by simpa using ha.2
  exact this▸ha.1
 ·intro h;exact ⟨10,List.mem_filter.2 ⟨h,by simp⟩⟩
end Go.Proofs.YtkkanlcjjpoklaaGreatDoor
set_option linter.unusedSimpArgs false
set_option linter.unusedVariables false
set_option maxRecDepth 8000
namespace Go.Proofs.YtkkanlcjjpoklaaGreatDoor
open SrtIy (Kk cB dN Pn)
def s8 (x:Iy):List Iy→List Iy
 | []=>[x]
 | y::r=>if Kk x y then x::y::r else y::s8 x r
def bp (l:List Iy):List Iy:=l.foldl (fun out x=>s8 (sF x) out) []
theorem lw (l:List Iy) (x:Iy):bp (l++[x])=s8 (sF x) (bp l):=by simp [bp]
theorem u6 (x:Iy) : ∀l:List Iy,(s8 x l).length=l.length+1
 | []=>rfl
 | y::r=>by
  rw [s8];split
  ·rfl
  ·rw [List.length_cons,u6 x r,List.length_cons]
theorem uX : ∀R l:List Iy,l=R.reverse→(bp l).length=l.length
 | [],l,e=>by subst e;rfl
 | x::R,l,e=>by
  subst e;rw [List.reverse_cons,lw,u6,uX R _ rfl,List.length_append];rfl
theorem lB (x:Iy) : ∀l:List Iy,(s8 x l).Perm (x::l)
 | []=>List.Perm.refl _
 | y::r=>by
  rw [s8];split
  ·exact List.Perm.refl _
  ·exact ((lB x r).cons y).trans (List.Perm.swap x y r)
theorem rm : ∀R l:List Iy,l=R.reverse→(bp l).Perm (l.map sF)
 | [],l,e=>by subst e;exact List.Perm.refl _
 | x::R,l,e=>by
  subst e;rw [List.reverse_cons,lw,List.map_append];refine (lB _ _).trans ?_;refine ((rm R _ rfl).cons _).trans ?_;exact (List.perm_append_singleton _ _).symm
def MG (l:List Iy):Prop:=l.Pairwise fun x y=> ¬Kk y x
theorem zC (x:Iy) : ∀l:List Iy,MG l→MG (s8 x l)
 | [],_=>List.pairwise_singleton _ _
 | y::r,h=>by
  obtain ⟨h1,h2⟩:=List.pairwise_cons.1 h;rw [s8];split
  ·rename_i hlt;refine List.pairwise_cons.2 ⟨fun z hz =>?_,h⟩;rcases List.mem_cons.1 hz with rfl|hz
   ·exact fun k=>Pn.sy _ _ hlt k
   ·intro k;have h3:=h1 z hz;have a:=(dN _ _).1 hlt;have b:=(dN _ _).1 k;exact h3 ((dN _ _).2 (by omega))
  ·rename_i hlt;refine List.pairwise_cons.2 ⟨fun z hz =>?_,zC x r h2⟩;rcases List.mem_cons.1 ((lB x r).mem_iff.1 hz) with rfl|hz
   ·exact hlt
   ·exact h1 z hz
theorem zz : ∀R l:List Iy,l=R.reverse→MG (bp l)
 | [],l,e=>by subst e;exact List.Pairwise.nil
 | x::R,l,e=>by subst e;rw [List.reverse_cons,lw];exact zC _ _ (zz R _ rfl)
theorem BY {l:List Iy} (h:MG l):E9 l:=h.imp fun {x y} hxy=>by
 have:=mt (dN y x).2 hxy;omega
theorem kh (n:Int) : ∀(l:List Iy) (seen:List Int),oB n seen l=0→(∀x∈l,t6 n x=0∧x.1∉seen)∧(l.map (·.1)).Nodup
 | [],seen,_=>⟨(fun x hx=>by cases hx),List.nodup_nil⟩
 | x::r,seen,h=>by
  rw [oB] at h;split at h
  ·rename_i hw;exact (hw h).elim
  ·rename_i hw;split at h
   ·cases h
   ·rename_i hm;obtain ⟨h1,h2⟩:=kh n r _ h;refine ⟨fun y hy =>?_,?_⟩
    ·rcases List.mem_cons.1 hy with rfl|hy
     ·exact ⟨by omega,hm⟩
     ·have:=h1 y hy;exact ⟨this.1,fun hs=>this.2 (by simp [hs])⟩
    ·rw [List.map_cons,List.nodup_cons];refine ⟨fun hx =>?_,h2⟩;obtain ⟨y,hy,e⟩:=List.mem_map.1 hx;exact (h1 y hy).2 (by rw [e];simp)
end Go.Proofs.YtkkanlcjjpoklaaGreatDoor
