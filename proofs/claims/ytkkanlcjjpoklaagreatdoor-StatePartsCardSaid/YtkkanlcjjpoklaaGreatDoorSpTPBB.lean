/- What the theorem leans on, part 28. -/
import Derived.Test.YtkkanlcjjpoklaaGreatDoorSpTPAH
import Derived.Test.YtkkanlcjjpoklaaGreatDoorSpTPAN
set_option linter.unusedSimpArgs false
set_option linter.unusedVariables false
namespace Go.Proofs.YtkkanlcjjpoklaaGreatDoor
def xq (n:Int) (x:Sn):Prop:=x.1<0∨x.2≤x.1∨n<x.2
instance (n:Int) (x:Sn):Decidable (xq n x):=by unfold xq;infer_instance
def uI (n:Int):List Sn→List Sn→Int
 | _,[]=>0
 | seen,x::r=>if xq n x then 1 else if x∈seen then 8 else uI n (seen++[x]) r
theorem uJ (n:Int) : ∀(l seen:List Sn),uI n seen l=0→(∀x∈l,¬xq n x∧x∉seen)∧l.Nodup
 | [],_,_=>⟨(fun _ h=>by cases h),List.nodup_nil⟩
 | x::r,seen,h=>by
  rw [uI] at h;split at h
  ·cases h
  ·rename_i hb;split at h
   ·cases h
   ·rename_i hm;obtain ⟨h1,h2⟩:=uJ n r _ h;refine ⟨fun y hy =>?_,List.nodup_cons.2 ⟨fun hx=>(h1 x hx).2 (by simp),h2⟩⟩;rcases List.mem_cons.1 hy with rfl|hy
    ·exact ⟨hb,hm⟩
    ·exact ⟨(h1 y hy).1,fun k=>(h1 y hy).2 (by simp [k])⟩
def kn (x y:Sn):Prop:=x.1<y.1∨(x.1=y.1∧x.2<y.2)
instance:DecidableRel kn:=fun x y=>by unfold kn;infer_instance
theorem Po:Wk kn:=⟨fun x y h k=>by unfold kn at *;omega,fun x y z h k l=>by unfold kn at *;omega⟩
theorem OR (x y z:Sn) (h:kn x y) (k:kn z x) (n : ¬kn z y):False:=by unfold kn at *;omega
def xN:Sn→List Sn→List Sn
 | c,[]=>[c]
 | c,x::r=>if x.1<c.2 then xN (c.1,max c.2 x.2) r else c::xN x r
def xM:List Sn→List Sn
 | []=>[]
 | c::r=>xN c r
theorem ou : ∀(r:List Sn) (c:Sn),(xN c r).length≤r.length+1
 | [],c=>Nat.le_refl _
 | x::r,c=>by
  rw [xN];split
  ·have:=ou r (c.1,max c.2 x.2);simp only [List.length_cons];omega
  ·have:=ou r x;simp only [List.length_cons];omega
theorem Dw (l:List Sn):(xM l).length≤l.length:=by
 cases l with
 | nil=>exact Nat.le_refl _
 | cons c r=>exact ou r c
theorem ov {n:Int} : ∀(r:List Sn) (c:Sn) (last:Int),last≤c.1→c.1<c.2→c.2≤n→(∀x∈r,c.1≤x.1∧x.1<x.2∧x.2≤n)→(r.Pairwise fun x y=>x.1≤y.1)→iZ n last (xN c r)=true
 | [],c,last,h1,h2,h3,_,_=>dg.2 ⟨⟨h1,h2,h3⟩,rfl⟩
 | x::r,c,last,h1,h2,h3,h4,h5=>by
  obtain ⟨p1,p2⟩:=List.pairwise_cons.1 h5;have hx:=h4 x List.mem_cons_self;rw [xN];split
  ·exact ov r _ last h1 (by show c.1<max c.2 x.2;omega) (by show max c.2 x.2≤n;omega) (fun y hy=>h4 y (List.mem_cons_of_mem _ hy)) p2
  ·exact dg.2 ⟨⟨h1,h2,h3⟩,ov r x c.2 (by omega) hx.2.1 hx.2.2 (fun y hy=>⟨p1 y hy,(h4 y (List.mem_cons_of_mem _ hy)).2⟩) p2⟩
theorem Dx {n:Int} {l:List Sn} (h : ∀x∈l,¬xq n x) (hs:l.Pairwise fun x y=>x.1≤y.1):iZ n 0 (xM l)=true:=by
 cases l with
 | nil=>rfl
 | cons c r=>
  obtain ⟨p1,p2⟩:=List.pairwise_cons.1 hs;have hc:=h c List.mem_cons_self;unfold xq at hc;refine ov r c 0 (by omega) (by omega) (by omega) (fun x hx =>?_) p2;have hx':=h x (List.mem_cons_of_mem _ hx);unfold xq at hx';exact ⟨p1 x hx,by omega,by omega⟩
abbrev jI (l:List Sn):List Sn:=xX kn l
theorem Hd (l:List Sn):(jI l).Pairwise fun x y=>x.1≤y.1:=
 (zA kn Po OR l.reverse l (by simp)).imp fun h=>by unfold kn at h;omega
theorem ED {l:List Sn} {x:Sn} : x∈jI l↔x∈l:=(ro kn l.reverse l (by simp)).mem_iff
theorem EC (l:List Sn):(jI l).length=l.length:=uY kn l.reverse l (by simp)
theorem zx {n:Int} {l:List Sn} (h:uI n [] l=0):iZ n 0 (xM (jI l))=true:=
 Dx (fun x hx=>((uJ n l [] h).1 x (ED.1 hx)).1) (Hd l)
theorem Gr (l:List Sn):(xM (jI l)).length≤l.length:=by
 have:=Dw (jI l);rwa [EC] at this
end Go.Proofs.YtkkanlcjjpoklaaGreatDoor
