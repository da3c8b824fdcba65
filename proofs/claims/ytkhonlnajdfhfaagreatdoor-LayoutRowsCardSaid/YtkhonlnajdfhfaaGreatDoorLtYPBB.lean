/- What the theorem leans on, part 28. -/
import Derived.Test.YtkhonlnajdfhfaaGreatDoorLtYPAH
import Derived.Test.YtkhonlnajdfhfaaGreatDoorLtYPAN
set_option linter.unusedSimpArgs false
set_option linter.unusedVariables false
namespace Go.Proofs.YtkhonlnajdfhfaaGreatDoor
def badS (n:Int) (x:Sn):Prop:=x.1<0∨x.2≤x.1∨n<x.2
instance (n:Int) (x:Sn):Decidable (badS n x):=by unfold badS;infer_instance
def flErr (n:Int):List Sn→List Sn→Int
 | _,[]=>0
 | seen,x::r=>if badS n x then 1 else if x∈seen then 8 else flErr n (seen++[x]) r
theorem flErr_ok (n:Int) : ∀(l seen:List Sn),flErr n seen l=0→(∀x∈l,¬badS n x∧x∉seen)∧l.Nodup
 | [],_,_=>⟨(fun _ h=>by cases h),List.nodup_nil⟩
 | x::r,seen,h=>by
  rw [flErr] at h
  split at h
  ·cases h
  ·rename_i hb
   split at h
   ·cases h
   ·rename_i hm
    obtain ⟨h1,h2⟩:=flErr_ok n r _ h
    refine ⟨fun y hy =>?_,List.nodup_cons.2 ⟨fun hx=>(h1 x hx).2 (by simp),h2⟩⟩
    rcases List.mem_cons.1 hy with rfl|hy
    ·exact ⟨hb,hm⟩
    ·exact ⟨(h1 y hy).1,fun k=>(h1 y hy).2 (by simp [k])⟩
def ltSn (x y:Sn):Prop:=x.1<y.1∨(x.1=y.1∧x.2<y.2)
instance:DecidableRel ltSn:=fun x y=>by unfold ltSn;infer_instance
theorem wkSn:Wk ltSn:=⟨fun x y h k=>by unfold ltSn at *;omega,fun x y z h k l=>by unfold ltSn at *;omega⟩
theorem trSn (x y z:Sn) (h:ltSn x y) (k:ltSn z x) (n : ¬ltSn z y):False:=by unfold ltSn at *;omega
def hidG:Sn→List Sn→List Sn
 | c,[]=>[c]
 | c,x::r=>if x.1<c.2 then hidG (c.1,max c.2 x.2) r else c::hidG x r
def hidF:List Sn→List Sn
 | []=>[]
 | c::r=>hidG c r
theorem hidG_len : ∀(r:List Sn) (c:Sn),(hidG c r).length≤r.length+1
 | [],c=>Nat.le_refl _
 | x::r,c=>by
  rw [hidG]
  split
  ·have:=hidG_len r (c.1,max c.2 x.2);simp only [List.length_cons];omega
  ·have:=hidG_len r x;simp only [List.length_cons];omega
theorem hidF_len (l:List Sn):(hidF l).length≤l.length:=by
 cases l with
 | nil=>exact Nat.le_refl _
 | cons c r=>exact hidG_len r c
theorem hidG_rgt {n:Int} : ∀(r:List Sn) (c:Sn) (last:Int),last≤c.1→c.1<c.2→c.2≤n→(∀x∈r,c.1≤x.1∧x.1<x.2∧x.2≤n)→(r.Pairwise fun x y=>x.1≤y.1)→rgt n last (hidG c r)=true
 | [],c,last,h1,h2,h3,_,_=>rgt_cons.2 ⟨⟨h1,h2,h3⟩,rfl⟩
 | x::r,c,last,h1,h2,h3,h4,h5=>by
  obtain ⟨p1,p2⟩:=List.pairwise_cons.1 h5
  have hx:=h4 x List.mem_cons_self
  rw [hidG]
  split
  ·exact hidG_rgt r _ last h1 (by show c.1<max c.2 x.2;omega) (by show max c.2 x.2≤n;omega) (fun y hy=>h4 y (List.mem_cons_of_mem _ hy)) p2
  ·exact rgt_cons.2 ⟨⟨h1,h2,h3⟩,hidG_rgt r x c.2 (by omega) hx.2.1 hx.2.2 (fun y hy=>⟨p1 y hy,(h4 y (List.mem_cons_of_mem _ hy)).2⟩) p2⟩
theorem hidF_rgt {n:Int} {l:List Sn} (h : ∀x∈l,¬badS n x) (hs:l.Pairwise fun x y=>x.1≤y.1):rgt n 0 (hidF l)=true:=by
 cases l with
 | nil=>rfl
 | cons c r=>
  obtain ⟨p1,p2⟩:=List.pairwise_cons.1 hs
  have hc:=h c List.mem_cons_self
  unfold badS at hc
  refine hidG_rgt r c 0 (by omega) (by omega) (by omega) (fun x hx =>?_) p2
  have hx':=h x (List.mem_cons_of_mem _ hx)
  unfold badS at hx'
  exact ⟨p1 x hx,by omega,by omega⟩
abbrev srtF (l:List Sn):List Sn:=insF ltSn l
theorem srtF_so (l:List Sn):(srtF l).Pairwise fun x y=>x.1≤y.1:=
 (insF_so ltSn wkSn trSn l.reverse l (by simp)).imp fun h=>by unfold ltSn at h;omega
theorem srtF_mem {l:List Sn} {x:Sn} : x∈srtF l↔x∈l:=(insF_perm ltSn l.reverse l (by simp)).mem_iff
theorem srtF_len (l:List Sn):(srtF l).length=l.length:=insF_len ltSn l.reverse l (by simp)
theorem hid_rgt {n:Int} {l:List Sn} (h:flErr n [] l=0):rgt n 0 (hidF (srtF l))=true:=
 hidF_rgt (fun x hx=>((flErr_ok n l [] h).1 x (srtF_mem.1 hx)).1) (srtF_so l)
theorem hid_len (l:List Sn):(hidF (srtF l)).length≤l.length:=by
 have:=hidF_len (srtF l)
 rwa [srtF_len] at this
end Go.Proofs.YtkhonlnajdfhfaaGreatDoor
