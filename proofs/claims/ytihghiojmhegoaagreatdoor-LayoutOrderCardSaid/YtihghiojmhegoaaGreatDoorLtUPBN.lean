/- What the theorem leans on, part 40. -/
import Derived.Test.YtihghiojmhegoaaGreatDoorLtUPBB
import Derived.Test.YtihghiojmhegoaaGreatDoorLtUPBM
set_option linter.unusedSimpArgs false
set_option linter.unusedVariables false
set_option maxRecDepth 8000
namespace Go.Proofs.YtihghiojmhegoaaGreatDoor
theorem clean_runesL (s:ByteArray):runesAt (txt (runesAt s 0)) 0=runesAt s 0:=runes_txt (runes_valid s s.size 0 (by omega))
theorem sum_leB {α:Type} (f:α→Nat) (B:Nat) : ∀L:List α,(∀y∈L,f y≤B)→(L.map f).sum≤B*L.length
  | [],_=>Nat.le_refl _
  | y::t,h=>by
    have h1:=sum_leB f B t fun x hx=>h x (List.mem_cons_of_mem _ hx)
    have h2:=h y List.mem_cons_self
    rw [List.map_cons,List.sum_cons,List.length_cons,Nat.mul_succ];omega
theorem gdL {n:Int} {L:List Iy} (hl:L.length≤60) (hs : ∀x∈L,x.2.2.2.2.size≤200) (he:inlErr n [] L=0):GdL (insA L):=by
  have hm : ∀y∈insA L,∃x∈L,y=cleanI x:=fun y hy=>by
    obtain ⟨x,hx,e⟩:=List.mem_map.1 ((insA_perm L.reverse L (by simp)).mem_iff.1 hy)
    exact ⟨x,hx,e.symm⟩
  have hw:=(inlErr_nodup n L [] he).1
  have hwx : ∀x∈L,0≤x.2.1∧10∉runesAt x.2.2.2.2 0:=fun x hx=>by
    have h0:=(hw x hx).1
    unfold wrongI at h0
    split at h0
    · cases h0
    · rename_i h1
      split at h0
      · cases h0
      · split at h0
        · cases h0
        · rename_i h3
          refine ⟨by omega,fun hc=>h3 (.inr (brk_mem.2 hc))⟩
  have hil:(insA L).length=L.length:=insA_len L.reverse L (by simp)
  refine ⟨by omega,so_places (insA_so L.reverse L (by simp)),fun y hy =>?_,fun y hy =>?_,fun y hy =>?_,?_⟩
  · obtain ⟨x,hx,rfl⟩:=hm y hy
    exact (hwx x hx).1
  · obtain ⟨x,hx,rfl⟩:=hm y hy
    have h1:=hs x hx
    have h2:=runesAt_len x.2.2.2.2 _ 0 (Nat.le_refl _)
    have h3:=encL_len (runesAt x.2.2.2.2 0)
    show (txt (runesAt x.2.2.2.2 0)).size≤1000000
    rw [txt_size];omega
  · obtain ⟨x,hx,rfl⟩:=hm y hy
    show 10∉runesAt (txt (runesAt x.2.2.2.2 0)) 0
    rw [clean_runesL]
    exact (hwx x hx).2
  · have:=sum_leB (fun y:Iy=>(runesAt y.2.2.2.2 0).length) 200 (insA L) fun y hy=>by
      obtain ⟨x,hx,rfl⟩:=hm y hy
      show (runesAt (txt (runesAt x.2.2.2.2 0)) 0).length≤200
      rw [clean_runesL]
      have h2:=runesAt_len x.2.2.2.2 _ 0 (Nat.le_refl _)
      have:=hs x hx
      omega
    unfold inlB
    omega
abbrev dcV (s:ByteArray) (L:List Iy) (F:List Sn) (tab wd:Int):V:= .d (.agg [.lit (.string s),.sd 5 false (L.map iyD),.sd 2 false (F.map snD),iD tab,iD wd])
abbrev dcC (s:ByteArray) (L:List Iy) (F:List Sn) (tab wd:Int):Blk:= .cell [sv s,.d (.sd 5 false (L.map iyD)),.d (.sd 2 false (F.map snD)),iv tab,iv wd]
structure OkD (s:ByteArray) (L:List Iy) (F:List Sn) (tab wd:Int):Prop where
  s0:s.size≤300
  l0:L.length≤60
  f0:F.length≤60
  tab0:1≤tab∧tab≤16
  wd0:0≤wd∧wd≤200
  x0 : ∀x∈L,x.2.2.2.2.size≤200
  i0:inlErr (runesAt s 0).length [] L=0
  o0:flErr (runesAt s 0).length [] F=0
abbrev hidSr (F:List Sn):List Sn:=hidF (srtF F)
def zT:List (Int × Int):=[(768,879),(8203,8207),(65024,65039)]
def wT:List (Int × Int):=[(4352,4447),(11904,12350),(12353,19903),(19968,40959),(44032,55203),(63744,64255),(65280,65376),(127744,128591)]
theorem rgOk_of (l:List (Int × Int)) (h1:l.length≤1000) (h2 : ∀x∈l,x.1≤x.2) (h3:l.Pairwise fun x y=>x.2<y.1):RgOk l:=
  ⟨h1,h2,fun i j x y hij hx hy=>by
    have:=List.pairwise_iff_getElem.1 h3 i j (List.getElem?_eq_some_iff.1 hx).1 (List.getElem?_eq_some_iff.1 hy).1 hij
    rwa [(List.getElem?_eq_some_iff.1 hx).2,(List.getElem?_eq_some_iff.1 hy).2] at this⟩
theorem zT_ok:RgOk zT:=rgOk_of _ (by decide) (by decide) (by decide)
theorem wT_ok:RgOk wT:=rgOk_of _ (by decide) (by decide) (by decide)
theorem OkD.okT {s:ByteArray} {L:List Iy} {F:List Sn} {tab wd:Int} (h:OkD s L F tab wd):okT' (runesAt s 0).length (runesAt s 0).length (hidSr F)=true:=by
  unfold okT'
  rw [hid_rgt h.o0];simp
theorem OkD.gd {s:ByteArray} {L:List Iy} {F:List Sn} {tab wd:Int} (h:OkD s L F tab wd):GdL (insA L):=gdL h.l0 h.x0 h.i0
theorem OkD.rs {s:ByteArray} {L:List Iy} {F:List Sn} {tab wd:Int} (h:OkD s L F tab wd):(runesAt s 0).length≤300:=by
  have:=runesAt_len s s.size 0 (by omega)
  have:=h.s0
  omega
end Go.Proofs.YtihghiojmhegoaaGreatDoor
