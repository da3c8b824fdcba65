/- What the theorem leans on, part 23. -/
import Derived.Test.YtkhonlnajdfhfaaGreatDoorLtYPAI
import Derived.Test.YtkhonlnajdfhfaaGreatDoorLtYPAT
import Derived.Test.YtkhonlnajdfhfaaGreatDoorLtYPAV
set_option linter.unusedSimpArgs false
set_option linter.unusedVariables false
set_option maxRecDepth 8000
namespace Go.Proofs.YtkhonlnajdfhfaaGreatDoor
def cleanI (x:Iy):Iy:=(x.1,x.2.1,x.2.2.1,x.2.2.2.1,txt (runesAt x.2.2.2.2 0))
def inlErr (n:Int):List Int→List Iy→Int
 | _,[]=>0
 | seen,x::r=>if wrongI n x≠0 then wrongI n x else if x.1∈seen then 8 else inlErr n (seen++[x.1]) r
abbrev idsM (l:List Iy):List (Value × D):=l.map fun x=>(.int .i64 x.1,.agg [])
theorem findE_in (a:Int) : ∀l:List Iy,findE .i64 a (idsM l)=some (if a∈l.map (·.1) then some (.agg []) else none)
 | []=>rfl
 | x::r=>by
  have ih:=findE_in a r
  simp only [idsM,List.map_cons,findE,List.mem_cons,if_true] at ih ⊢
  by_cases h:a=x.1
  ·rw [if_pos h,if_pos (.inl h)]
  ·rw [if_neg h,ih]
   by_cases h2:a∈List.map (·.1) r
   ·rw [if_pos h2,if_pos (.inr h2)]
   ·rw [if_neg h2,if_neg (fun e=>e.elim h h2)]
theorem mapT_ids:mapT Tryz.prog 109=some (111,.i64):=by kernel_rfl
attribute [push_cast] mapT_ids
def inS2 (n:Int) (l:List Iy) (k:Nat):St:=
 ⟨[(0,iv n),(6,.po 0 0),(7,.mo 1),(28,.d (.sd 5 false (l.map iyD))),(29,iv l.length),(30,iv k)],[(0,.cell [iv n,.so 2 5 0 k]),(1,.map (idsM (l.take k))),(2,iyR ((l.take k).map cleanI))],3⟩
attribute [push_cast] inS2.eq_def
theorem drop_at {α:Type} {l:List α} {k:Nat} {x:α} (h:l[k]? = some x):l.drop k=x::l.drop (k+1):=by
 obtain ⟨h1,rfl⟩:=List.getElem?_eq_some_iff.1 h
 exact List.drop_eq_getElem_cons h1
def newIV (n:Int) (l ys:List Iy):V:=if inlErr n [] l=0 then .tup [.d (inlD n (.sd 5 false (ys.map iyD))),iv 0] else .tup [.d (.lit (.pointer none)),iv (inlErr n [] l)]
set_option maxHeartbeats 6400000 in
theorem iNew_ex (n:Int) (l:List Iy) (hn:0≤n∧n≤1099511627776) (hl2:l.length≤60) (hs : ∀x∈l,x.2.2.2.2.size≤1000000000) :
 ∃ys:List Iy,(ys.Perm (l.map cleanI)∧Srt SrtIy.ltB 0 l.length ys)∧OFn Tryz.prog G0 16 [iv n,.d (.sd 5 false (l.map iyD))] [] 0 (newIV n l ys) []:=by
 obtain ⟨ys,⟨hp,hsr⟩,hf⟩:=SrtIy.sort_ex (l.map cleanI) l.length (by simp) (by omega)
 refine ⟨ys,⟨hp,hsr⟩,?_⟩
 have hyl:ys.length=l.length:=by rw [hp.length_eq,List.length_map]
 refine vF mixed [0,1,4,5,6,7,9,10,12,13,20,28,29,30,31,38,47] Tryz.func16 rfl Tryz.results16 Tryz.ntmps16 ?_
 (refine' zg)
 refine vL (lv:=[0,1,4,5,6,7,9,10,12,13,20,28,29,30,31,38,47]) mixed (inS2 n l) (fun k=>k≤l.length∧inlErr n ((l.take k).map (·.1)) (l.drop k)=inlErr n [] l) (fun k=>l.length - k) (0) (GhW.nilC 60 1 5<|(GhW.go [0,6,7,28,29,30] (by exact vT) rfl)) ?_ ?_
 ·exact ⟨Nat.zero_le _,rfl⟩
 rintro k ⟨h1,h2⟩
 rcases Nat.lt_or_ge k l.length with hk|hk
 ·obtain ⟨x,hx⟩ : ∃x,l[k]? = some x:=⟨_,List.getElem?_eq_getElem hk⟩
  have hsx:=hs x (List.mem_of_getElem? hx)
  have r1:=iWrong_fn n x hsx
  have r2:=Clean_fn x.2.2.2.2 hsx
  rw [drop_at hx,inlErr] at h2
  have hfe:=findE_in x.1 (l.take k)
  by_cases hw:wrongI n x=0
  ·rw [if_neg (by omega)] at h2
   rw [hw] at r1
   by_cases hm:x.1∈(l.take k).map (·.1)
   ·rw [if_pos hm] at h2 hfe
    obtain ⟨a,b,c,d,s⟩:=x
    (refine' zg)
    refine elX.is k _ (by omega) hx ?_
    (refine' zg1 r1)
    have hfe':findE .i64 a (idsM (l.take k))=some (some (.agg [])):=hfe
    rw [hfe']
    (refine' zg)
    rw [newIV,←h2,if_neg (by decide)]
    refine DoneW.now [] (by decide) ?_;(refine' zg);first|exact Sub_refl _|exact Sub.cons rfl Sub.nil|exact Sub.cons rfl (Sub.cons rfl Sub.nil)|exact Sub.nil
   ·rw [if_neg hm] at h2 hfe
    obtain ⟨a,b,c,d,s⟩:=x
    simp only at r2
    (refine' zg)
    refine elX.is k _ (by omega) hx ?_
    (refine' zg1 r1)
    have hfe':findE .i64 a (idsM (l.take k))=some none:=hfe
    rw [hfe']
    (refine' zg)
    rw [hfe']
    (refine' zg1 r2)
    have e1:List.map (iyD ∘ cleanI) (List.take k l)++[D.agg [iD a,iD b,iD c,iD d,D.lit (Value.string (txt (runesAt s 0)))]]=((l.take (k+1)).map cleanI).map iyD:=by
     rw [take_snoc' hx,List.map_append,List.map_append,List.map_map];rfl
    have e2:idsM (l.take k)++[(Value.int IntKind.i64 a,D.agg [])]=idsM (l.take (k+1)):=by
     rw [take_snoc' hx,idsM,idsM,List.map_append];rfl
    have e3:(((l.take (k+1)).map cleanI).map iyD).length=k+1:=by
     rw [List.length_map,List.length_map,List.length_take];omega
    rw [e1,e2,e3]
    refine AgW.go (k+1) [0,6,7,28,29,30] (by (refine vR ?_);rw [←List.map_map]) ?_ ?_
    ·show l.length - (k+1)<l.length - k
     omega
    ·refine ⟨hk,?_⟩
     rw [take_snoc' hx,List.map_append]
     exact h2
  ·rw [if_pos hw] at h2
   obtain ⟨a,b,c,d,s⟩:=x
   (refine' zg)
   refine elX.is k _ (by omega) hx ?_
   (refine' zg1 r1)
   rw [newIV,←h2,if_neg hw]
   refine DoneW.now [] (by decide) ?_;(refine' zg);first|exact Sub_refl _|exact Sub.cons rfl Sub.nil|exact Sub.cons rfl (Sub.cons rfl Sub.nil)|exact Sub.nil
 ·obtain rfl:k=l.length:=by omega
  rw [List.drop_length,inlErr] at h2
  rw [inS2,List.take_length]
  (refine' zg)
  refine CallW.put 2 hf (by kernel_rfl) rfl rfl rfl ?_
  (refine' zg)
  rw [newIV,←h2,if_pos rfl,←hyl]
  refine DoneW.frz 2 (DoneW.frz 0 (DoneW.out ?_))
  (refine' zg)
  exact rfl
end Go.Proofs.YtkhonlnajdfhfaaGreatDoor
