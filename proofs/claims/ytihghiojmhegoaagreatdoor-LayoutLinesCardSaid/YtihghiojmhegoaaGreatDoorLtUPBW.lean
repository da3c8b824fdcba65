/- What the theorem leans on, part 49. -/
import Derived.Test.YtihghiojmhegoaaGreatDoorLtUPBP
import Derived.Test.YtihghiojmhegoaaGreatDoorLtUPBQ
import Derived.Test.YtihghiojmhegoaaGreatDoorLtUPBR
set_option linter.unusedSimpArgs false
set_option linter.unusedVariables false
set_option maxRecDepth 8000
namespace Go.Proofs.YtihghiojmhegoaaGreatDoor
section
variable {s:ByteArray} {L:List Iy} {F:List Sn} {tab:Int} {wd:Int}
theorem lawLayoutLines_no (hn:OFn Tryz.prog G0 8 [dcV s L F tab wd,iv 300] [] 0 (bv false) []) (h2:OFn Tryz.prog G0 9 [] [] 0 (bv true) []):OFn Tryz.prog G0 7 [dcV s L F tab wd] [] 0 (bv true) []:=by
  refine vF mixed [0,1,2,3,4,5,6,7,8,9,11,12,13,16,43,44,45,46,47,83] Tryz.func7 rfl Tryz.results7 Tryz.ntmps7 ?_
  (refine' zo2 hn h2)
abbrev vC6 (y1 y2 y3 y4:D) (y5 y6:Int):Blk:= .cell [.d y1,.d y2,.d y3,.d y4,iv y5,iv y6]
def liO (y1 y2 y3 y4:D) (y5 y6:Int) (A:List Rw) (l:List Int) (M:List Iy) (H:List Sn) (Ls:List (Nat × Nat)) (x:Nat × Nat):St:=
  ⟨[(3,.po 0 0),(7,.d (.sd 7 false (A.map rwD))),(9,iv x.2),(44,.d (.sd 3 false (Ls.map (lnD l M H)))),(45,iv Ls.length),(46,iv x.1)],[(0,vC6 y1 y2 y3 y4 y5 y6)],1⟩
attribute [push_cast] liO.eq_def
set_option maxHeartbeats 6400000 in
theorem lawLayoutLines_m {y1 y2 y3 y4:D} {y5 y6:Int} {l:List Int} {M:List Iy} {H:List Sn} {Ls:List (Nat × Nat)} (G:Nat × Nat→List Rw) (hL:Ls.length≤1000) (hA:(Ls.flatMap G).length≤100000000000) (hc : ∀r∈Ls.flatMap G,r.1.length≤1000000000) (hne : ∀x∈Ls,G x≠[])
    (hs:OFn Tryz.prog G0 8 [dcV s L F tab wd,iv 300] [] 0 (bv true) []) (h2:OFn Tryz.prog G0 9 [] [] 0 (bv true) [])
    (r1:OFn Tryz.prog G0 10 [dcV s L F tab wd] [] 0 (.tup [.d (.agg [y1,y2,y3,y4,iD y5,iD y6]),bv true]) []) (r2:OFn Tryz.prog G0 11 [.d (.agg [y1,y2,y3,y4,iD y5,iD y6])] [] 0 (.tup [.d (.sd 7 false ((Ls.flatMap G).map rwD)),iv 0]) [])
    (r3:OFn Tryz.prog G0 18 [.d (.agg [y1,y2,y3])] [] 0 (.tup [.d (.sd 3 false (Ls.map (lnD l M H))),iv 0]) [])
    (r4 : ∀x∈Ls,OFn Tryz.prog G0 19 [.d (.agg [y1,y2,y3,y4,iD y5,iD y6]),.d (lnD l M H x)] [] 0 (.tup [.d (.sd 7 false ((G x).map rwD)),iv 0]) []) :
    OFn Tryz.prog G0 7 [dcV s L F tab wd] [] 0 (bv true) []:=by
  refine vF mixed [0,1,2,3,4,5,6,7,8,9,11,12,13,16,43,44,45,46,47,83] Tryz.func7 rfl Tryz.results7 Tryz.ntmps7 ?_
  (repeat' (first|(with_reducible first|exact True.intro|refine vD ?_|refine vG ?_|refine vE ?_)|with_reducible refine vC (hs) ?_|with_reducible refine vC (r1) ?_|with_reducible refine vC (r2) ?_|with_reducible refine vC (r3) ?_|(refine vRQ ?_)|refine vR ?_|refine v6 ?_|with_reducible refine vN ?_|((with_reducible first|refine vB (fun h =>?_) (fun h =>?_)|refine vM (fun h =>?_) (fun h =>?_))<;>(first|(exfalso;omega)|skip))))
  refine vL (lv:=[0,1,2,3,4,5,6,7,8,9,11,12,13,16,43,44,45,46,47,83]) mixed (liO y1 y2 y3 y4 y5 y6 (Ls.flatMap G) l M H Ls) (fun x=>x.1≤Ls.length∧x.2=((Ls.take x.1).flatMap G).length) (fun x=>Ls.length - x.1) ((0,0)) ((GhW.go [3,7,9,44,45,46] (by exact vT) rfl)) ?_ ?_
  · exact ⟨Nat.zero_le _,rfl⟩
  rintro ⟨i,at'⟩ ⟨g1,g2⟩
  simp only at g1 g2
  rcases Nat.lt_or_ge i Ls.length with hk|hk
  · obtain ⟨x,hx⟩ : ∃x,Ls[i]? = some x:=⟨_,List.getElem?_eq_getElem hk⟩
    have hm:=List.mem_of_getElem? hx
    have r5:=r4 x hm
    have hnx:=List.length_pos_iff.2 (hne x hm)
    have e1:Ls.flatMap G=(Ls.take i).flatMap G++(G x++(Ls.drop (i+1)).flatMap G):=by
      conv=>lhs;rw [←List.take_append_drop i Ls,List.flatMap_append]
      rw [List.drop_eq_getElem_cons hk,(List.getElem?_eq_some_iff.1 hx).2,List.flatMap_cons]
    have e2:((Ls.take (i+1)).flatMap G).length=at'+(G x).length:=by
      rw [take_snoc' hx,List.flatMap_append,List.length_append,←g2];simp
    have e3:(Ls.flatMap G).length=at'+((G x).length+((Ls.drop (i+1)).flatMap G).length):=by rw [e1,List.length_append,List.length_append,←g2]
    have e4:((Ls.flatMap G).drop at').take (G x).length=G x:=by
      rw [e1,g2,List.drop_left',List.take_left']
      · rfl
      · rfl
    have r6:=pRows_fn (G x) (by omega) (fun r hr=>hc r (by rw [e1];simp [hr]))
    have hD:lnD l M H x = .agg [.sd 3 false ((runP l M x.2 x.1 H).map pzD),iD x.1,iD x.2]:=rfl
    rw [hD] at r5
    generalize hq:G x=q at *
    generalize hAA:Ls.flatMap G=A at *
    have e5:List.drop at' (List.take (at'+q.length) A)=q:=by rw [List.drop_take,Nat.add_sub_cancel_left];exact e4
    (repeat' (first|(with_reducible first|exact True.intro|refine vD ?_|refine vG ?_|refine vE ?_)|(with_reducible refine elX.is i _ (by omega) hx ?_)|with_reducible refine vC (r5) ?_|(refine vRQ ?_)|refine vR ?_|refine v6 ?_|with_reducible refine vN ?_|((with_reducible first|refine vB (fun h =>?_) (fun h =>?_)|refine vM (fun h =>?_) (fun h =>?_))<;>(first|(exfalso;omega)|skip))))
    rw [e5]
    (repeat' (first|(with_reducible first|exact True.intro|refine vD ?_|refine vG ?_|refine vE ?_)|with_reducible refine vC (r6) ?_|with_reducible refine vQ (r6) ?_|(refine vRQ ?_)|refine vR ?_|refine v6 ?_|with_reducible refine vN ?_|((with_reducible first|refine vB (fun h =>?_) (fun h =>?_)|refine vM (fun h =>?_) (fun h =>?_))<;>(first|(exfalso;omega)|skip))))
    refine AgW.go ((i+1,at'+q.length)) [3,7,9,44,45,46] (by exact vT) ?_ ?_
    · show Ls.length - (i+1)<Ls.length - i
      omega
    · exact ⟨hk,e2.symm⟩
  · have hi:i=Ls.length:=by omega
    rw [hi,List.take_length] at g2
    subst g2
    (repeat' (first|(with_reducible first|exact True.intro|refine vD ?_|refine vG ?_|refine vE ?_)|with_reducible refine vC (h2) ?_|with_reducible refine vQ (h2) ?_|(refine vRQ ?_)|with_reducible refine DoneW.out ?_|refine vR ?_|refine v6 ?_|with_reducible refine vN ?_|((with_reducible first|refine vB (fun h =>?_) (fun h =>?_)|refine vM (fun h =>?_) (fun h =>?_))<;>(first|(exfalso;omega)|skip))))
end
end Go.Proofs.YtihghiojmhegoaaGreatDoor
