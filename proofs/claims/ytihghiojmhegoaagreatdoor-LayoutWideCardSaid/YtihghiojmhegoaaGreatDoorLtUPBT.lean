/- What the theorem leans on, part 46. -/
import Derived.Test.YtihghiojmhegoaaGreatDoorLtUPBP
import Derived.Test.YtihghiojmhegoaaGreatDoorLtUPBQ
set_option linter.unusedSimpArgs false
set_option linter.unusedVariables false
set_option maxRecDepth 8000
namespace Go.Proofs.YtihghiojmhegoaaGreatDoor
abbrev rwC (r:Rw):Blk:= .cell [clL r.1,iv r.2.1,iv r.2.2.1,iv r.2.2.2.1,bv r.2.2.2.2.1,bv r.2.2.2.2.2.1,iv r.2.2.2.2.2.2]
section
variable {s:ByteArray} {L:List Iy} {F:List Sn} {tab:Int} {wd:Int}
theorem lawLayoutWide_no (hn:OFn Tryz.prog G0 8 [dcV s L F tab wd,iv 300] [] 0 (bv false) []) (h2:OFn Tryz.prog G0 9 [] [] 0 (bv true) []):OFn Tryz.prog G0 5 [dcV s L F tab wd] [] 0 (bv true) []:=by
  refine vF mixed [0,1,2,3,4,5,6,8,9,11,14,31,32,33,34,35,39,40,41,42,81] Tryz.func5 rfl Tryz.results5 Tryz.ntmps5 ?_
  (refine' zo2 hn h2)
def wdO (s:ByteArray) (L:List Iy) (F:List Sn) (tab wd:Int) (A:List Rw) (i:Nat):St:=⟨[(1,.po 0 0),(32,.d (.sd 7 false (A.map rwD))),(33,iv A.length),(34,iv i)],[(0,dcC s L F tab wd)],1⟩
def wdI (s:ByteArray) (L:List Iy) (F:List Sn) (tab wd:Int) (A:List Rw) (i:Nat) (r:Rw) (k:Nat):St:=
  ⟨[(1,.po 0 0),(8,.po 1 0),(9,iv (wid (r.1.take k))),(32,.d (.sd 7 false (A.map rwD))),(33,iv A.length),(34,iv i),(39,clL r.1),(40,iv r.1.length),(41,iv k)],[(0,dcC s L F tab wd),(1,rwC r)],2⟩
attribute [push_cast] wdO.eq_def wdI.eq_def
set_option maxHeartbeats 6400000 in
theorem lawLayoutWide_m {v:D} {l:List Int} {A:List Rw} (g:RowsG l wd A) (hs:OFn Tryz.prog G0 8 [dcV s L F tab wd,iv 300] [] 0 (bv true) []) (h2:OFn Tryz.prog G0 9 [] [] 0 (bv true) [])
    (hv : ∃vs,v = .agg vs∧vs.length=6) (r1:OFn Tryz.prog G0 10 [dcV s L F tab wd] [] 0 (.tup [.d v,bv true]) []) (r2:OFn Tryz.prog G0 11 [.d v] [] 0 (.tup [.d (.sd 7 false (A.map rwD)),iv 0]) []) :
    OFn Tryz.prog G0 5 [dcV s L F tab wd] [] 0 (bv true) []:=by
  obtain ⟨vs,rfl,hv⟩:=hv
  obtain ⟨y1,y2,y3,y4,y5,y6,rfl⟩ : ∃y1 y2 y3 y4 y5 y6,vs=[y1,y2,y3,y4,y5,y6]:=by
    rcases vs with _|⟨y1,_|⟨y2,_|⟨y3,_|⟨y4,_|⟨y5,_|⟨y6,_|⟨y7,w⟩⟩⟩⟩⟩⟩⟩
    all_goals first|exact ⟨_,_,_,_,_,_,rfl⟩|(simp at hv)
  have hlen:=g.len
  refine vF mixed [0,1,2,3,4,5,6,8,9,11,14,31,32,33,34,35,39,40,41,42,81] Tryz.func5 rfl Tryz.results5 Tryz.ntmps5 ?_
  (repeat' (first|(with_reducible first|exact True.intro|refine vD ?_|refine vG ?_|refine vE ?_)|with_reducible refine vC (hs) ?_|with_reducible refine vC (r1) ?_|with_reducible refine vC (r2) ?_|(refine vRQ ?_)|refine vR ?_|refine v6 ?_|with_reducible refine vN ?_|((with_reducible first|refine vB (fun h =>?_) (fun h =>?_)|refine vM (fun h =>?_) (fun h =>?_))<;>(first|(exfalso;omega)|skip))))
  refine vL (lv:=[0,1,2,3,4,5,6,8,9,11,14,31,32,33,34,35,39,40,41,42,81]) mixed (wdO s L F tab wd A) (fun i=>i≤A.length) (fun i=>A.length - i) (0) ((GhW.go [1,32,33,34] (by exact vT) rfl)) ?_ ?_
  · exact Nat.zero_le _
  intro i hi
  rcases Nat.lt_or_ge i A.length with hk|hk
  · obtain ⟨r,hr⟩ : ∃r,A[i]? = some r:=⟨_,List.getElem?_eq_getElem hk⟩
    obtain ⟨m1,m2,m3⟩:=g.mem r (List.mem_of_getElem? hr)
    obtain ⟨m4,m5⟩:=g.cel r (List.mem_of_getElem? hr)
    obtain ⟨⟨q1,q2,q3,q4,q5⟩,_,_⟩:=okRs_at A g.ok i r hr
    have hwl:=wid_le m5
    obtain ⟨cs,st,en,bk,wr,fo,wx⟩:=r
    simp only at m1 m2 m3 m4 m5 q1 q2 q3 q4 q5 hwl
    subst m1
    have hne:(cs.length:Int)=0→wr=false∧st=en:=fun e=>q5 (List.length_eq_zero_iff.1 (by omega))
    clear m3 q4
    (refine' zgE hr)
    refine vL (lv:=[0,1,2,3,4,5,6,8,9,11,14,31,32,33,34,35,39,40,41,42,81]) mixed (wdI s L F tab wd A i (cs,st,en,bk,wr,fo,wid cs)) (fun k=>k≤cs.length) (fun k=>cs.length - k) (0) ((GhW.go [1,8,9,32,33,34,39,40,41] (by exact vT) rfl)) ?_ ?_
    · exact Nat.zero_le _
    intro k hkl
    rcases Nat.lt_or_ge k cs.length with hk2|hk2
    · obtain ⟨c,hc⟩ : ∃c,cs[k]? = some c:=⟨_,List.getElem?_eq_getElem hk2⟩
      have e:=wid_take cs hc
      have hcw:=m5 c (List.mem_of_getElem? hc)
      have hmo:=wid_mono cs (Nat.le_of_lt hk2)
      rw [List.take_length] at hmo
      obtain ⟨cr,ck,cW,ca⟩:=c
      simp only [cw] at e hcw
      (refine' zgE hc)
      rw [show ((wid (cs.take k):Nat):Int)+(cW:Int)=(wid (cs.take (k+1)):Nat) by omega]
      refine AgW.go (k+1) [1,8,9,32,33,34,39,40,41] (by exact vT) ?_ ?_
      · show cs.length - (k+1)<cs.length - k
        omega
      · show k+1≤cs.length
        omega
    · obtain rfl:k=cs.length:=by omega
      rw [wdI,List.take_length]
      generalize wid cs=W at *
      (repeat' (first|(with_reducible first|exact True.intro|refine vD ?_|refine vG ?_|refine vE ?_)|(refine vRQ ?_)|refine vR ?_|refine v6 ?_|with_reducible refine vN ?_|((with_reducible first|refine vB (fun h =>?_) (fun h =>?_)|refine vM (fun h =>?_) (fun h =>?_))<;>(first|(exfalso;omega)|skip))))
      · exfalso
        have hwe:(cs.length:Int)=0 → ¬(wr=true ∨ ¬st=en):=fun e h=>by
          obtain ⟨q6,q7⟩:=hne e
          rcases h with h|h
          · rw [q6] at h;cases h
          · exact h q7
        rcases h with ⟨h3,h|⟨h4,h5⟩⟩|⟨_,h4,h5⟩
        · have:=m2 h3;omega
        · exact hwe h4 h5
        · exact hwe h4 h5
      · refine AgW.go (i+1) [1,32,33,34] (by exact vT) ?_ ?_
        · show A.length - (i+1)<A.length - i
          omega
        · show i+1≤A.length
          omega
  · (refine' zo1 h2)
end
end Go.Proofs.YtihghiojmhegoaaGreatDoor
