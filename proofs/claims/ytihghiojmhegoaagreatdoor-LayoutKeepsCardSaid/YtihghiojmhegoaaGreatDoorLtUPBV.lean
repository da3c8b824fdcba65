/- What the theorem leans on, part 48. -/
import Derived.Test.YtihghiojmhegoaaGreatDoorLtUPBO
import Derived.Test.YtihghiojmhegoaaGreatDoorLtUPBR
import Derived.Test.YtihghiojmhegoaaGreatDoorLtUPBS
set_option linter.unusedSimpArgs false
set_option linter.unusedVariables false
set_option maxRecDepth 8000
namespace Go.Proofs.YtihghiojmhegoaaGreatDoor
section
variable {s:ByteArray} {L:List Iy} {F:List Sn} {tab:Int} {wd:Int}
theorem lawLayoutKeeps_no (hn:OFn Tryz.prog G0 8 [dcV s L F tab wd,iv 300] [] 0 (bv false) []) (h2:OFn Tryz.prog G0 9 [] [] 0 (bv true) []):OFn Tryz.prog G0 4 [dcV s L F tab wd] [] 0 (bv true) []:=by
  refine vF mixed [0,1,2,3,4,5,6,7,8,9,10,11,13,14,15,18,40,44,45,46,47,57,62,63,64,65,70,92,101,102,103,104,111] Tryz.func4 rfl Tryz.results4 Tryz.ntmps4 ?_
  (refine' zo2 hn h2)
def hdS (H:List Sn) (a:Int) (j:Nat):St:=⟨[(1,iv a),(8,.d (.sd 2 false (H.map snD))),(9,iv H.length),(10,iv j)],[],0⟩
attribute [push_cast] hdS.eq_def
theorem hid23_fn (l:List Int) (n:Int) (M:List Iy) (H:List Sn) (hH:H.length≤1000) (a:Int):OFn Tryz.prog G0 16 [dtV l n M H,iv a] [] 0 (bv (hidO H a).isSome) []:=by
  refine vF mixed [0,1,2,4,6,8,9,10,11,23] Tryz.func16 rfl Tryz.results16 Tryz.ntmps16 ?_
  (refine' zg)
  refine vL (lv:=[0,1,2,4,6,8,9,10,11,23]) mixed (hdS H a) (fun j=>j≤H.length ∧ ∀(k:Nat) y,k<j→H[k]? = some y → ¬(y.1≤a∧a<y.2)) (fun j=>H.length - j) (0) ((GhW.go [1,8,9,10] (by exact vT) rfl)) ?_ ?_
  · exact ⟨Nat.zero_le _,fun k y h=>by omega⟩
  rintro j ⟨g1,g2⟩
  rcases Nat.lt_or_ge j H.length with hj|hj
  · obtain ⟨y,hy⟩ : ∃y,H[j]? = some y:=⟨_,List.getElem?_eq_getElem hj⟩
    have e1:y.1≤a∧a<y.2→(hidO H a).isSome=true:=fun h=>by
      cases hh:hidO H a with
      | none=>exact (hidO_none hh y (List.mem_of_getElem? hy) h).elim
      | some x=>rfl
    have e2:=fun h=>snoc_lt g2 hy h
    obtain ⟨y1,y2⟩:=y
    simp only at e1 e2
    by_cases hin:y1≤a∧a<y2
    · rw [e1 hin]
      (repeat' (first|(with_reducible first|exact True.intro|refine vD ?_|refine vG ?_|refine vE ?_)|(with_reducible refine elX.is j _ (by omega) hy ?_)|(refine vRQ ?_)|with_reducible refine DoneW.out ?_|refine vR ?_|refine v6 ?_|with_reducible refine vN ?_|((with_reducible first|refine vB (fun h =>?_) (fun h =>?_)|refine vM (fun h =>?_) (fun h =>?_))<;>(first|(exfalso;omega)|skip))))
    · (repeat' (first|(with_reducible first|exact True.intro|refine vD ?_|refine vG ?_|refine vE ?_)|(with_reducible refine elX.is j _ (by omega) hy ?_)|(refine vRQ ?_)|with_reducible refine DoneW.out ?_|refine vR ?_|refine v6 ?_|with_reducible refine vN ?_|((with_reducible first|refine vB (fun h =>?_) (fun h =>?_)|refine vM (fun h =>?_) (fun h =>?_))<;>(first|(exfalso;omega)|skip))))
      refine AgW.go (j+1) [1,8,9,10] (by exact vT) ?_ ?_
      · show H.length - (j+1)<H.length - j
        omega
      · exact ⟨hj,e2 hin⟩
  · have:(hidO H a).isSome=false:=by
      cases hh:hidO H a with
      | none=>rfl
      | some x=>
        obtain ⟨k1,k2,k3⟩:=hidO_some hh
        obtain ⟨k,hk⟩:=List.getElem?_of_mem k1
        exact (g2 k x (by have:=(List.getElem?_eq_some_iff.1 hk).1;omega) hk ⟨k2,k3⟩).elim
    rw [this]
    (refine' zo)
theorem visR_lenL (l:List Int) (H:List Sn) : ∀d a:Nat,(visR l H d a).length≤d
  | 0,a=>Nat.le_refl _
  | d+1,a=>by
    have:=visR_lenL l H d (a+1)
    rw [visR,List.length_append]
    split
    · cases l[a]? <;> simp<;>omega
    · simp;omega
abbrev plainC (cs:List Cl):List Int:=(cs.filter fun c=>c.2.1==1).map (·.1)
def kpO (l:List Int) (n:Int) (M:List Iy) (H:List Sn) (A:List Rw) (x:Nat × List Int):St:=
  ⟨[(7,.po 0 0),(8,.so 1 1 0 x.2.length),(9,.d nilSD),(44,.d (.sd 7 false (A.map rwD))),(45,iv A.length),(46,iv x.1)],[(0,dtC l n M H),(1,.row 1 (x.2.map ruD))],2⟩
def kpI (l:List Int) (n:Int) (M:List Iy) (H:List Sn) (A:List Rw) (i:Nat) (cs:List Cl) (x:Nat × List Int):St:=
  ⟨[(7,.po 0 0),(8,.so 1 1 0 x.2.length),(9,.d nilSD),(44,.d (.sd 7 false (A.map rwD))),(45,iv A.length),(46,iv i),(62,clL cs),(63,iv cs.length),(64,iv x.1)],[(0,dtC l n M H),(1,.row 1 (x.2.map ruD))],2⟩
def kpW (l:List Int) (n:Int) (M:List Iy) (H:List Sn) (tot:List Int) (x:Nat × List Int):St:=
  ⟨[(7,.po 0 0),(8,.so 1 1 0 tot.length),(9,.so 2 1 0 x.2.length),(101,ruL l),(102,iv l.length),(103,iv x.1)],[(0,dtC l n M H),(1,.row 1 (tot.map ruD)),(2,.row 1 (x.2.map ruD))],3⟩
attribute [push_cast] kpO.eq_def kpI.eq_def kpW.eq_def
set_option maxHeartbeats 6400000 in
theorem lawLayoutKeeps_m {y1 y2 y3 y4 y5 y6 d6 d7 d8:D} {l:List Int} {n:Int} {M:List Iy} {H:List Sn} {A:List Rw} (g:RowsG l wd A) (hkp:keepR A=10::visR l H l.length 0) (hH:H.length≤1000) (hs:OFn Tryz.prog G0 8 [dcV s L F tab wd,iv 300] [] 0 (bv true) []) (h2:OFn Tryz.prog G0 9 [] [] 0 (bv true) [])
    (r1:OFn Tryz.prog G0 10 [dcV s L F tab wd] [] 0 (.tup [.d (.agg [y1,y2,y3,y4,y5,y6]),bv true]) []) (r2:OFn Tryz.prog G0 11 [.d (.agg [y1,y2,y3,y4,y5,y6])] [] 0 (.tup [.d (.sd 7 false (A.map rwD)),iv 0]) [])
    (hl:l.length≤300) (r3:OFn Tryz.prog G0 14 [dcV s L F tab wd] [] 0 (.d (.agg [.sd 1 false (l.map ruD),iD n,.sd 5 false (M.map iyD),iD 0,.sd 2 false (H.map snD),d6,d7,d8])) []) :
    OFn Tryz.prog G0 4 [dcV s L F tab wd] [] 0 (bv true) []:=by
  have hlen:=g.len
  obtain ⟨tot,htot⟩ : ∃tot,tot=visR l H l.length 0:=⟨_,rfl⟩
  have htl:tot.length≤300:=by rw [htot];exact Nat.le_trans (visR_lenL l H l.length 0) hl
  rw [←htot] at hkp
  have r6:=pRunes_fn tot (by omega)
  obtain ⟨n0,T0,hA,hn0⟩:=g.nw
  have hpos:0<A.length:=by rw [hA];exact Nat.succ_pos _
  refine vF mixed [0,1,2,3,4,5,6,7,8,9,10,11,13,14,15,18,40,44,45,46,47,57,62,63,64,65,70,92,101,102,103,104,111] Tryz.func4 rfl Tryz.results4 Tryz.ntmps4 ?_
  (repeat' (first|(with_reducible first|exact True.intro|refine vD ?_|refine vG ?_|refine vE ?_)|with_reducible refine vC (hs) ?_|with_reducible refine vC (r1) ?_|with_reducible refine vC (r2) ?_|with_reducible refine vC (r3) ?_|(refine vRQ ?_)|refine vR ?_|refine v6 ?_|with_reducible refine vN ?_|((with_reducible first|refine vB (fun h =>?_) (fun h =>?_)|refine vM (fun h =>?_) (fun h =>?_))<;>(first|(exfalso;omega)|skip))))
  refine vL (lv:=[0,1,2,3,4,5,6,7,8,9,10,11,13,14,15,18,40,44,45,46,47,57,62,63,64,65,70,92,101,102,103,104,111]) mixed (kpO l n M H A) (fun x=>x.1≤A.length∧(x.1=0→x.2=[])∧(0<x.1→x.2++keepR (A.drop x.1)=tot)) (fun x=>A.length - x.1) ((0,[])) (GhW.nil 8 1<|(GhW.go [7,8,9,44,45,46] (by exact vT) rfl)) ?_ ?_
  · exact ⟨Nat.zero_le _,fun _=>rfl,fun h=>absurd h (Nat.lt_irrefl _)⟩
  rintro ⟨i,all⟩ ⟨g1,g2,g3⟩
  simp only at g1 g2 g3
  rcases Nat.lt_or_ge i A.length with hk|hk
  · obtain ⟨r,hr⟩ : ∃r,A[i]? = some r:=⟨_,List.getElem?_eq_getElem hk⟩
    obtain ⟨_,_,m3⟩:=g.mem r (List.mem_of_getElem? hr)
    obtain ⟨m4,_⟩:=g.cel r (List.mem_of_getElem? hr)
    have hdr:A.drop i=r::A.drop (i+1):=drop_aF hr
    have hnx:(if i=0 then [] else if r.2.2.2.2.1=true then all else all++[10])++(plainC r.1++keepR (A.drop (i+1)))=tot:=by
      rcases Nat.eq_zero_or_pos i with h0|h0
      · subst h0
        rw [if_pos rfl]
        have e:r=n0:=by rw [hA] at hr;simpa using hr.symm
        rw [List.drop_zero] at hdr
        rw [hdr,keepR,e,hn0,if_neg (by decide)] at hkp
        simp only [List.cons_append,List.nil_append,List.cons.injEq,true_and] at hkp
        rw [e]
        exact hkp
      · rw [if_neg (by omega),←g3 h0,hdr,keepR]
        split<;>simp [plainR]
    have hall:all.length≤300:=by
      rcases Nat.eq_zero_or_pos i with h0|h0
      · rw [g2 h0];exact Nat.zero_le _
      · have:=congrArg List.length (g3 h0)
        rw [List.length_append] at this;omega
    obtain ⟨cs,st,en,bk,wr,fo,wx⟩:=r
    simp only at m3 m4 hnx
    generalize hrest:keepR (A.drop (i+1))=rest at *
    have hx1:0<i→wr=false→(all++[10])++(plainC cs++rest)=tot:=fun h0 hw=>by
      rw [if_neg (by omega),hw,if_neg (by decide)] at hnx;exact hnx
    have hx2 : ¬(0<i∧wr=false)→all++(plainC cs++rest)=tot:=fun hn=>by
      by_cases h0:i=0
      · rw [if_pos h0] at hnx;rw [g2 h0];exact hnx
      · have hw:wr=true:=by
          cases wr with
          | true=>rfl
          | false=>exact (hn ⟨by omega,rfl⟩).elim
        rw [if_neg h0,if_pos hw] at hnx;exact hnx
    have key : ∀(al X:List Int),al++X=tot→al.length≤300:=fun al X h=>by
      have:=congrArg List.length h
      rw [List.length_append] at this;omega
    clear hnx hkp
    by_cases hcnd:0<i∧wr=false
    · have hy1:=hx1 hcnd.1 hcnd.2
      clear hx1 hx2
      obtain ⟨h01,rfl⟩:=hcnd
      (repeat' (first|(with_reducible first|exact True.intro|refine vD ?_|refine vG ?_|refine vE ?_)|(with_reducible refine elX.is i _ (by omega) hr ?_)|(refine vRQ ?_)|refine vR ?_|refine v6 ?_|with_reducible refine vN ?_|((with_reducible first|refine vB (fun h =>?_) (fun h =>?_)|refine vM (fun h =>?_) (fun h =>?_))<;>(first|(exfalso;omega)|skip))))
      rw [show all.map ruD++[D.lit (Value.int IntKind.i32 10)]=(all++[10]).map ruD from snoc_ru all 10,List.length_map]
      refine vL (lv:=[0,1,2,3,4,5,6,7,8,9,10,11,13,14,15,18,40,44,45,46,47,57,62,63,64,65,70,92,101,102,103,104,111]) mixed (kpI l n M H A i cs) (fun y=>y.1≤cs.length∧y.2++(plainC (cs.drop y.1)++rest)=tot) (fun y=>cs.length - y.1) ((0,all++[10])) ((GhW.go [7,8,9,44,45,46,62,63,64] (by exact vT) rfl)) ?_ ?_
      · exact ⟨Nat.zero_le _,hy1⟩
      rintro ⟨k,o2⟩ ⟨q1,q2⟩
      simp only at q1 q2
      have hol:o2.length≤300:=key o2 _ q2
      rcases Nat.lt_or_ge k cs.length with hkl|hkg
      · obtain ⟨c,hc⟩ : ∃c,cs[k]? = some c:=⟨_,List.getElem?_eq_getElem hkl⟩
        rw [drop_aF hc,plainC,List.filter_cons] at q2
        have hm:=m3 c (List.mem_of_getElem? hc)
        obtain ⟨cr,ck,cW,ca⟩:=c
        simp only at hm q2
        by_cases hk1:ck=1
        · obtain ⟨kk,rfl,hkk⟩:=hm hk1
          have hkl2:=(List.getElem?_eq_some_iff.1 hkk).1
          rw [if_pos (by simpa using hk1)] at q2
          (repeat' (first|(with_reducible first|exact True.intro|refine vD ?_|refine vG ?_|refine vE ?_)|(with_reducible refine elX.is k _ (by omega) hc ?_)|(with_reducible refine elX.is kk _ (by omega) hkk ?_)|(refine vRQ ?_)|refine vR ?_|refine v6 ?_|with_reducible refine vN ?_|((with_reducible first|refine vB (fun h =>?_) (fun h =>?_)|refine vM (fun h =>?_) (fun h =>?_))<;>(first|(exfalso;omega)|skip))))
          rw [show o2.map ruD++[D.lit (Value.int IntKind.i32 cr)]=(o2++[cr]).map ruD from snoc_ru o2 cr,List.length_map]
          refine AgW.go ((k+1,o2++[cr])) [7,8,9,44,45,46,62,63,64] (by exact vT) ?_ ?_
          · show cs.length - (k+1)<cs.length - k
            omega
          · exact ⟨hkl,by rw [←q2];simp⟩
        · rw [if_neg (by simpa using hk1)] at q2
          (repeat' (first|(with_reducible first|exact True.intro|refine vD ?_|refine vG ?_|refine vE ?_)|(with_reducible refine elX.is k _ (by omega) hc ?_)|(refine vRQ ?_)|refine vR ?_|refine v6 ?_|with_reducible refine vN ?_|((with_reducible first|refine vB (fun h =>?_) (fun h =>?_)|refine vM (fun h =>?_) (fun h =>?_))<;>(first|(exfalso;omega)|skip))))
          refine AgW.go ((k+1,o2)) [7,8,9,44,45,46,62,63,64] (by exact vT) ?_ ?_
          · show cs.length - (k+1)<cs.length - k
            omega
          · exact ⟨hkl,q2⟩
      · rw [List.drop_of_length_le hkg,plainC,List.filter_nil,List.map_nil,List.nil_append] at q2
        (refine' zg)
        refine AgW.go ((i+1,o2)) [7,8,9,44,45,46] (by exact vT) ?_ ?_
        · show A.length - (i+1)<A.length - i
          omega
        · exact ⟨hk,fun h=>absurd h (Nat.succ_ne_zero i),fun _=>by show o2++keepR (A.drop (i+1))=tot;rw [hrest];exact q2⟩
    · have hy2:=hx2 hcnd
      clear hx1 hx2
      (repeat' (first|(with_reducible first|exact True.intro|refine vD ?_|refine vG ?_|refine vE ?_)|(with_reducible refine elX.is i _ (by omega) hr ?_)|(refine vRQ ?_)|refine vR ?_|refine v6 ?_|with_reducible refine vN ?_|((with_reducible first|refine vB (fun h =>?_) (fun h =>?_)|refine vM (fun h =>?_) (fun h =>?_))<;>(first|(exfalso;omega)|skip))))
      · have hh:0<(i:Int)∧wr=false:=by assumption
        exact (hcnd ⟨by omega,hh.2⟩).elim
      · refine vL (lv:=[0,1,2,3,4,5,6,7,8,9,10,11,13,14,15,18,40,44,45,46,47,57,62,63,64,65,70,92,101,102,103,104,111]) mixed (kpI l n M H A i cs) (fun y=>y.1≤cs.length∧y.2++(plainC (cs.drop y.1)++rest)=tot) (fun y=>cs.length - y.1) ((0,all)) ((GhW.go [7,8,9,44,45,46,62,63,64] (by exact vT) rfl)) ?_ ?_
        · exact ⟨Nat.zero_le _,hy2⟩
        rintro ⟨k,o2⟩ ⟨q1,q2⟩
        simp only at q1 q2
        have hol:o2.length≤300:=key o2 _ q2
        rcases Nat.lt_or_ge k cs.length with hkl|hkg
        · obtain ⟨c,hc⟩ : ∃c,cs[k]? = some c:=⟨_,List.getElem?_eq_getElem hkl⟩
          rw [drop_aF hc,plainC,List.filter_cons] at q2
          have hm:=m3 c (List.mem_of_getElem? hc)
          obtain ⟨cr,ck,cW,ca⟩:=c
          simp only at hm q2
          by_cases hk1:ck=1
          · obtain ⟨kk,rfl,hkk⟩:=hm hk1
            have hkl2:=(List.getElem?_eq_some_iff.1 hkk).1
            rw [if_pos (by simpa using hk1)] at q2
            (repeat' (first|(with_reducible first|exact True.intro|refine vD ?_|refine vG ?_|refine vE ?_)|(with_reducible refine elX.is k _ (by omega) hc ?_)|(with_reducible refine elX.is kk _ (by omega) hkk ?_)|(refine vRQ ?_)|refine vR ?_|refine v6 ?_|with_reducible refine vN ?_|((with_reducible first|refine vB (fun h =>?_) (fun h =>?_)|refine vM (fun h =>?_) (fun h =>?_))<;>(first|(exfalso;omega)|skip))))
            rw [show o2.map ruD++[D.lit (Value.int IntKind.i32 cr)]=(o2++[cr]).map ruD from snoc_ru o2 cr,List.length_map]
            refine AgW.go ((k+1,o2++[cr])) [7,8,9,44,45,46,62,63,64] (by exact vT) ?_ ?_
            · show cs.length - (k+1)<cs.length - k
              omega
            · exact ⟨hkl,by rw [←q2];simp⟩
          · rw [if_neg (by simpa using hk1)] at q2
            (repeat' (first|(with_reducible first|exact True.intro|refine vD ?_|refine vG ?_|refine vE ?_)|(with_reducible refine elX.is k _ (by omega) hc ?_)|(refine vRQ ?_)|refine vR ?_|refine v6 ?_|with_reducible refine vN ?_|((with_reducible first|refine vB (fun h =>?_) (fun h =>?_)|refine vM (fun h =>?_) (fun h =>?_))<;>(first|(exfalso;omega)|skip))))
            refine AgW.go ((k+1,o2)) [7,8,9,44,45,46,62,63,64] (by exact vT) ?_ ?_
            · show cs.length - (k+1)<cs.length - k
              omega
            · exact ⟨hkl,q2⟩
        · rw [List.drop_of_length_le hkg,plainC,List.filter_nil,List.map_nil,List.nil_append] at q2
          (refine' zg)
          refine AgW.go ((i+1,o2)) [7,8,9,44,45,46] (by exact vT) ?_ ?_
          · show A.length - (i+1)<A.length - i
            omega
          · exact ⟨hk,fun h=>absurd h (Nat.succ_ne_zero i),fun _=>by show o2++keepR (A.drop (i+1))=tot;rw [hrest];exact q2⟩
  · have hi:i=A.length:=by omega
    have hfin:all=tot:=by
      have:=g3 (by omega)
      rwa [List.drop_of_length_le hk,keepR,List.append_nil] at this
    subst hfin
    (refine' zg)
    refine vL (lv:=[0,1,2,3,4,5,6,7,8,9,10,11,13,14,15,18,40,44,45,46,47,57,62,63,64,65,70,92,101,102,103,104,111]) mixed (kpW l n M H all) (fun x=>x.1≤l.length∧x.2=visR l H x.1 0) (fun x=>l.length - x.1) ((0,[])) (GhW.nil 9 1<|(GhW.go [7,8,9,101,102,103] (by exact vT) rfl)) ?_ ?_
    · exact ⟨Nat.zero_le _,rfl⟩
    rintro ⟨k,want⟩ ⟨w1,w2⟩
    simp only at w1 w2
    have hwl:want.length≤k:=by rw [w2];exact visR_lenL l H k 0
    rcases Nat.lt_or_ge k l.length with hkl|hkg
    · obtain ⟨r,hrk⟩ : ∃r,l[k]? = some r:=⟨_,List.getElem?_eq_getElem hkl⟩
      have hv:visR l H (k+1) 0=want++(if (hidO H k).isNone=true then [r] else []):=by
        rw [visR_app l H k 1 0,←w2,Nat.zero_add]
        simp only [visR,hrk,Option.toList,List.append_nil]
      have r7:=hid23_fn l n M H hH k
      cases hh:hidO H k with
      | none=>
        rw [hh] at hv r7
        rw [Option.isNone_none,if_pos rfl] at hv
        rw [Option.isSome_none] at r7
        (repeat' (first|(with_reducible first|exact True.intro|refine vD ?_|refine vG ?_|refine vE ?_)|(with_reducible refine elX.is k _ (by omega) hrk ?_)|with_reducible refine vC (r7) ?_|with_reducible refine vQ (r7) ?_|refine vR ?_|refine v6 ?_|with_reducible refine vN ?_|((with_reducible first|refine vB (fun h =>?_) (fun h =>?_)|refine vM (fun h =>?_) (fun h =>?_))<;>(first|(exfalso;omega)|skip))))
        rw [show want.map ruD++[D.lit (Value.int IntKind.i32 r)]=(want++[r]).map ruD from snoc_ru want r,List.length_map]
        refine AgW.go ((k+1,want++[r])) [7,8,9,101,102,103] (by exact vT) ?_ ?_
        · show l.length - (k+1)<l.length - k
          omega
        · exact ⟨hkl,hv.symm⟩
      | some y=>
        rw [hh] at hv r7
        simp only [Option.isNone_some,Bool.false_eq_true,if_false,List.append_nil] at hv
        rw [Option.isSome_some] at r7
        (repeat' (first|(with_reducible first|exact True.intro|refine vD ?_|refine vG ?_|refine vE ?_)|(with_reducible refine elX.is k _ (by omega) hrk ?_)|with_reducible refine vC (r7) ?_|with_reducible refine vQ (r7) ?_|refine vR ?_|refine v6 ?_|with_reducible refine vN ?_|((with_reducible first|refine vB (fun h =>?_) (fun h =>?_)|refine vM (fun h =>?_) (fun h =>?_))<;>(first|(exfalso;omega)|skip))))
        refine AgW.go ((k+1,want)) [7,8,9,101,102,103] (by exact vT) ?_ ?_
        · show l.length - (k+1)<l.length - k
          omega
        · exact ⟨hkl,hv.symm⟩
    · have hke:k=l.length:=by omega
      rw [hke,←htot] at w2
      subst w2
      (refine' zg)
      refine CallW.frz 1 rfl ?_
      (refine' zg)
      refine CallW.frz 2 rfl ?_
      (repeat' (first|(with_reducible first|exact True.intro|refine vD ?_|refine vG ?_|refine vE ?_)|with_reducible refine vC (r6) ?_|with_reducible refine vC (h2) ?_|with_reducible refine vQ (h2) ?_|(refine vRQ ?_)|with_reducible refine DoneW.out ?_|refine vR ?_|refine v6 ?_|with_reducible refine vN ?_|((with_reducible first|refine vB (fun h =>?_) (fun h =>?_)|refine vM (fun h =>?_) (fun h =>?_))<;>(first|(exfalso;omega)|skip))))
end
end Go.Proofs.YtihghiojmhegoaaGreatDoor
