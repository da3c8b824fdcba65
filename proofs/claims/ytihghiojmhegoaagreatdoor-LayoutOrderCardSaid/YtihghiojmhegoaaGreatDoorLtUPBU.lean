/- What the theorem leans on, part 47. -/
import Derived.Test.YtihghiojmhegoaaGreatDoorLtUPAE
import Derived.Test.YtihghiojmhegoaaGreatDoorLtUPBO
import Derived.Test.YtihghiojmhegoaaGreatDoorLtUPBS
set_option linter.unusedSimpArgs false
set_option linter.unusedVariables false
set_option maxRecDepth 8000
namespace Go.Proofs.YtihghiojmhegoaaGreatDoor
section
variable {s:ByteArray} {L:List Iy} {F:List Sn} {tab:Int} {wd:Int}
theorem lawLayoutOrder_no (hn:OFn Tryz.prog G0 8 [dcV s L F tab wd,iv 300] [] 0 (bv false) []) (h2:OFn Tryz.prog G0 9 [] [] 0 (bv true) []):OFn Tryz.prog G0 6 [dcV s L F tab wd] [] 0 (bv true) []:=by
  refine vF mixed [0,1,2,3,4,5,6,7,8,9,10,13,41,46,47,48,49,95,100,134] Tryz.func6 rfl Tryz.results6 Tryz.ntmps6 ?_
  (refine' zo2 hn h2)
def orO (A:List Rw) (l:List Int) (i:Nat):St:=⟨[(5,.d (.sd 7 false (A.map rwD))),(7,ruL l),(46,.d (.sd 7 false (A.map rwD))),(47,iv A.length),(48,iv i)],[],0⟩
attribute [push_cast] orO.eq_def
set_option maxHeartbeats 6400000 in
theorem lawLayoutOrder_m {y1 y2 y3 y4 y5 y6 d2 d3 d4 d5 d6 d7 d8:D} {l:List Int} {A:List Rw} (g:RowsG l wd A) (hs:OFn Tryz.prog G0 8 [dcV s L F tab wd,iv 300] [] 0 (bv true) []) (h2:OFn Tryz.prog G0 9 [] [] 0 (bv true) [])
    (r1:OFn Tryz.prog G0 10 [dcV s L F tab wd] [] 0 (.tup [.d (.agg [y1,y2,y3,y4,y5,y6]),bv true]) []) (r2:OFn Tryz.prog G0 11 [.d (.agg [y1,y2,y3,y4,y5,y6])] [] 0 (.tup [.d (.sd 7 false (A.map rwD)),iv 0]) [])
    (hl:l.length≤300) (r3:OFn Tryz.prog G0 14 [dcV s L F tab wd] [] 0 (.d (.agg [.sd 1 false (l.map ruD),d2,d3,d4,d5,d6,d7,d8])) []) :
    OFn Tryz.prog G0 6 [dcV s L F tab wd] [] 0 (bv true) []:=by
  have hlen:=g.len
  obtain ⟨n,T,hA,hn⟩:=g.nw
  have h0:A[0]? = some n:=by rw [hA];rfl
  have hpos:0<A.length:=by rw [hA];exact Nat.succ_pos _
  obtain ⟨z,hz⟩ : ∃z,A[A.length - 1]? = some z:=⟨_,List.getElem?_eq_getElem (by omega)⟩
  have hze:=(okRs_at A g.ok _ z hz).2.2 (by omega)
  obtain ⟨n1,n2,n3,n4,n5,n6,n7⟩:=n
  obtain ⟨z1,z2,z3,z4,z5,z6,z7⟩:=z
  simp only at hn hze
  subst hn
  subst hze
  clear hA
  refine vF mixed [0,1,2,3,4,5,6,7,8,9,10,13,41,46,47,48,49,95,100,134] Tryz.func6 rfl Tryz.results6 Tryz.ntmps6 ?_
  (repeat' (first|(with_reducible first|exact True.intro|refine vD ?_|refine vG ?_|refine vE ?_)|with_reducible refine vC (hs) ?_|with_reducible refine vC (r1) ?_|with_reducible refine vC (r2) ?_|with_reducible refine vC (r3) ?_|(refine vRQ ?_)|(with_reducible refine elX.is 0 _ (by omega) h0 ?_)|refine vR ?_|refine v6 ?_|with_reducible refine vN ?_|((with_reducible first|refine vB (fun h =>?_) (fun h =>?_)|refine vM (fun h =>?_) (fun h =>?_))<;>(first|(exfalso;omega)|skip))))
  refine vL (lv:=[0,1,2,3,4,5,6,7,8,9,10,13,41,46,47,48,49,95,100,134]) mixed (orO A l) (fun i=>i≤A.length) (fun i=>A.length - i) (0) ((GhW.go [5,7,46,47,48] (by exact vT) rfl)) ?_ ?_
  · exact Nat.zero_le _
  intro i hi
  rcases Nat.lt_or_ge i A.length with hk|hk
  · obtain ⟨r,hr⟩ : ∃r,A[i]? = some r:=⟨_,List.getElem?_eq_getElem hk⟩
    obtain ⟨⟨q1,q2,q3,q4,q5⟩,q6,q7⟩:=okRs_at A g.ok i r hr
    obtain ⟨p,hp⟩ : ∃p,0<i→A[i - 1]? = some p∧p.2.1≤r.2.1∧p.2.2.2.1≤r.2.2.2.1:=by
      rcases Nat.eq_zero_or_pos i with h|h
      · exact ⟨([],0,0,0,false,false,0),fun h'=>by omega⟩
      · obtain ⟨p,hp⟩ : ∃p,A[i - 1]? = some p:=⟨_,List.getElem?_eq_getElem (by omega)⟩
        have:=(okRs_at A g.ok (i - 1) p hp).2.1 r (by rw [show i - 1+1=i by omega];exact hr)
        exact ⟨p,fun _=>⟨hp,this.1,this.2.1⟩⟩
    obtain ⟨x,hx⟩ : ∃x,i+1<A.length→A[i+1]? = some x∧(x.2.2.2.2.1=true→x.2.1=r.2.2.1)∧(x.2.2.2.2.1=false → ∃k:Nat,r.2.2.1=k∧l[k]? = some 10):=by
      by_cases h:i+1<A.length
      · obtain ⟨x,hx⟩ : ∃x,A[i+1]? = some x:=⟨_,List.getElem?_eq_getElem h⟩
        have:=q6 x hx
        exact ⟨x,fun _=>⟨hx,this.2.2⟩⟩
      · exact ⟨([],0,0,0,false,false,0),fun h'=>(h h').elim⟩
    clear q4 q5 q6
    obtain ⟨cs,st,en,bk,wr,fo,wx⟩:=r
    obtain ⟨p1,p2,p3,p4,p5,p6,p7⟩:=p
    obtain ⟨x1,x2,x3,x4,x5,x6,x7⟩:=x
    simp only at q1 q2 q3 q7 hp hx
    obtain ⟨e,rfl⟩ : ∃e:Nat,en=e:=⟨en.toNat,by omega⟩
    rcases Nat.eq_zero_or_pos i with hi0|hi0
    · subst hi0
      clear hp p1 p2 p3 p4 p5 p6 p7
      (repeat' (first|(with_reducible first|exact True.intro|refine vD ?_|refine vG ?_|refine vE ?_)|(with_reducible refine elX.is 0 _ (by omega) hr ?_)|(refine vRQ ?_)|refine vR ?_|refine v6 ?_|with_reducible refine vN ?_|((with_reducible first|refine vB (fun h =>?_) (fun h =>?_)|refine vM (fun h =>?_) (fun h =>?_))<;>(first|(exfalso;omega)|skip))))
      · refine AgW.go (1) [5,7,46,47,48] (by exact vT) ?_ ?_
        · show A.length - 1<A.length - 0
          omega
        · show 1≤A.length
          omega
      · obtain ⟨hx1,hx2,hx3⟩:=hx (by omega)
        refine elX.is 1 _ (by omega) hx1 ?_
        cases x5 with
        | true=>
          have:=hx2 rfl
          subst this
          (repeat' (first|(with_reducible first|exact True.intro|refine vD ?_|refine vG ?_|refine vE ?_)|(refine vRQ ?_)|refine vR ?_|refine v6 ?_|with_reducible refine vN ?_|((with_reducible first|refine vB (fun h =>?_) (fun h =>?_)|refine vM (fun h =>?_) (fun h =>?_))<;>(first|(exfalso;omega)|skip))))
          refine AgW.go (1) [5,7,46,47,48] (by exact vT) ?_ ?_
          · show A.length - 1<A.length - 0
            omega
          · show 1≤A.length
            omega
        | false=>
          obtain ⟨k,hke,hk10⟩:=hx3 rfl
          obtain rfl:e=k:=by omega
          have hkl:=(List.getElem?_eq_some_iff.1 hk10).1
          (repeat' (first|(with_reducible first|exact True.intro|refine vD ?_|refine vG ?_|refine vE ?_)|(with_reducible refine elX.is e _ (by omega) hk10 ?_)|(refine vRQ ?_)|refine vR ?_|refine v6 ?_|with_reducible refine vN ?_|((with_reducible first|refine vB (fun h =>?_) (fun h =>?_)|refine vM (fun h =>?_) (fun h =>?_))<;>(first|(exfalso;omega)|skip))))
          refine AgW.go (1) [5,7,46,47,48] (by exact vT) ?_ ?_
          · show A.length - 1<A.length - 0
            omega
          · show 1≤A.length
            omega
    · obtain ⟨hp1,hp2,hp3⟩:=hp hi0
      (repeat' (first|(with_reducible first|exact True.intro|refine vD ?_|refine vG ?_|refine vE ?_)|(with_reducible refine elX.is i _ (by omega) hr ?_)|(with_reducible refine elX.is (i - 1) _ (by omega) hp1 ?_)|(refine vRQ ?_)|refine vR ?_|refine v6 ?_|with_reducible refine vN ?_|((with_reducible first|refine vB (fun h =>?_) (fun h =>?_)|refine vM (fun h =>?_) (fun h =>?_))<;>(first|(exfalso;omega)|skip))))
      · refine AgW.go (i+1) [5,7,46,47,48] (by exact vT) ?_ ?_
        · show A.length - (i+1)<A.length - i
          omega
        · exact hk
      · obtain ⟨hx1,hx2,hx3⟩:=hx (by omega)
        refine elX.is (i+1) _ (by omega) hx1 ?_
        cases x5 with
        | true=>
          have:=hx2 rfl
          subst this
          (repeat' (first|(with_reducible first|exact True.intro|refine vD ?_|refine vG ?_|refine vE ?_)|(refine vRQ ?_)|refine vR ?_|refine v6 ?_|with_reducible refine vN ?_|((with_reducible first|refine vB (fun h =>?_) (fun h =>?_)|refine vM (fun h =>?_) (fun h =>?_))<;>(first|(exfalso;omega)|skip))))
          refine AgW.go (i+1) [5,7,46,47,48] (by exact vT) ?_ ?_
          · show A.length - (i+1)<A.length - i
            omega
          · exact hk
        | false=>
          obtain ⟨k,hke,hk10⟩:=hx3 rfl
          obtain rfl:e=k:=by omega
          have hkl:=(List.getElem?_eq_some_iff.1 hk10).1
          (repeat' (first|(with_reducible first|exact True.intro|refine vD ?_|refine vG ?_|refine vE ?_)|(with_reducible refine elX.is e _ (by omega) hk10 ?_)|(refine vRQ ?_)|refine vR ?_|refine v6 ?_|with_reducible refine vN ?_|((with_reducible first|refine vB (fun h =>?_) (fun h =>?_)|refine vM (fun h =>?_) (fun h =>?_))<;>(first|(exfalso;omega)|skip))))
          refine AgW.go (i+1) [5,7,46,47,48] (by exact vT) ?_ ?_
          · show A.length - (i+1)<A.length - i
            omega
          · exact hk
  · (repeat' (first|(with_reducible first|exact True.intro|refine vD ?_|refine vG ?_|refine vE ?_)|(with_reducible refine elX.is (A.length - 1) _ (by omega) hz ?_)|with_reducible refine vC (h2) ?_|with_reducible refine vQ (h2) ?_|(refine vRQ ?_)|with_reducible refine DoneW.out ?_|refine vR ?_|refine v6 ?_|with_reducible refine vN ?_|((with_reducible first|refine vB (fun h =>?_) (fun h =>?_)|refine vM (fun h =>?_) (fun h =>?_))<;>(first|(exfalso;omega)|skip))))
end
end Go.Proofs.YtihghiojmhegoaaGreatDoor
