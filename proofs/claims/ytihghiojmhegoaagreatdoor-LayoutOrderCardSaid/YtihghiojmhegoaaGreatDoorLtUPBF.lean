/- What the theorem leans on, part 32. -/
import Derived.Test.YtihghiojmhegoaaGreatDoorLtUPBE
set_option linter.unusedSimpArgs false
set_option linter.unusedVariables false
set_option maxRecDepth 8000
namespace Go.Proofs.YtihghiojmhegoaaGreatDoor
theorem over_fn (x y:Sn):OFn Tryz.prog G0 63 [.d (snD x),.d (snD y)] [] 0 (bv (decide (x.1<y.2)&&decide (y.1<x.2))) []:=by
  refine vF mixed [0,1,2,3,4] Tryz.func63 rfl Tryz.results63 Tryz.ntmps63 ?_
  (refine' zoS)
def dhFs (x:Nat × List Sn):St:=⟨[(3,snL x.2),(4,iv x.1)],[],0⟩
attribute [push_cast] dhFs.eq_def
def hidR (l:List Sn) (i:Nat):List Sn:=match l.drop i with
  | []=>l.take i
  | c::r=>l.take i++hidG c r
structure DhP (l:List Sn) (x:Nat × List Sn):Prop where
  le:x.1≤x.2.length
  len:x.2.length≤l.length
  so:x.2.Pairwise fun a b=>a.1≤b.1
  ne : ∀a∈x.2,a.1<a.2
  fin:hidR x.2 x.1=hidF l
set_option maxHeartbeats 6400000 in
theorem dHid_all (n e:Int) (l:List Sn) (hl:l.length≤1000) (hs:l.Pairwise fun a b=>a.1≤b.1) (hne : ∀a∈l,a.1<a.2):OFn Tryz.prog G0 34 [.d (.agg [iD n,.sd 2 false (l.map snD),iD e])] [] 0 (.d (.sd 2 false ((hidF l).map snD))) []:=by
  refine vF mixed [0,1,2,3,4,5,6,15,26,41] Tryz.func34 rfl Tryz.results34 Tryz.ntmps34 ?_
  (refine' zg)
  refine vL (lv:=[0,1,2,3,4,5,6,15,26,41]) mixed dhFs (DhP l) (fun x=>2*x.2.length - x.1) (0,l) (GhW.frz 24<|GhW.go [3,4] (by (refine vR ?_);rw [List.take_of_length_le (by simp)]) rfl) ?_ ?_
  · exact ⟨Nat.zero_le _,Nat.le_refl _,hs,hne,by cases l<;>rfl⟩
  rintro ⟨i,q⟩ ⟨g1,g2,g3,g4,g5⟩
  simp only at g1 g2 g3 g4 g5
  rcases Nat.lt_or_ge (i+1) q.length with hk|hk
  · obtain ⟨c,hc⟩ : ∃c,q[i]? = some c:=⟨_,List.getElem?_eq_getElem (by omega)⟩
    obtain ⟨x,hx⟩ : ∃x,q[i+1]? = some x:=⟨_,List.getElem?_eq_getElem hk⟩
    have r1:=over_fn c x
    have d1:=drop_aF hc
    have d2:=drop_aF hx
    have hcx:=List.pairwise_iff_getElem.1 g3 i (i+1) (by omega) hk (by omega)
    rw [(List.getElem?_eq_some_iff.1 hc).2,(List.getElem?_eq_some_iff.1 hx).2] at hcx
    have hc2:=g4 c (List.mem_of_getElem? hc)
    have hx2:=g4 x (List.mem_of_getElem? hx)
    rw [hidR,d1] at g5
    simp only at g5
    rw [d2,hidG] at g5
    obtain ⟨c1,c2⟩:=c
    obtain ⟨x1,x2⟩:=x
    simp only at hcx hc2 hx2 g5 r1
    rw [decide_eq_true (by omega:c1<x2),Bool.true_and] at r1
    by_cases ho:x1<c2
    · rw [if_pos ho] at g5
      rw [decide_eq_true ho] at r1
      have fin : ∀v:Int,v=max c2 x2→DhP l (i,q.take i++[(c1,v)]++q.drop (i+2)):=fun v hv=>by
        have hti:(q.take i).length=i:=by rw [List.length_take];omega
        have hsub : ∀a,a∈q.take i∨a∈q.drop (i+2)→a∈q:=fun a ha=>ha.elim List.mem_of_mem_take List.mem_of_mem_drop
        have hsp:q=q.take i++(c1,c2)::(x1,x2)::q.drop (i+2):=by
          conv=>lhs;rw [←List.take_append_drop i q,d1,d2]
        have hp:=g3
        rw [hsp] at hp
        obtain ⟨p1,p2,p3⟩:=List.pairwise_append.1 hp
        obtain ⟨p4,p5⟩:=List.pairwise_cons.1 p2
        obtain ⟨p6,p7⟩:=List.pairwise_cons.1 p5
        refine ⟨by simp only [List.length_append,List.length_singleton];omega,?_,?_,fun a ha =>?_,?_⟩
        · have:=congrArg List.length hsp
          simp only [List.length_append,List.length_cons,List.length_nil] at this ⊢
          omega
        · show ((q.take i++[(c1,v)])++q.drop (i+2)).Pairwise _
          rw [List.append_assoc]
          refine List.pairwise_append.2 ⟨p1,List.pairwise_cons.2 ⟨fun a ha=>p4 a (List.mem_cons_of_mem _ ha),p7⟩,fun a ha b hb =>?_⟩
          rcases List.mem_cons.1 hb with rfl|hb
          · exact p3 a ha (c1,c2) List.mem_cons_self
          · exact p3 a ha b (List.mem_cons_of_mem _ (List.mem_cons_of_mem _ hb))
        · have ha:a∈q.take i++[(c1,v)]++q.drop (i+2):=ha
          rw [List.append_assoc] at ha
          rcases List.mem_append.1 ha with ha|ha
          · exact g4 a (hsub a (.inl ha))
          · rcases List.mem_cons.1 ha with rfl|ha
            · show c1<v;omega
            · exact g4 a (hsub a (.inr ha))
        · show hidR (q.take i++[(c1,v)]++q.drop (i+2)) i=hidF l
          rw [←g5,hv,List.append_assoc,hidR,List.drop_left' hti,List.take_left' hti]
          rfl
      have el:(q.take i).map snD=List.take i (q.map snD):=List.map_take
      have er:(q.drop (i+2)).map snD=List.drop ((i:Int)+2).toNat (q.map snD):=by rw [show ((i:Int)+2).toNat=i+2 by omega];exact List.map_drop
      have em : ∀v:Int,List.take i (q.map snD)++[D.agg [iD c1,iD v]]++List.drop ((i:Int)+2).toNat (q.map snD)=(q.take i++[(c1,v)]++q.drop (i+2)).map snD:=fun v=>by
        rw [List.map_append,List.map_append,el,er];rfl
      have hmu : ∀v:Int,2*(q.take i++[(c1,v)]++q.drop (i+2)).length - i<2*q.length - i:=fun v=>by
        simp only [List.length_append,List.length_take,List.length_drop,List.length_singleton];omega
      (repeat' (first|(with_reducible first|exact True.intro|refine vD ?_|refine vG ?_|refine vE ?_)|(with_reducible refine elX.is i _ (by omega) hc ?_)|(with_reducible refine elX.is (i+1) _ (by omega) hx ?_)|with_reducible refine vC (r1) ?_|with_reducible refine vQ (r1) ?_|(refine vRS ?_)|refine vR ?_|refine v6 ?_|with_reducible refine vN ?_|((with_reducible first|refine vB (fun h =>?_) (fun h =>?_)|refine vM (fun h =>?_) (fun h =>?_))<;>(first|(exfalso;omega)|skip))))
      · rw [em]
        refine AgW.frz 240 ?_
        refine AgW.go (i,q.take i++[(c1,x2)]++q.drop (i+2)) [3,4] (by (refine vR ?_);rw [List.take_of_length_le (by simp)]) ?_ ?_
        · exact hmu x2
        · exact fin x2 (by omega)
      · rw [em]
        refine AgW.frz 212 ?_
        refine AgW.go (i,q.take i++[(c1,c2)]++q.drop (i+2)) [3,4] (by (refine vR ?_);rw [List.take_of_length_le (by simp)]) ?_ ?_
        · exact hmu c2
        · exact fin c2 (by omega)
    · rw [if_neg ho] at g5
      rw [decide_eq_false ho] at r1
      (repeat' (first|(with_reducible first|exact True.intro|refine vD ?_|refine vG ?_|refine vE ?_)|(with_reducible refine elX.is i _ (by omega) hc ?_)|(with_reducible refine elX.is (i+1) _ (by omega) hx ?_)|with_reducible refine vC (r1) ?_|with_reducible refine vQ (r1) ?_|(refine vRS ?_)|refine vR ?_|refine v6 ?_|with_reducible refine vN ?_|((with_reducible first|refine vB (fun h =>?_) (fun h =>?_)|refine vM (fun h =>?_) (fun h =>?_))<;>(first|(exfalso;omega)|skip))))
      refine AgW.go ((i+1,q)) [3,4] (by exact vT) ?_ ?_
      · show 2*q.length - (i+1)<2*q.length - i
        omega
      · refine ⟨by show i+1≤q.length;omega,g2,g3,g4,?_⟩
        show hidR q (i+1)=hidF l
        rw [←g5,hidR,d2]
        show q.take (i+1)++hidG (x1,x2) (q.drop (i+1+1))=_
        rw [take_snoc' hc]
        simp
  · have hq:q=hidF l:=by
      rw [←g5,hidR]
      rcases Nat.lt_or_ge i q.length with hk2|hk2
      · obtain ⟨c,hc⟩ : ∃c,q[i]? = some c:=⟨_,List.getElem?_eq_getElem hk2⟩
        rw [drop_aF hc,List.drop_of_length_le (by omega)]
        show q=q.take i++[c]
        rw [←take_snoc' hc,List.take_of_length_le (by omega)]
      · rw [List.drop_of_length_le hk2]
        show q=q.take i
        rw [List.take_of_length_le hk2]
    subst hq
    (refine' zo)
end Go.Proofs.YtihghiojmhegoaaGreatDoor
