/- What the theorem leans on, part 29. -/
import Derived.Test.YtihghiojmhegoaaGreatDoorLtUPAP
import Derived.Test.YtihghiojmhegoaaGreatDoorLtUPAV
import Derived.Test.YtihghiojmhegoaaGreatDoorLtUPBA
import Derived.Test.YtihghiojmhegoaaGreatDoorLtUPBB
set_option linter.unusedSimpArgs false
set_option linter.unusedVariables false
set_option maxRecDepth 8000
namespace Go.Proofs.YtihghiojmhegoaaGreatDoor
theorem fits_yes (x:Sn) (n:Int) (h:0≤x.1∧x.1≤x.2∧x.2≤n):OFn Tryz.prog G0 51 [.d (snD x),iv n] [] 0 (bv true) []:=by
  refine vF mixed [0,1,2,4] Tryz.func51 rfl Tryz.results51 Tryz.ntmps51 ?_
  (refine' zoS)
  rw [decide_eq_true h.1,decide_eq_true h.2.1,decide_eq_true h.2.2];rfl
theorem nSClone_fn (l:List Sn) (hl:0<l.length) (hl2:l.length≤100000):OFn Tryz.prog G0 52 [.d (.sd 2 false (l.map snD))] [] 0 (.so 0 2 0 l.length) [(0,.row 2 (l.map snD))]:=by
  rcases l with _|⟨x,r⟩
  · simp at hl
  simp only [List.map_cons]
  have hr:r.length≤100000:=by simp at hl2;omega
  refine vF mixed [0,2,4] Tryz.func52 rfl Tryz.results52 Tryz.ntmps52 ?_
  (refine' zg)
  refine DoneW.now [20] (by decide) ?_
  (refine' zg)
  exact Sub_refl _
theorem nSClone_nil:OFn Tryz.prog G0 52 [.d nilSD] [] 0 (.d nilSD) []:=by
  refine vF mixed [0,2,4] Tryz.func52 rfl Tryz.results52 Tryz.ntmps52 ?_
  (refine' zo)
abbrev idsS (l:List Sn):List (Value × D):=l.map fun x=>(.agg #[.int .i64 x.1,.int .i64 x.2],.agg [])
theorem eqVals_two {a b c d:Int} : eqVals [.int .i64 a,.int .i64 b] [.int .i64 c,.int .i64 d]=true↔a=c∧b=d:=by
  simp [eqVals,eqVal]
theorem findS_no {a b:Int} : ∀ {l:List Sn},(a,b)∉l→findS [.int .i64,.int .i64] [.int .i64 a,.int .i64 b] (idsS l)=some none
  | [],_=>rfl
  | x::r,h=>by
    have ih:=findS_no (l:=r) (fun k=>h (List.mem_cons_of_mem _ k))
    have hx : ¬(a=x.1∧b=x.2):=fun e=>h (by rw [e.1,e.2];exact List.mem_cons_self)
    rw [show idsS (x::r)=(.agg #[.int .i64 x.1,.int .i64 x.2],.agg [])::idsS r from rfl,findS]
    rw [if_pos (show fitsB [CK.int .i64,CK.int .i64] #[Value.int .i64 x.1,Value.int .i64 x.2].toList=true from rfl),if_neg (fun h=>hx (eqVals_two.1 h)),ih]
theorem mapT_sp:mapT Tryz.prog 130=none:=by kernel_rfl
theorem mapS_sp:mapS Tryz.prog 130=some (118,98):=by kernel_rfl
theorem keyOk_sp:KeyOk Tryz.prog 98 [.int .i64,.int .i64]:=KeyOk.of2 teq98 (by kernel_rfl)
attribute [push_cast] mapT_sp mapS_sp keyOk_sp
def fdS (n:Int) (l:List Sn) (k:Nat):St:=
  ⟨[(0,iv n),(1,.d (.sd 2 false (l.map snD))),(6,.mo 0),(27,.d (.sd 2 false (l.map snD))),(28,iv l.length),(29,iv k)],[(0,.map (idsS (l.take k)))],1⟩
def fdT (n:Int) (ys:List Sn) (x:Nat × List Sn):St:=
  ⟨[(11,.po 0 0),(70,.so 1 2 0 ys.length),(71,iv ys.length),(72,iv x.1)],[(0,.cell [iv n,.so 1 2 0 ys.length,.so 2 2 0 x.2.length]),(1,.row 2 (ys.map snD)),(2,.row 2 (x.2.map snD))],3⟩
attribute [push_cast] fdS.eq_def fdT.eq_def
def hidW (h r:List Sn):List Sn:=match h.getLast? with
  | none=>hidF r
  | some c=>h.dropLast++hidG c r
theorem hidW_nil (r:List Sn):hidW [] r=hidF r:=rfl
theorem hidW_snoc (h:List Sn) (c:Sn) (r:List Sn):hidW (h++[c]) r=h++hidG c r:=by simp [hidW]
theorem drop_aF {α:Type} {l:List α} {k:Nat} {x:α} (h:l[k]? = some x):l.drop k=x::l.drop (k+1):=by
  obtain ⟨h1,rfl⟩:=List.getElem?_eq_some_iff.1 h
  exact List.drop_eq_getElem_cons h1
theorem modify_last (F:D→D) (x y:Sn) (h:F (snD x)=snD y) : ∀q:List Sn,((q++[x]).map snD).modify q.length F=(q++[y]).map snD
  | []=>by simp [h]
  | z::r=>by rw [List.cons_append,List.map_cons,List.length_cons,List.modify_succ_cons,modify_last F x y h r];rfl
set_option maxHeartbeats 6400000 in
theorem fdNew_ex (n:Int) (l:List Sn) (hn:0≤n∧n≤1099511627776) (hl:0<l.length) (hl2:l.length≤60) (he:flErr n [] l=0) :
    ∃ys:List Sn,(ys.Perm l∧Srt ltSn 0 l.length ys)∧OFn Tryz.prog G0 27 [iv n,.d (.sd 2 false (l.map snD))] [] 0 (.tup [.d (.pd 3 [.agg [iD n,.sd 2 false (ys.map snD),.sd 2 false ((hidF ys).map snD)]] 0 0),iv 0]) []:=by
  have hS : ∃ys,(ys.Perm l∧Srt ltSn 0 l.length ys)∧OFn Tryz.prog G0 53 [.so 0 2 0 l.length,.d (.fn 54 [])] [(0,.row 2 (l.map snD))] 1 (.tup []) [(0,.row 2 (ys.map snD))]:=by
    obtain ⟨ys,⟨h1,h2⟩,hf⟩:=SrtSn.sort_ex l l.length rfl (by omega)
    exact ⟨ys,⟨h1,fun p q x y a b c d e k=>h2 p q x y a b c d e ((SrtSn.cB_lt y x).2 k)⟩,hf⟩
  obtain ⟨ys,⟨hp,hsr⟩,hf⟩:=hS
  refine ⟨ys,⟨hp,hsr⟩,?_⟩
  have hyl:ys.length=l.length:=hp.length_eq
  have hc:=nSClone_fn l hl (by omega)
  refine vF mixed [0,1,4,5,6,8,10,11,13,14,15,22,27,28,29,30,45,52,70,71,72,73,96] Tryz.func27 rfl Tryz.results27 Tryz.ntmps27 ?_
  (refine' zg)
  refine vL (lv:=[0,1,4,5,6,8,10,11,13,14,15,22,27,28,29,30,45,52,70,71,72,73,96]) mixed (fdS n l) (fun k=>k≤l.length∧flErr n (l.take k) (l.drop k)=0) (fun k=>l.length - k) (0) ((GhW.go [0,1,6,27,28,29] (by exact vT) rfl)) ?_ ?_
  · exact ⟨Nat.zero_le _,he⟩
  rintro k ⟨h1,h2⟩
  rcases Nat.lt_or_ge k l.length with hk|hk
  · obtain ⟨x,hx⟩ : ∃x,l[k]? = some x:=⟨_,List.getElem?_eq_getElem hk⟩
    rw [List.drop_eq_getElem_cons hk,(List.getElem?_eq_some_iff.1 hx).2,flErr] at h2
    have hw : ¬badS n x:=fun h=>by rw [if_pos h] at h2;cases h2
    rw [if_neg hw] at h2
    have hm:x∉l.take k:=fun h=>by rw [if_pos h] at h2;cases h2
    rw [if_neg hm] at h2
    obtain ⟨a,b⟩:=x
    simp only [badS] at hw
    have hfe:=findS_no hm
    have r1:=fits_yes (a,b) n ⟨by omega,by omega,by omega⟩
    (refine' zg)
    refine elX.is k _ (by omega) hx ?_
    (repeat' (first|(with_reducible first|exact True.intro|refine vD ?_|refine vG ?_|refine vE ?_)|(refine vRS ?_)|with_reducible refine vC (r1) ?_|with_reducible refine vQ (r1) ?_|refine vR ?_|refine v6 ?_|with_reducible refine vN ?_|((with_reducible first|refine vB (fun h =>?_) (fun h =>?_)|refine vM (fun h =>?_) (fun h =>?_))<;>(first|(exfalso;omega)|skip))))
    rw [hfe]
    (refine' zg)
    rw [hfe]
    (refine' zg)
    have e2:idsS (l.take k)++[(Value.agg #[Value.int IntKind.i64 a,Value.int IntKind.i64 b],D.agg [])]=idsS (l.take (k+1)):=by
      rw [take_snoc' hx,idsS,idsS,List.map_append];rfl
    rw [e2]
    refine AgW.go (k+1) [0,1,6,27,28,29] (by exact vT) ?_ ?_
    · show l.length - (k+1)<l.length - k
      omega
    · refine ⟨hk,?_⟩
      rw [take_snoc' hx]
      exact h2
  · obtain rfl:k=l.length:=by omega
    rw [fdS,List.take_length]
    (refine' zgK hc)
    refine CallW.put 13 hf (by kernel_rfl) rfl rfl rfl ?_
    (refine' zg)
    rw [←hyl]
    refine vL (lv:=[0,1,4,5,6,8,10,11,13,14,15,22,27,28,29,30,45,52,70,71,72,73,96]) mixed (fdT n ys) (fun x=>x.1≤ys.length∧x.2.length≤x.1∧hidW x.2 (ys.drop x.1)=hidF ys) (fun x=>ys.length - x.1) ((0,[])) (GhW.nilC 21 2 2<|(GhW.go [11,70,71,72] (by exact vT) rfl)) ?_ ?_
    · exact ⟨Nat.zero_le _,Nat.le_refl _,rfl⟩
    rintro ⟨k,h⟩ ⟨g1,g2,g3⟩
    simp only at g1 g2 g3
    rcases Nat.lt_or_ge k ys.length with hk|hk
    · obtain ⟨x,hx⟩ : ∃x,ys[k]? = some x:=⟨_,List.getElem?_eq_getElem hk⟩
      rw [drop_aF hx] at g3
      rcases List.eq_nil_or_concat h with rfl|⟨D0,c,rfl⟩
      · rw [hidW_nil,hidF] at g3
        obtain ⟨a,b⟩:=x
        have e1:[D.agg [iD a,iD b]]=([(a,b)]:List Sn).map snD:=rfl
        (repeat' (first|(with_reducible first|exact True.intro|refine vD ?_|refine vG ?_|refine vE ?_)|(with_reducible refine elX.is k _ (by omega) hx ?_)|(refine vRS ?_)|refine vR ?_|refine v6 ?_|with_reducible refine vN ?_|((with_reducible first|refine vB (fun h =>?_) (fun h =>?_)|refine vM (fun h =>?_) (fun h =>?_))<;>(first|(exfalso;omega)|skip))))
        rw [e1]
        refine AgW.go ((k+1,[(a,b)])) [11,70,71,72] (by exact vT) ?_ ?_
        · show ys.length - (k+1)<ys.length - k
          omega
        · exact ⟨hk,by show 1≤k+1;omega,g3⟩
      · obtain ⟨a,b⟩:=x
        obtain ⟨c1,c2⟩:=c
        rw [List.concat_eq_append] at g2 g3 ⊢
        rw [hidW_snoc,hidG] at g3
        have hcl:(D0++[(c1,c2)])[D0.length]? = some (c1,c2):=by simp
        have hql:(D0++[(c1,c2)]).length=D0.length+1:=by rw [List.length_append,List.length_singleton]
        have e2 : ∀v,(D0++[(c1,c2)]).set D0.length v=D0++[v]:=fun v=>by simp
        by_cases hlt:a<c2
        · rw [if_pos hlt] at g3
          generalize hq:D0++[(c1,c2)]=q at *
          (repeat' (first|(with_reducible first|exact True.intro|refine vD ?_|refine vG ?_|refine vE ?_)|(with_reducible refine elX.is k _ (by omega) hx ?_)|(with_reducible refine elX.is D0.length _ (by omega) hcl ?_)|(refine vRS ?_)|refine vR ?_|refine v6 ?_|with_reducible refine vN ?_|((with_reducible first|refine vB (fun h =>?_) (fun h =>?_)|refine vM (fun h =>?_) (fun h =>?_))<;>(first|(exfalso;omega)|skip))))
          first|rw [show ((q.length:Int) - 1).toNat=D0.length by omega]|rw [show q.length - 1=D0.length by omega]
          rw [←hq,modify_last _ (c1,c2) (c1,max c2 b) rfl,show (D0++[(c1,c2)]).length=(D0++[(c1,max c2 b)]).length by simp]
          refine AgW.go ((k+1,D0++[(c1,max c2 b)])) [11,70,71,72] (by exact vT) ?_ ?_
          · show ys.length - (k+1)<ys.length - k
            omega
          · refine ⟨hk,?_,?_⟩
            · simp only [List.length_append,List.length_singleton] at hql g2 ⊢;omega
            · rw [hidW_snoc];exact g3
        · rw [if_neg hlt] at g3
          have e3:(D0++[(c1,c2)]).map snD++[D.agg [iD a,iD b]]=(D0++[(c1,c2)]++[(a,b)]).map snD:=(List.map_append (l₁:=D0++[(c1,c2)]) (l₂:=[(a,b)])).symm
          have e4:hidW (D0++[(c1,c2)]++[(a,b)]) (ys.drop (k+1))=hidF ys:=by rw [hidW_snoc,List.append_assoc];exact g3
          have e5:(D0++[(c1,c2)]++[(a,b)]).length≤k+1:=by simp only [List.length_append,List.length_singleton] at g2 ⊢;omega
          generalize hq:D0++[(c1,c2)]=q at *
          (repeat' (first|(with_reducible first|exact True.intro|refine vD ?_|refine vG ?_|refine vE ?_)|(with_reducible refine elX.is k _ (by omega) hx ?_)|(with_reducible refine elX.is D0.length _ (by omega) hcl ?_)|(refine vRS ?_)|refine vR ?_|refine v6 ?_|with_reducible refine vN ?_|((with_reducible first|refine vB (fun h =>?_) (fun h =>?_)|refine vM (fun h =>?_) (fun h =>?_))<;>(first|(exfalso;omega)|skip))))
          rw [e3,List.length_map]
          refine AgW.go ((k+1,q++[(a,b)])) [11,70,71,72] (by exact vT) ?_ ?_
          · show ys.length - (k+1)<ys.length - k
            omega
          · exact ⟨hk,e5,e4⟩
    · have hh:h=hidF ys:=by
        rw [List.drop_of_length_le hk] at g3
        rcases List.eq_nil_or_concat h with rfl|⟨D0,c,rfl⟩
        · exact g3
        · rw [List.concat_eq_append,hidW_snoc,hidG] at g3
          rw [List.concat_eq_append];exact g3
      (refine' zg)
      refine DoneW.frz 2 (DoneW.frz 1 (DoneW.frz 0 (DoneW.out ?_)))
      (refine' zg)
      all_goals (try rw [List.take_of_length_le (by simp)])
      all_goals (try rw [List.take_of_length_le (by simp)])
      all_goals (try rw [hh])
end Go.Proofs.YtihghiojmhegoaaGreatDoor
