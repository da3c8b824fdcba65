/- What the theorem leans on, part 31. -/
import Derived.Test.YtihghiojmhegoaaGreatDoorLtUPBC
set_option linter.unusedSimpArgs false
set_option linter.unusedVariables false
set_option maxRecDepth 8000
namespace Go.Proofs.YtihghiojmhegoaaGreatDoor
abbrev snRF (l:List Sn):Blk:= .row 2 (l.map snD)
theorem snoc_sF (es:List Sn) (x:Sn):es.map snD++[snD x]=(es++[x]).map snD:=by rw [List.map_append];rfl
def flDV (n:Int) (l:List Sn):V:=if flErr n [] l=0 then .d (.agg [iD n,.sd 2 false ((srtF l).map snD),iD 0]) else .d (.agg [iD 0,nilSD,iD (flErr n [] l)])
def rf5S (n:Int) (l:List Sn) (k:Nat):St:=
  ⟨[(0,iv n),(1,snL l),(4,.po 0 0),(5,.so 1 2 0 (srtF (l.take k)).length),(25,snL l),(26,iv l.length),(27,iv k)],[(0,.cell [iv 0,.d nilSD,iv 0]),(1,snRF (srtF (l.take k)))],2⟩
def rfU (n:Int) (l:List Sn) (k:Nat) (out:List Sn) (x:Sn) (j:Nat):St:=
  ⟨[(0,iv n),(1,snL l),(4,.po 0 0),(5,.so 1 2 0 out.length),(7,.po 2 0),(25,snL l),(26,iv l.length),(27,iv k),(51,.d (.sd 2 false ((l.take k).map snD))),(52,iv k),(53,iv j)],
   [(0,.cell [iv 0,.d nilSD,iv 0]),(1,snRF out),(2,.cell [iv x.1,iv x.2])],3⟩
def rfI (n:Int) (l:List Sn) (k:Nat) (x:Sn) (out:List Sn) (z:Nat × Bool × List Sn):St:=
  ⟨[(0,iv n),(1,snL l),(4,.po 0 0),(7,.po 1 0),(10,.so 2 2 0 z.2.2.length),(11,bv z.2.1),(25,snL l),(26,iv l.length),(27,iv k),(62,.so 3 2 0 out.length),(63,iv out.length),(64,iv z.1)],
   [(0,.cell [iv 0,.d nilSD,iv 0]),(1,.cell [iv x.1,iv x.2]),(2,snRF z.2.2),(3,snRF out)],4⟩
attribute [push_cast] rf5S.eq_def rfU.eq_def rfI.eq_def
structure RfP (x:Sn) (out:List Sn) (z:Nat × Bool × List Sn):Prop where
  le:z.1≤out.length
  len:z.2.2.length≤2*z.1
  fin:z.2.2++(if z.2.1=true then out.drop z.1 else insG ltSn x (out.drop z.1))=insG ltSn x out
set_option maxHeartbeats 6400000 in
theorem dfNew_fn (n:Int) (hn:0≤n∧n≤1099511627776) (l:List Sn) (hl2:l.length≤60):OFn Tryz.prog G0 22 [iv n,snL l] [] 0 (flDV n l) []:=by
  refine vF mixed [0,1,4,5,6,7,9,10,11,13,19,23,25,26,27,28,47,51,52,53,54,59,62,63,64,65,90,101] Tryz.func22 rfl Tryz.results22 Tryz.ntmps22 ?_
  (refine' zg)
  refine vL (lv:=[0,1,4,5,6,7,9,10,11,13,19,23,25,26,27,28,47,51,52,53,54,59,62,63,64,65,90,101]) mixed (rf5S n l) (fun k=>k≤l.length∧flErr n (l.take k) (l.drop k)=flErr n [] l) (fun k=>l.length - k) (0) (GhW.nil 5 2<|(GhW.go [0,1,4,5,25,26,27] (by exact vT) rfl)) ?_ ?_
  · exact ⟨Nat.zero_le _,rfl⟩
  rintro k ⟨h1,h2⟩
  have hal:(srtF (l.take k)).length=k:=by rw [insF_len ltSn (l.take k).reverse _ (by simp),List.length_take];omega
  rcases Nat.lt_or_ge k l.length with hk|hk
  · obtain ⟨x,hx⟩ : ∃x,l[k]? = some x:=⟨_,List.getElem?_eq_getElem hk⟩
    rw [List.drop_eq_getElem_cons hk,(List.getElem?_eq_some_iff.1 hx).2,flErr] at h2
    have hins:srtF (l.take (k+1))=insG ltSn x (srtF (l.take k)):=by rw [take_snoc' hx];exact insF_snoc ..
    have hids:l.take (k+1)=l.take k++[x]:=take_snoc' hx
    by_cases hw:badS n x
    · rw [if_pos hw] at h2
      obtain ⟨a,b⟩:=x
      simp only [badS] at hw
      (refine' zg)
      refine elX.is k _ (by omega) hx ?_
      (refine' zoS)
      all_goals rw [flDV,←h2,if_neg (by decide)]
    · rw [if_neg hw] at h2
      obtain ⟨a,b⟩:=x
      simp only [badS] at hw
      (refine' zg)
      refine elX.is k _ (by omega) hx ?_
      (refine' zgS)
      rw [←List.map_take,show ((l.take k).map snD).length=k by rw [List.length_map,List.length_take];omega]
      refine vL (lv:=[0,1,4,5,6,7,9,10,11,13,19,23,25,26,27,28,47,51,52,53,54,59,62,63,64,65,90,101]) mixed (rfU n l k (srtF (l.take k)) (a,b)) (fun j=>j≤k ∧ ∀(q:Nat) y,q<j→l[q]? = some y→y≠(a,b)) (fun j=>k - j) (0) ((GhW.go [0,1,4,5,7,25,26,27,51,52,53] (by exact vT) rfl)) ?_ ?_
      · exact ⟨Nat.zero_le _,fun q y h=>by omega⟩
      rintro j ⟨g1,g2⟩
      rcases Nat.lt_or_ge j k with hj|hj
      · obtain ⟨y,hy⟩ : ∃y,l[j]? = some y:=⟨_,List.getElem?_eq_getElem (by omega)⟩
        have hy':(l.take k)[j]? = some y:=by rw [List.getElem?_take_of_lt hj];exact hy
        obtain ⟨y1,y2⟩:=y
        (refine' zoE hy')
        · have hm:(a,b)∈l.take k:=by have:=List.mem_of_getElem? hy';rw [show (a,b)=(y1,y2) from Prod.ext (by omega) (by omega)];exact this
          rw [if_pos hm] at h2
          rw [flDV,←h2,if_neg (by decide)]
        · refine AgW.go (j+1) [0,1,4,5,7,25,26,27,51,52,53] (by exact vT) ?_ ?_
          · show k - (j+1)<k - j
            omega
          · refine ⟨hj,fun q z hq hz =>?_⟩
            by_cases e:q=j
            · subst e;rw [hy] at hz;injection hz with hz;subst hz;intro e2;injection e2 with e3 e4;omega
            · exact g2 q z (by omega) hz
      · have hm:(a,b)∉l.take k:=fun h=>by
          obtain ⟨q,hq⟩:=List.getElem?_of_mem h
          have hqk:q<k:=by
            have:=(List.getElem?_eq_some_iff.1 hq).1
            rw [List.length_take] at this;omega
          rw [List.getElem?_take_of_lt hqk] at hq
          exact g2 q _ (by omega) hq rfl
        rw [if_neg hm,←hids] at h2
        (refine' zg)
        generalize hout:srtF (l.take k)=out at *
        refine vL (lv:=[0,1,4,5,6,7,9,10,11,13,19,23,25,26,27,28,47,51,52,53,54,59,62,63,64,65,90,101]) mixed (rfI n l k (a,b) out) (RfP (a,b) out) (fun z=>out.length - z.1) ((0,false,[])) (GhW.nil 10 2<|(GhW.go [0,1,4,7,10,11,25,26,27,62,63,64] (by exact vT) rfl)) ?_ ?_
        · exact ⟨Nat.zero_le _,Nat.zero_le _,rfl⟩
        rintro ⟨i,p,es⟩ ⟨g1,g2,g3⟩
        simp only at g1 g2 g3
        rcases Nat.lt_or_ge i out.length with hi|hi
        · obtain ⟨y,hy⟩ : ∃y,out[i]? = some y:=⟨_,List.getElem?_eq_getElem hi⟩
          obtain ⟨y1,y2⟩:=y
          rw [drop_aF hy] at g3
          have e1:es.map snD++[D.agg [iD y1,iD y2]]=(es++[(y1,y2)]).map snD:=snoc_sF es (y1,y2)
          have e0:es.map snD++[D.agg [D.lit (Value.int IntKind.i64 a),D.lit (Value.int IntKind.i64 b)]]=(es++[(a,b)]).map snD:=snoc_sF es (a,b)
          have e2:(es++[(a,b)]).map snD++[D.agg [iD y1,iD y2]]=(es++[(a,b)]++[(y1,y2)]).map snD:=snoc_sF _ (y1,y2)
          cases p with
          | true=>
            (refine' zgE hy)
            rw [e1,List.length_map]
            refine AgW.go ((i+1,true,es++[(y1,y2)])) [0,1,4,7,10,11,25,26,27,62,63,64] (by exact vT) ?_ ?_
            · show out.length - (i+1)<out.length - i
              omega
            · exact ⟨hi,by simp only [List.length_append,List.length_cons,List.length_nil];omega,by rw [←g3];simp⟩
          | false=>
            by_cases hlt:ltSn (a,b) (y1,y2)
            · have hq:a<y1∨(a=y1∧b<y2):=hlt
              (repeat' (first|(with_reducible first|exact True.intro|refine vD ?_|refine vG ?_|refine vE ?_)|(with_reducible refine elX.is i _ (by omega) hy ?_)|(refine vRS ?_)|refine vR ?_|refine v6 ?_|with_reducible refine vN ?_|((with_reducible first|refine vB (fun h =>?_) (fun h =>?_)|refine vM (fun h =>?_) (fun h =>?_))<;>(first|(exfalso;omega)|skip))))
              rw [e0,e2,List.length_map]
              refine AgW.go ((i+1,true,es++[(a,b)]++[(y1,y2)])) [0,1,4,7,10,11,25,26,27,62,63,64] (by exact vT) ?_ ?_
              · show out.length - (i+1)<out.length - i
                omega
              · refine ⟨hi,by simp only [List.length_append,List.length_cons,List.length_nil];omega,?_⟩
                rw [←g3]
                simp only [Bool.false_eq_true,if_false,if_true]
                rw [insG,if_pos hlt]
                simp
            · have hq : ¬(a<y1∨(a=y1∧b<y2)):=hlt
              (repeat' (first|(with_reducible first|exact True.intro|refine vD ?_|refine vG ?_|refine vE ?_)|(with_reducible refine elX.is i _ (by omega) hy ?_)|(refine vRS ?_)|refine vR ?_|refine v6 ?_|with_reducible refine vN ?_|((with_reducible first|refine vB (fun h =>?_) (fun h =>?_)|refine vM (fun h =>?_) (fun h =>?_))<;>(first|(exfalso;omega)|skip))))
              rw [e1,List.length_map]
              refine AgW.go ((i+1,false,es++[(y1,y2)])) [0,1,4,7,10,11,25,26,27,62,63,64] (by exact vT) ?_ ?_
              · show out.length - (i+1)<out.length - i
                omega
              · refine ⟨hi,by simp only [List.length_append,List.length_cons,List.length_nil];omega,?_⟩
                rw [←g3]
                simp only [Bool.false_eq_true,if_false]
                rw [insG,if_neg hlt]
                simp
        · rw [List.drop_of_length_le hi] at g3
          have e0:es.map snD++[D.agg [D.lit (Value.int IntKind.i64 a),D.lit (Value.int IntKind.i64 b)]]=(es++[(a,b)]).map snD:=snoc_sF es (a,b)
          cases p with
          | true=>
            (refine' zg)
            have hfin:es=srtF (l.take (k+1)):=by
              rw [hins]
              simp only [if_true,List.append_nil] at g3
              exact g3
            rw [hfin]
            refine AgW.go (k+1) [0,1,4,5,25,26,27] (by exact vT) ?_ ?_
            · show l.length - (k+1)<l.length - k
              omega
            · exact ⟨hk,h2⟩
          | false=>
            (refine' zg)
            have hfin:es++[(a,b)]=srtF (l.take (k+1)):=by
              rw [hins]
              simp only [Bool.false_eq_true,if_false,insG] at g3
              exact g3
            rw [e0,hfin,List.length_map]
            refine AgW.go (k+1) [0,1,4,5,25,26,27] (by exact vT) ?_ ?_
            · show l.length - (k+1)<l.length - k
              omega
            · exact ⟨hk,h2⟩
  · obtain rfl:k=l.length:=by omega
    rw [List.drop_length,flErr] at h2
    rw [rf5S,List.take_length]
    (refine' zg)
    refine DoneW.frz 1 (DoneW.out ?_)
    (refine' zg)
    rw [flDV,←h2,if_pos rfl]
    all_goals (try rw [List.take_of_length_le (by simp)])
end Go.Proofs.YtihghiojmhegoaaGreatDoor
