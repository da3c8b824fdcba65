/- What the theorem leans on, part 29. -/
import Derived.Test.YtkhonlnajdfhfaaGreatDoorLtYPAE
import Derived.Test.YtkhonlnajdfhfaaGreatDoorLtYPAP
import Derived.Test.YtkhonlnajdfhfaaGreatDoorLtYPAV
import Derived.Test.YtkhonlnajdfhfaaGreatDoorLtYPBA
import Derived.Test.YtkhonlnajdfhfaaGreatDoorLtYPBB
set_option linter.unusedSimpArgs false
set_option linter.unusedVariables false
set_option maxRecDepth 8000
namespace Go.Proofs.YtkhonlnajdfhfaaGreatDoor
theorem fits_yes (x:Sn) (n:Int) (h:0≤x.1∧x.1≤x.2∧x.2≤n):OFn Tryz.prog G0 42 [.d (snD x),iv n] [] 0 (bv true) []:=by
 refine vF mixed [0,1,2,4] Tryz.func42 rfl Tryz.results42 Tryz.ntmps42 ?_
 (refine' zm00o)
 rw [decide_eq_true h.1,decide_eq_true h.2.1,decide_eq_true h.2.2];rfl
theorem nSClone_fn (l:List Sn) (hl:0<l.length) (hl2:l.length≤100000):OFn Tryz.prog G0 43 [.d (.sd 2 false (l.map snD))] [] 0 (.so 0 2 0 l.length) [(0,.row 2 (l.map snD))]:=by
 rcases l with _|⟨x,r⟩
 ·simp at hl
 simp only [List.map_cons]
 have hr:r.length≤100000:=by simp at hl2;omega
 refine vF mixed [0,2,4] Tryz.func43 rfl Tryz.results43 Tryz.ntmps43 ?_
 (refine' zg)
 refine DoneW.now [20] (by decide) ?_
 (refine' zg)
 exact Sub_refl _
theorem nSClone_nil:OFn Tryz.prog G0 43 [.d nilSD] [] 0 (.d nilSD) []:=by
 refine vF mixed [0,2,4] Tryz.func43 rfl Tryz.results43 Tryz.ntmps43 ?_
 (refine' zo)
abbrev idsS (l:List Sn):List (Value × D):=l.map fun x=>(.agg #[.int .i64 x.1,.int .i64 x.2],.agg [])
theorem eqVals_two {a b c d:Int} : eqVals [.int .i64 a,.int .i64 b] [.int .i64 c,.int .i64 d]=true↔a=c∧b=d:=by
 simp [eqVals,eqVal]
theorem findS_no {a b:Int} : ∀ {l:List Sn},(a,b)∉l→findS [.int .i64,.int .i64] [.int .i64 a,.int .i64 b] (idsS l)=some none
 | [],_=>rfl
 | x::r,h=>by
  have ih:=findS_no (l:=r) (fun k=>h (List.mem_cons_of_mem _ k))
  have hx : ¬(a=x.1∧b=x.2):=fun e=>h (by rw [e.1,e.2];exact List.mem_cons_self)
  rw [show idsS (x::r)=(.agg #[.int .i64 x.1,.int .i64 x.2],.agg [])::idsS r from rfl,findS]
  rw [if_pos (show fitsB [CK.int .i64,CK.int .i64] #[Value.int .i64 x.1,Value.int .i64 x.2].toList=true from rfl),if_neg (fun h=>hx (eqVals_two.1 h)),ih]
theorem mapT_sp:mapT Tryz.prog 123=none:=by kernel_rfl
theorem mapS_sp:mapS Tryz.prog 123=some (111,99):=by kernel_rfl
theorem keyOk_sp:KeyOk Tryz.prog 99 [.int .i64,.int .i64]:=KeyOk.of2 teq99 (by kernel_rfl)
attribute [push_cast] mapT_sp mapS_sp keyOk_sp
def fdS (n:Int) (l:List Sn) (k:Nat):St:=
 ⟨[(0,iv n),(1,.d (.sd 2 false (l.map snD))),(6,.mo 0),(27,.d (.sd 2 false (l.map snD))),(28,iv l.length),(29,iv k)],[(0,.map (idsS (l.take k)))],1⟩
def fdT (n:Int) (ys:List Sn) (x:Nat × List Sn):St:=
 ⟨[(11,.po 0 0),(70,.so 1 2 0 ys.length),(71,iv ys.length),(72,iv x.1)],[(0,.cell [iv n,.so 1 2 0 ys.length,.so 2 2 0 x.2.length]),(1,.row 2 (ys.map snD)),(2,.row 2 (x.2.map snD))],3⟩
attribute [push_cast] fdS.eq_def fdT.eq_def
def hidW (h r:List Sn):List Sn:=match h.getLast? with
 | none=>hidF r
 | some c=>h.dropLast++hidG c r
theorem hidW_nil (r:List Sn):hidW [] r=hidF r:=rfl
theorem hidW_snoc (h:List Sn) (c:Sn) (r:List Sn):hidW (h++[c]) r=h++hidG c r:=by simp [hidW]
theorem drop_aF {α:Type} {l:List α} {k:Nat} {x:α} (h:l[k]? = some x):l.drop k=x::l.drop (k+1):=by
 obtain ⟨h1,rfl⟩:=List.getElem?_eq_some_iff.1 h
 exact List.drop_eq_getElem_cons h1
theorem modify_last (F:D→D) (x y:Sn) (h:F (snD x)=snD y) : ∀q:List Sn,((q++[x]).map snD).modify q.length F=(q++[y]).map snD
 | []=>by simp [h]
 | z::r=>by rw [List.cons_append,List.map_cons,List.length_cons,List.modify_succ_cons,modify_last F x y h r];rfl
set_option maxHeartbeats 6400000 in
theorem fdNew_ex (n:Int) (l:List Sn) (hn:0≤n∧n≤1099511627776) (hl:0<l.length) (hl2:l.length≤60) (he:flErr n [] l=0) :
 ∃ys:List Sn,(ys.Perm l∧Srt ltSn 0 l.length ys)∧OFn Tryz.prog G0 19 [iv n,.d (.sd 2 false (l.map snD))] [] 0 (.tup [.d (.pd 3 [.agg [iD n,.sd 2 false (ys.map snD),.sd 2 false ((hidF ys).map snD)]] 0 0),iv 0]) []:=by
 have hS : ∃ys,(ys.Perm l∧Srt ltSn 0 l.length ys)∧OFn Tryz.prog G0 44 [.so 0 2 0 l.length,.d (.fn 45 [])] [(0,.row 2 (l.map snD))] 1 (.tup []) [(0,.row 2 (ys.map snD))]:=by
  obtain ⟨ys,⟨h1,h2⟩,hf⟩:=SrtSn.sort_ex l l.length rfl (by omega)
  exact ⟨ys,⟨h1,fun p q x y a b c d e k=>h2 p q x y a b c d e ((SrtSn.cB_lt y x).2 k)⟩,hf⟩
 obtain ⟨ys,⟨hp,hsr⟩,hf⟩:=hS
 refine ⟨ys,⟨hp,hsr⟩,?_⟩
 have hyl:ys.length=l.length:=hp.length_eq
 have hc:=nSClone_fn l hl (by omega)
 refine vF mixed [0,1,4,5,6,8,10,11,13,14,15,22,27,28,29,30,45,52,70,71,72,73,96] Tryz.func19 rfl Tryz.results19 Tryz.ntmps19 ?_
 (refine' zg)
 refine vL (lv:=[0,1,4,5,6,8,10,11,13,14,15,22,27,28,29,30,45,52,70,71,72,73,96]) mixed (fdS n l) (fun k=>k≤l.length∧flErr n (l.take k) (l.drop k)=0) (fun k=>l.length - k) (0) ((GhW.go [0,1,6,27,28,29] (by exact vT) rfl)) ?_ ?_
 ·exact ⟨Nat.zero_le _,he⟩
 rintro k ⟨h1,h2⟩
 rcases Nat.lt_or_ge k l.length with hk|hk
 ·obtain ⟨x,hx⟩ : ∃x,l[k]? = some x:=⟨_,List.getElem?_eq_getElem hk⟩
  rw [List.drop_eq_getElem_cons hk,(List.getElem?_eq_some_iff.1 hx).2,flErr] at h2
  have hw : ¬badS n x:=fun h=>by rw [if_pos h] at h2;cases h2
  rw [if_neg hw] at h2
  have hm:x∉l.take k:=fun h=>by rw [if_pos h] at h2;cases h2
  rw [if_neg hm] at h2
  obtain ⟨a,b⟩:=x
  simp only [badS] at hw
  have hfe:=findS_no hm
  have r1:=fits_yes (a,b) n ⟨by omega,by omega,by omega⟩
  (refine' zg)
  refine elX.is k _ (by omega) hx ?_
  (refine' zm10 r1)
  rw [hfe]
  (refine' zg)
  rw [hfe]
  (refine' zg)
  have e2:idsS (l.take k)++[(Value.agg #[Value.int IntKind.i64 a,Value.int IntKind.i64 b],D.agg [])]=idsS (l.take (k+1)):=by
   rw [take_snoc' hx,idsS,idsS,List.map_append];rfl
  rw [e2]
  refine AgW.go (k+1) [0,1,6,27,28,29] (by exact vT) ?_ ?_
  ·show l.length - (k+1)<l.length - k
   omega
  ·refine ⟨hk,?_⟩
   rw [take_snoc' hx]
   exact h2
 ·obtain rfl:k=l.length:=by omega
  rw [fdS,List.take_length]
  (refine' zgK hc)
  refine CallW.put 13 hf (by kernel_rfl) rfl rfl rfl ?_
  (refine' zg)
  rw [←hyl]
  refine vL (lv:=[0,1,4,5,6,8,10,11,13,14,15,22,27,28,29,30,45,52,70,71,72,73,96]) mixed (fdT n ys) (fun x=>x.1≤ys.length∧x.2.length≤x.1∧hidW x.2 (ys.drop x.1)=hidF ys) (fun x=>ys.length - x.1) ((0,[])) (GhW.nilC 21 2 2<|(GhW.go [11,70,71,72] (by exact vT) rfl)) ?_ ?_
  ·exact ⟨Nat.zero_le _,Nat.le_refl _,rfl⟩
  rintro ⟨k,h⟩ ⟨g1,g2,g3⟩
  simp only at g1 g2 g3
  rcases Nat.lt_or_ge k ys.length with hk|hk
  ·obtain ⟨x,hx⟩ : ∃x,ys[k]? = some x:=⟨_,List.getElem?_eq_getElem hk⟩
   rw [drop_aF hx] at g3
   rcases List.eq_nil_or_concat h with rfl|⟨D0,c,rfl⟩
   ·rw [hidW_nil,hidF] at g3
    obtain ⟨a,b⟩:=x
    have e1:[D.agg [iD a,iD b]]=([(a,b)]:List Sn).map snD:=rfl
    (refine' zm01 hx)
    rw [e1]
    refine AgW.go ((k+1,[(a,b)])) [11,70,71,72] (by exact vT) ?_ ?_
    ·show ys.length - (k+1)<ys.length - k
     omega
    ·exact ⟨hk,by show 1≤k+1;omega,g3⟩
   ·obtain ⟨a,b⟩:=x
    obtain ⟨c1,c2⟩:=c
    rw [List.concat_eq_append] at g2 g3 ⊢
    rw [hidW_snoc,hidG] at g3
    have hcl:(D0++[(c1,c2)])[D0.length]? = some (c1,c2):=by simp
    have hql:(D0++[(c1,c2)]).length=D0.length+1:=by rw [List.length_append,List.length_singleton]
    have e2 : ∀v,(D0++[(c1,c2)]).set D0.length v=D0++[v]:=fun v=>by simp
    by_cases hlt:a<c2
    ·rw [if_pos hlt] at g3
     generalize hq:D0++[(c1,c2)]=q at *
     (refine' zm02 hx hcl)
     first|rw [show ((q.length:Int) - 1).toNat=D0.length by omega]|rw [show q.length - 1=D0.length by omega]
     rw [←hq,modify_last _ (c1,c2) (c1,max c2 b) rfl,show (D0++[(c1,c2)]).length=(D0++[(c1,max c2 b)]).length by simp]
     refine AgW.go ((k+1,D0++[(c1,max c2 b)])) [11,70,71,72] (by exact vT) ?_ ?_
     ·show ys.length - (k+1)<ys.length - k
      omega
     ·refine ⟨hk,?_,?_⟩
      ·simp only [List.length_append,List.length_singleton] at hql g2 ⊢;omega
      ·rw [hidW_snoc];exact g3
    ·rw [if_neg hlt] at g3
     have e3:(D0++[(c1,c2)]).map snD++[D.agg [iD a,iD b]]=(D0++[(c1,c2)]++[(a,b)]).map snD:=(List.map_append (l₁:=D0++[(c1,c2)]) (l₂:=[(a,b)])).symm
     have e4:hidW (D0++[(c1,c2)]++[(a,b)]) (ys.drop (k+1))=hidF ys:=by rw [hidW_snoc,List.append_assoc];exact g3
     have e5:(D0++[(c1,c2)]++[(a,b)]).length≤k+1:=by simp only [List.length_append,List.length_singleton] at g2 ⊢;omega
     generalize hq:D0++[(c1,c2)]=q at *
     (refine' zm02 hx hcl)
     rw [e3,List.length_map]
     refine AgW.go ((k+1,q++[(a,b)])) [11,70,71,72] (by exact vT) ?_ ?_
     ·show ys.length - (k+1)<ys.length - k
      omega
     ·exact ⟨hk,e5,e4⟩
  ·have hh:h=hidF ys:=by
    rw [List.drop_of_length_le hk] at g3
    rcases List.eq_nil_or_concat h with rfl|⟨D0,c,rfl⟩
    ·exact g3
    ·rw [List.concat_eq_append,hidW_snoc,hidG] at g3
     rw [List.concat_eq_append];exact g3
   (refine' zg)
   refine DoneW.frz 2 (DoneW.frz 1 (DoneW.frz 0 (DoneW.out ?_)))
   (refine' zg)
   all_goals (try rw [List.take_of_length_le (by simp)])
   all_goals (try rw [List.take_of_length_le (by simp)])
   all_goals (try rw [hh])
theorem nSClone_ne:OFn Tryz.prog G0 43 [.d (.ne 2)] [] 0 (.d (.sd 2 false [])) []:=by
 refine vF mixed [0,2,4] Tryz.func43 rfl Tryz.results43 Tryz.ntmps43 ?_
 (refine' zg)
 refine DoneW.frz 20 (DoneW.out ?_)
 (refine' zg)
theorem nSClone_e:OFn Tryz.prog G0 43 [.d (.sd 2 false [])] [] 0 (.d (.sd 2 false [])) []:=OFn.nilOr 2 false (OFn.nil 2 false nSClone_nil) nSClone_ne
theorem nsSort_e:OFn Tryz.prog G0 44 [.d (.sd 2 false []),.d (.fn 45 [])] [] 0 (.tup []) []:=getsG G0 M0 300 (by kernel_rfl)
theorem fdNew_e (n:Int) (hn:0≤n∧n≤1099511627776):OFn Tryz.prog G0 19 [iv n,.d (.sd 2 false [])] [] 0 (.tup [.d (.pd 3 [.agg [iD n,.sd 2 false [],.sd 2 false []]] 0 0),iv 0]) []:=by
 have r1:=nSClone_e
 have r2:=nsSort_e
 refine vF mixed [0,1,4,5,6,8,10,11,13,14,15,22,27,28,29,30,45,52,70,71,72,73,96] Tryz.func19 rfl Tryz.results19 Tryz.ntmps19 ?_
 (refine' zg2 r1 r2)
 refine vL (lv:=[0,1,4,5,6,8,10,11,13,14,15,22,27,28,29,30,45,52,70,71,72,73,96]) mixed (fun _:Unit=>(⟨[(0,iv n),(1,.d (.sd 2 false [])),(6,.mo 0),(27,.d (.sd 2 false [])),(28,iv 0),(29,iv 0)],[(0,.map [])],1⟩:St)) (fun _=>True) (fun _=>0) (()) ((GhW.go [0,1,6,27,28,29] (by exact vT) rfl)) ?_ ?_
 ·trivial
 rintro ⟨⟩ -
 (refine' zg2 r1 r2)
 refine vL (lv:=[0,1,4,5,6,8,10,11,13,14,15,22,27,28,29,30,45,52,70,71,72,73,96]) mixed (fun _:Unit=>(⟨[(11,.po 0 0),(70,.d (.sd 2 false [])),(71,iv 0),(72,iv 0)],[(0,.cell [iv n,.d (.sd 2 false []),.so 1 2 0 0]),(1,.row 2 [])],2⟩:St)) (fun _=>True) (fun _=>0) (()) (GhW.nilC 21 2 2<|(GhW.go [11,70,71,72] (by exact vT) rfl)) ?_ ?_
 ·trivial
 rintro ⟨⟩ -
 (refine' zg)
 refine DoneW.frz 1 (DoneW.frz 0 (DoneW.out ?_))
 (refine' zg)
 all_goals rfl
abbrev fdD (n:Int) (l:List Sn):D:= .pd 3 [.agg [iD n,.sd 2 false ((srtF l).map snD),.sd 2 false ((hidF (srtF l)).map snD)]] 0 0
theorem fdNew_fn (n:Int) (l:List Sn) (hn:0≤n∧n≤1099511627776) (hl2:l.length≤60) (he:flErr n [] l=0) :
 OFn Tryz.prog G0 19 [iv n,.d (.sd 2 false (l.map snD))] [] 0 (.tup [.d (fdD n l),iv 0]) []:=by
 rcases l with _|⟨x,t⟩
 ·exact fdNew_e n hn
 ·obtain ⟨ys,⟨hp,hs⟩,hf⟩:=fdNew_ex n (x::t) hn (by simp) hl2 he
  have e:ys=srtF (x::t):=insF_uniq ltSn wkSn trSn hp hs fun a b _ _ h1 h2=>by
   unfold ltSn at h1 h2
   exact Prod.ext (by omega) (by omega)
  rw [e] at hf
  exact hf
theorem fHid_fn (n:Int) (x:D) (H:List Sn) (hl:H.length≤100000):OFn Tryz.prog G0 20 [.d (.pd 3 [.agg [iD n,x,.sd 2 false (H.map snD)]] 0 0)] [] 0 (.d (.sd 2 false (H.map snD))) []:=by
 rcases H with _|⟨y,t⟩
 ·have r1:=nSClone_e
  simp only [List.map_nil]
  refine vF mixed [0,2,4] Tryz.func20 rfl Tryz.results20 Tryz.ntmps20 ?_
  (refine' zo1 r1)
 ·have r1:=nSClone_fn (y::t) (by simp) hl
  simp only [List.map_cons] at r1 ⊢
  refine vF mixed [0,2,4] Tryz.func20 rfl Tryz.results20 Tryz.ntmps20 ?_
  (refine' zgK r1)
  refine DoneW.frz 28 (DoneW.out ?_)
  (refine' zg)
  all_goals (try rw [List.take_of_length_le (by simp)])
abbrev snRF (l:List Sn):Blk:= .row 2 (l.map snD)
theorem snoc_sF (es:List Sn) (x:Sn):es.map snD++[snD x]=(es++[x]).map snD:=by rw [List.map_append];rfl
def flDV (n:Int) (l:List Sn):V:=if flErr n [] l=0 then .d (.agg [iD n,.sd 2 false ((srtF l).map snD),iD 0]) else .d (.agg [iD 0,nilSD,iD (flErr n [] l)])
def rf5S (n:Int) (l:List Sn) (k:Nat):St:=
 ⟨[(0,iv n),(1,snL l),(4,.po 0 0),(5,.so 1 2 0 (srtF (l.take k)).length),(25,snL l),(26,iv l.length),(27,iv k)],[(0,.cell [iv 0,.d nilSD,iv 0]),(1,snRF (srtF (l.take k)))],2⟩
def rfU (n:Int) (l:List Sn) (k:Nat) (out:List Sn) (x:Sn) (j:Nat):St:=
 ⟨[(0,iv n),(1,snL l),(4,.po 0 0),(5,.so 1 2 0 out.length),(7,.po 2 0),(25,snL l),(26,iv l.length),(27,iv k),(51,.d (.sd 2 false ((l.take k).map snD))),(52,iv k),(53,iv j)],
  [(0,.cell [iv 0,.d nilSD,iv 0]),(1,snRF out),(2,.cell [iv x.1,iv x.2])],3⟩
def rfI (n:Int) (l:List Sn) (k:Nat) (x:Sn) (out:List Sn) (z:Nat × Bool × List Sn):St:=
 ⟨[(0,iv n),(1,snL l),(4,.po 0 0),(7,.po 1 0),(10,.so 2 2 0 z.2.2.length),(11,bv z.2.1),(25,snL l),(26,iv l.length),(27,iv k),(62,.so 3 2 0 out.length),(63,iv out.length),(64,iv z.1)],
  [(0,.cell [iv 0,.d nilSD,iv 0]),(1,.cell [iv x.1,iv x.2]),(2,snRF z.2.2),(3,snRF out)],4⟩
attribute [push_cast] rf5S.eq_def rfU.eq_def rfI.eq_def
structure RfP (x:Sn) (out:List Sn) (z:Nat × Bool × List Sn):Prop where
 le:z.1≤out.length
 len:z.2.2.length≤2*z.1
 fin:z.2.2++(if z.2.1=true then out.drop z.1 else insG ltSn x (out.drop z.1))=insG ltSn x out
set_option maxHeartbeats 6400000 in
theorem dfNew_fn (n:Int) (hn:0≤n∧n≤1099511627776) (l:List Sn) (hl2:l.length≤60):OFn Tryz.prog G0 14 [iv n,snL l] [] 0 (flDV n l) []:=by
 refine vF mixed [0,1,4,5,6,7,9,10,11,13,19,23,25,26,27,28,47,51,52,53,54,59,62,63,64,65,90,101] Tryz.func14 rfl Tryz.results14 Tryz.ntmps14 ?_
 (refine' zg)
 refine vL (lv:=[0,1,4,5,6,7,9,10,11,13,19,23,25,26,27,28,47,51,52,53,54,59,62,63,64,65,90,101]) mixed (rf5S n l) (fun k=>k≤l.length∧flErr n (l.take k) (l.drop k)=flErr n [] l) (fun k=>l.length - k) (0) (GhW.nil 5 2<|(GhW.go [0,1,4,5,25,26,27] (by exact vT) rfl)) ?_ ?_
 ·exact ⟨Nat.zero_le _,rfl⟩
 rintro k ⟨h1,h2⟩
 have hal:(srtF (l.take k)).length=k:=by rw [insF_len ltSn (l.take k).reverse _ (by simp),List.length_take];omega
 rcases Nat.lt_or_ge k l.length with hk|hk
 ·obtain ⟨x,hx⟩ : ∃x,l[k]? = some x:=⟨_,List.getElem?_eq_getElem hk⟩
  rw [List.drop_eq_getElem_cons hk,(List.getElem?_eq_some_iff.1 hx).2,flErr] at h2
  have hins:srtF (l.take (k+1))=insG ltSn x (srtF (l.take k)):=by rw [take_snoc' hx];exact insF_snoc ..
  have hids:l.take (k+1)=l.take k++[x]:=take_snoc' hx
  by_cases hw:badS n x
  ·rw [if_pos hw] at h2
   obtain ⟨a,b⟩:=x
   simp only [badS] at hw
   (refine' zg)
   refine elX.is k _ (by omega) hx ?_
   (refine' zm00o)
   all_goals rw [flDV,←h2,if_neg (by decide)]
  ·rw [if_neg hw] at h2
   obtain ⟨a,b⟩:=x
   simp only [badS] at hw
   (refine' zg)
   refine elX.is k _ (by omega) hx ?_
   (refine' zm00)
   rw [←List.map_take,show ((l.take k).map snD).length=k by rw [List.length_map,List.length_take];omega]
   refine vL (lv:=[0,1,4,5,6,7,9,10,11,13,19,23,25,26,27,28,47,51,52,53,54,59,62,63,64,65,90,101]) mixed (rfU n l k (srtF (l.take k)) (a,b)) (fun j=>j≤k ∧ ∀(q:Nat) y,q<j→l[q]? = some y→y≠(a,b)) (fun j=>k - j) (0) ((GhW.go [0,1,4,5,7,25,26,27,51,52,53] (by exact vT) rfl)) ?_ ?_
   ·exact ⟨Nat.zero_le _,fun q y h=>by omega⟩
   rintro j ⟨g1,g2⟩
   rcases Nat.lt_or_ge j k with hj|hj
   ·obtain ⟨y,hy⟩ : ∃y,l[j]? = some y:=⟨_,List.getElem?_eq_getElem (by omega)⟩
    have hy':(l.take k)[j]? = some y:=by rw [List.getElem?_take_of_lt hj];exact hy
    obtain ⟨y1,y2⟩:=y
    (refine' zoE hy')
    ·have hm:(a,b)∈l.take k:=by have:=List.mem_of_getElem? hy';rw [show (a,b)=(y1,y2) from Prod.ext (by omega) (by omega)];exact this
     rw [if_pos hm] at h2
     rw [flDV,←h2,if_neg (by decide)]
    ·refine AgW.go (j+1) [0,1,4,5,7,25,26,27,51,52,53] (by exact vT) ?_ ?_
     ·show k - (j+1)<k - j
      omega
     ·refine ⟨hj,fun q z hq hz =>?_⟩
      by_cases e:q=j
      ·subst e;rw [hy] at hz;injection hz with hz;subst hz;intro e2;injection e2 with e3 e4;omega
      ·exact g2 q z (by omega) hz
   ·have hm:(a,b)∉l.take k:=fun h=>by
     obtain ⟨q,hq⟩:=List.getElem?_of_mem h
     have hqk:q<k:=by
      have:=(List.getElem?_eq_some_iff.1 hq).1
      rw [List.length_take] at this;omega
     rw [List.getElem?_take_of_lt hqk] at hq
     exact g2 q _ (by omega) hq rfl
    rw [if_neg hm,←hids] at h2
    (refine' zg)
    generalize hout:srtF (l.take k)=out at *
    refine vL (lv:=[0,1,4,5,6,7,9,10,11,13,19,23,25,26,27,28,47,51,52,53,54,59,62,63,64,65,90,101]) mixed (rfI n l k (a,b) out) (RfP (a,b) out) (fun z=>out.length - z.1) ((0,false,[])) (GhW.nil 10 2<|(GhW.go [0,1,4,7,10,11,25,26,27,62,63,64] (by exact vT) rfl)) ?_ ?_
    ·exact ⟨Nat.zero_le _,Nat.zero_le _,rfl⟩
    rintro ⟨i,p,es⟩ ⟨g1,g2,g3⟩
    simp only at g1 g2 g3
    rcases Nat.lt_or_ge i out.length with hi|hi
    ·obtain ⟨y,hy⟩ : ∃y,out[i]? = some y:=⟨_,List.getElem?_eq_getElem hi⟩
     obtain ⟨y1,y2⟩:=y
     rw [drop_aF hy] at g3
     have e1:es.map snD++[D.agg [iD y1,iD y2]]=(es++[(y1,y2)]).map snD:=snoc_sF es (y1,y2)
     have e0:es.map snD++[D.agg [D.lit (Value.int IntKind.i64 a),D.lit (Value.int IntKind.i64 b)]]=(es++[(a,b)]).map snD:=snoc_sF es (a,b)
     have e2:(es++[(a,b)]).map snD++[D.agg [iD y1,iD y2]]=(es++[(a,b)]++[(y1,y2)]).map snD:=snoc_sF _ (y1,y2)
     cases p with
     | true=>
      (refine' zgE hy)
      rw [e1,List.length_map]
      refine AgW.go ((i+1,true,es++[(y1,y2)])) [0,1,4,7,10,11,25,26,27,62,63,64] (by exact vT) ?_ ?_
      ·show out.length - (i+1)<out.length - i
       omega
      ·exact ⟨hi,by simp only [List.length_append,List.length_cons,List.length_nil];omega,by rw [←g3];simp⟩
     | false=>
      by_cases hlt:ltSn (a,b) (y1,y2)
      ·have hq:a<y1∨(a=y1∧b<y2):=hlt
       (refine' zm01 hy)
       rw [e0,e2,List.length_map]
       refine AgW.go ((i+1,true,es++[(a,b)]++[(y1,y2)])) [0,1,4,7,10,11,25,26,27,62,63,64] (by exact vT) ?_ ?_
       ·show out.length - (i+1)<out.length - i
        omega
       ·refine ⟨hi,by simp only [List.length_append,List.length_cons,List.length_nil];omega,?_⟩
        rw [←g3]
        simp only [Bool.false_eq_true,if_false,if_true]
        rw [insG,if_pos hlt]
        simp
      ·have hq : ¬(a<y1∨(a=y1∧b<y2)):=hlt
       (refine' zm01 hy)
       rw [e1,List.length_map]
       refine AgW.go ((i+1,false,es++[(y1,y2)])) [0,1,4,7,10,11,25,26,27,62,63,64] (by exact vT) ?_ ?_
       ·show out.length - (i+1)<out.length - i
        omega
       ·refine ⟨hi,by simp only [List.length_append,List.length_cons,List.length_nil];omega,?_⟩
        rw [←g3]
        simp only [Bool.false_eq_true,if_false]
        rw [insG,if_neg hlt]
        simp
    ·rw [List.drop_of_length_le hi] at g3
     have e0:es.map snD++[D.agg [D.lit (Value.int IntKind.i64 a),D.lit (Value.int IntKind.i64 b)]]=(es++[(a,b)]).map snD:=snoc_sF es (a,b)
     cases p with
     | true=>
      (refine' zg)
      have hfin:es=srtF (l.take (k+1)):=by
       rw [hins]
       simp only [if_true,List.append_nil] at g3
       exact g3
      rw [hfin]
      refine AgW.go (k+1) [0,1,4,5,25,26,27] (by exact vT) ?_ ?_
      ·show l.length - (k+1)<l.length - k
       omega
      ·exact ⟨hk,h2⟩
     | false=>
      (refine' zg)
      have hfin:es++[(a,b)]=srtF (l.take (k+1)):=by
       rw [hins]
       simp only [Bool.false_eq_true,if_false,insG] at g3
       exact g3
      rw [e0,hfin,List.length_map]
      refine AgW.go (k+1) [0,1,4,5,25,26,27] (by exact vT) ?_ ?_
      ·show l.length - (k+1)<l.length - k
       omega
      ·exact ⟨hk,h2⟩
 ·obtain rfl:k=l.length:=by omega
  rw [List.drop_length,flErr] at h2
  rw [rf5S,List.take_length]
  (refine' zg)
  refine DoneW.frz 1 (DoneW.out ?_)
  (refine' zg)
  rw [flDV,←h2,if_pos rfl]
  all_goals (try rw [List.take_of_length_le (by simp)])
theorem over_fn (x y:Sn):OFn Tryz.prog G0 56 [.d (snD x),.d (snD y)] [] 0 (bv (decide (x.1<y.2)&&decide (y.1<x.2))) []:=by
 refine vF mixed [0,1,2,3,4] Tryz.func56 rfl Tryz.results56 Tryz.ntmps56 ?_
 (refine' zm00o)
def dhFs (x:Nat × List Sn):St:=⟨[(3,snL x.2),(4,iv x.1)],[],0⟩
attribute [push_cast] dhFs.eq_def
def hidR (l:List Sn) (i:Nat):List Sn:=match l.drop i with
 | []=>l.take i
 | c::r=>l.take i++hidG c r
structure DhP (l:List Sn) (x:Nat × List Sn):Prop where
 le:x.1≤x.2.length
 len:x.2.length≤l.length
 so:x.2.Pairwise fun a b=>a.1≤b.1
 ne : ∀a∈x.2,a.1<a.2
 fin:hidR x.2 x.1=hidF l
set_option maxHeartbeats 6400000 in
theorem dHid_all (n e:Int) (l:List Sn) (hl:l.length≤1000) (hs:l.Pairwise fun a b=>a.1≤b.1) (hne : ∀a∈l,a.1<a.2):OFn Tryz.prog G0 27 [.d (.agg [iD n,.sd 2 false (l.map snD),iD e])] [] 0 (.d (.sd 2 false ((hidF l).map snD))) []:=by
 refine vF mixed [0,1,2,3,4,5,6,15,26,41] Tryz.func27 rfl Tryz.results27 Tryz.ntmps27 ?_
 (refine' zg)
 refine vL (lv:=[0,1,2,3,4,5,6,15,26,41]) mixed dhFs (DhP l) (fun x=>2*x.2.length - x.1) (0,l) (GhW.frz 24<|GhW.go [3,4] (by (refine vR ?_);rw [List.take_of_length_le (by simp)]) rfl) ?_ ?_
 ·exact ⟨Nat.zero_le _,Nat.le_refl _,hs,hne,by cases l<;>rfl⟩
 rintro ⟨i,q⟩ ⟨g1,g2,g3,g4,g5⟩
 simp only at g1 g2 g3 g4 g5
 rcases Nat.lt_or_ge (i+1) q.length with hk|hk
 ·obtain ⟨c,hc⟩ : ∃c,q[i]? = some c:=⟨_,List.getElem?_eq_getElem (by omega)⟩
  obtain ⟨x,hx⟩ : ∃x,q[i+1]? = some x:=⟨_,List.getElem?_eq_getElem hk⟩
  have r1:=over_fn c x
  have d1:=drop_aF hc
  have d2:=drop_aF hx
  have hcx:=List.pairwise_iff_getElem.1 g3 i (i+1) (by omega) hk (by omega)
  rw [(List.getElem?_eq_some_iff.1 hc).2,(List.getElem?_eq_some_iff.1 hx).2] at hcx
  have hc2:=g4 c (List.mem_of_getElem? hc)
  have hx2:=g4 x (List.mem_of_getElem? hx)
  rw [hidR,d1] at g5
  simp only at g5
  rw [d2,hidG] at g5
  obtain ⟨c1,c2⟩:=c
  obtain ⟨x1,x2⟩:=x
  simp only at hcx hc2 hx2 g5 r1
  rw [decide_eq_true (by omega:c1<x2),Bool.true_and] at r1
  by_cases ho:x1<c2
  ·rw [if_pos ho] at g5
   rw [decide_eq_true ho] at r1
   have fin : ∀v:Int,v=max c2 x2→DhP l (i,q.take i++[(c1,v)]++q.drop (i+2)):=fun v hv=>by
    have hti:(q.take i).length=i:=by rw [List.length_take];omega
    have hsub : ∀a,a∈q.take i∨a∈q.drop (i+2)→a∈q:=fun a ha=>ha.elim List.mem_of_mem_take List.mem_of_mem_drop
    have hsp:q=q.take i++(c1,c2)::(x1,x2)::q.drop (i+2):=by
     conv=>lhs;rw [←List.take_append_drop i q,d1,d2]
    have hp:=g3
    rw [hsp] at hp
    obtain ⟨p1,p2,p3⟩:=List.pairwise_append.1 hp
    obtain ⟨p4,p5⟩:=List.pairwise_cons.1 p2
    obtain ⟨p6,p7⟩:=List.pairwise_cons.1 p5
    refine ⟨by simp only [List.length_append,List.length_singleton];omega,?_,?_,fun a ha =>?_,?_⟩
    ·have:=congrArg List.length hsp
     simp only [List.length_append,List.length_cons,List.length_nil] at this ⊢
     omega
    ·show ((q.take i++[(c1,v)])++q.drop (i+2)).Pairwise _
     rw [List.append_assoc]
     refine List.pairwise_append.2 ⟨p1,List.pairwise_cons.2 ⟨fun a ha=>p4 a (List.mem_cons_of_mem _ ha),p7⟩,fun a ha b hb =>?_⟩
     rcases List.mem_cons.1 hb with rfl|hb
     ·exact p3 a ha (c1,c2) List.mem_cons_self
     ·exact p3 a ha b (List.mem_cons_of_mem _ (List.mem_cons_of_mem _ hb))
    ·have ha:a∈q.take i++[(c1,v)]++q.drop (i+2):=ha
     rw [List.append_assoc] at ha
     rcases List.mem_append.1 ha with ha|ha
     ·exact g4 a (hsub a (.inl ha))
     ·rcases List.mem_cons.1 ha with rfl|ha
      ·show c1<v;omega
      ·exact g4 a (hsub a (.inr ha))
    ·show hidR (q.take i++[(c1,v)]++q.drop (i+2)) i=hidF l
     rw [←g5,hv,List.append_assoc,hidR,List.drop_left' hti,List.take_left' hti]
     rfl
   have el:(q.take i).map snD=List.take i (q.map snD):=List.map_take
   have er:(q.drop (i+2)).map snD=List.drop ((i:Int)+2).toNat (q.map snD):=by rw [show ((i:Int)+2).toNat=i+2 by omega];exact List.map_drop
   have em : ∀v:Int,List.take i (q.map snD)++[D.agg [iD c1,iD v]]++List.drop ((i:Int)+2).toNat (q.map snD)=(q.take i++[(c1,v)]++q.drop (i+2)).map snD:=fun v=>by
    rw [List.map_append,List.map_append,el,er];rfl
   have hmu : ∀v:Int,2*(q.take i++[(c1,v)]++q.drop (i+2)).length - i<2*q.length - i:=fun v=>by
    simp only [List.length_append,List.length_take,List.length_drop,List.length_singleton];omega
   (refine' zm12 r1 hc hx)
   ·rw [em]
    refine AgW.frz 240 ?_
    refine AgW.go (i,q.take i++[(c1,x2)]++q.drop (i+2)) [3,4] (by (refine vR ?_);rw [List.take_of_length_le (by simp)]) ?_ ?_
    ·exact hmu x2
    ·exact fin x2 (by omega)
   ·rw [em]
    refine AgW.frz 212 ?_
    refine AgW.go (i,q.take i++[(c1,c2)]++q.drop (i+2)) [3,4] (by (refine vR ?_);rw [List.take_of_length_le (by simp)]) ?_ ?_
    ·exact hmu c2
    ·exact fin c2 (by omega)
  ·rw [if_neg ho] at g5
   rw [decide_eq_false ho] at r1
   (refine' zm12 r1 hc hx)
   refine AgW.go ((i+1,q)) [3,4] (by exact vT) ?_ ?_
   ·show 2*q.length - (i+1)<2*q.length - i
    omega
   ·refine ⟨by show i+1≤q.length;omega,g2,g3,g4,?_⟩
    show hidR q (i+1)=hidF l
    rw [←g5,hidR,d2]
    show q.take (i+1)++hidG (x1,x2) (q.drop (i+1+1))=_
    rw [take_snoc' hc]
    simp
 ·have hq:q=hidF l:=by
   rw [←g5,hidR]
   rcases Nat.lt_or_ge i q.length with hk2|hk2
   ·obtain ⟨c,hc⟩ : ∃c,q[i]? = some c:=⟨_,List.getElem?_eq_getElem hk2⟩
    rw [drop_aF hc,List.drop_of_length_le (by omega)]
    show q=q.take i++[c]
    rw [←take_snoc' hc,List.take_of_length_le (by omega)]
   ·rw [List.drop_of_length_le hk2]
    show q=q.take i
    rw [List.take_of_length_le hk2]
  subst hq
  (refine' zo)
end Go.Proofs.YtkhonlnajdfhfaaGreatDoor
