/- What the theorem leans on, part 19. -/
import Derived.Test.YtkhonlnajdfhfaaGreatDoorLtYPAQ
import Derived.Test.YtkhonlnajdfhfaaGreatDoorLtYPAR
set_option linter.unusedSimpArgs false
set_option linter.unusedVariables false
set_option maxRecDepth 8000
namespace Go.Proofs.YtkhonlnajdfhfaaGreatDoor
def cutR (l:List Int) (a b:Nat):List Int:=(l.take b).drop a
theorem runes_txt {l:List Int} (h:okR l):runesAt (txt l) 0=l:=by
 have:=runesAt_txt l [] h
 simpa [encL_nil] using this
section
variable {l:List Int} {ps:List (List Int)} {t:Option T}
theorem cutR_ok (R:Rp l ps t) (a b:Nat):okR (cutR l a b):=fun x hx=>R.val x (List.mem_of_mem_take (List.mem_of_mem_drop hx))
set_option maxHeartbeats 1600000 in
theorem plain_fn (R:Rp l ps t) (n:Int) (x:D) (H:List Sn) (a to:Nat) (b:Int) (hab:a<to) (hto:to≤l.length) (out:List Pz) (ho:out.length≤1000000) :
 OFn Tryz.prog G0 127 [iv to,.po 1 0,.po 0 0,.po 2 0] [(0,txC t n x H),(1,.cell [iv a,iv b]),(2,.cell [.so 3 3 0 out.length]),(3,pzR out)] 4 (.tup [])
  [(0,txC t n x H),(1,.cell [iv to,iv b]),(2,.cell [.so 4 3 0 (out.length+1)]),(4,pzR (out++[.tx 1 a (cutR l a to)]))]:=by
 have r1:=rSlice_fn R a to (by omega) hto
 have hlen:=R.len
 have h4:=encL_len (cutR l a to)
 have h5:(cutR l a to).length≤20000:=by simp [cutR];omega
 have r2:=Decode_fn (txt (cutR l a to)) (by rw [txt_size];omega)
 rw [runes_txt (cutR_ok R a to)] at r2
 rw [cutR] at *
 refine vF mixed [0,1,2,3,5,10] Tryz.func127 rfl Tryz.results127 Tryz.ntmps127 ?_
 (refine' zg2 r1 r2)
 have e:out.map pzD++[D.agg [iD 1,iD a,.sd 1 false ((List.drop a (List.take to l)).map ruD)]]=(out++[Pz.tx 1 a (List.drop a (List.take to l))]).map pzD:=by rw [List.map_append];rfl
 rw [e,List.length_map,List.length_append]
 refine DoneW.now [92] (by decide) ?_
 (refine' zg)
 exact Sub.cons rfl (Sub.cons rfl (Sub.cons rfl (Sub.cons rfl Sub.nil)))
theorem plain_no (t:Option T) (n:Int) (x:D) (H:List Sn) (a to b:Int) (hab:to≤a) (out:List Pz) :
 OFn Tryz.prog G0 127 [iv to,.po 1 0,.po 0 0,.po 2 0] [(0,txC t n x H),(1,.cell [iv a,iv b]),(2,.cell [.so 3 3 0 out.length]),(3,pzR out)] 4 (.tup [])
  [(0,txC t n x H),(1,.cell [iv a,iv b]),(2,.cell [.so 3 3 0 out.length]),(3,pzR out)]:=by
 refine vF mixed [0,1,2,3,5,10] Tryz.func127 rfl Tryz.results127 Tryz.ntmps127 ?_
 (refine' zg)
 refine DoneW.now [] (by decide) ?_
 (refine' zg)
 exact Sub_refl _
def showP (l:List Int) (b:Nat):Nat→List Iy→List Pz
 | a,[]=>if a<b then [.tx 1 a (cutR l a b)] else []
 | a,x::r=>(if a<x.2.1.toNat then [.tx 1 a (cutR l a x.2.1.toNat)] else [])++(.tx 2 x.2.1 (runesAt x.2.2.2.2 0)::showP l b (max a x.2.1.toNat) r)
def shS (t:Option T) (n:Int) (x:D) (H:List Sn) (M:List Iy) (b:Int) (y:Nat × Nat × List Pz):St:=
 ⟨[(2,.po 0 0),(3,.po 1 0),(5,.po 2 0),(6,.fn 127 [.po 1 0,.po 0 0,.po 2 0]),(16,.d (.sd 5 false (M.map iyD))),(17,iv M.length),(18,iv y.1)],[(0,txC t n x H),(1,.cell [iv y.2.1,iv b]),(2,.cell [.so 3 3 0 y.2.2.length]),(3,pzR y.2.2)],4⟩
attribute [push_cast] shS.eq_def
structure ShP (l:List Int) (b:Nat) (M:List Iy) (fin:List Pz) (y:Nat × Nat × List Pz):Prop where
 le:y.1≤M.length
 at':y.2.1≤b
 len:y.2.2.length≤2*y.1
 fin:y.2.2++showP l b y.2.1 (M.drop y.1)=fin
set_option maxHeartbeats 3200000 in
theorem shown_fn (R:Rp l ps t) (n:Int) (x:D) (H:List Sn) (a b:Nat) (hab:a≤b) (hb:b≤l.length) (M:List Iy) (hM:M.length≤100000) (hw:OFn Tryz.prog G0 129 [.d (inlD n x),iv a,iv b] [] 0 (.d (.sd 5 false (M.map iyD))) [])
 (hin : ∀y∈M,(a:Int)≤y.2.1∧y.2.1≤b∧y.2.2.2.2.size≤1000000) :
 OFn Tryz.prog G0 78 [txD t n x H,.d (snD (a,b))] [] 0 (.d (.sd 3 false ((showP l b a M).map pzD))) []:=by
 have hlen:=R.len
 refine vF mixed [0,1,2,3,4,5,6,8,16,17,18,19] Tryz.func78 rfl Tryz.results78 Tryz.ntmps78 ?_
 (refine' zg1 hw)
 refine vL (lv:=[0,1,2,3,4,5,6,8,16,17,18,19]) mixed (shS t n x H M b) (ShP l b M (showP l b a M)) (fun y=>M.length - y.1) ((0,a,[])) (GhW.nilC 12 0 3<|(GhW.go [2,3,5,6,16,17,18] (by exact vT) rfl)) ?_ ?_
 ·exact ⟨Nat.zero_le _,hab,Nat.zero_le _,rfl⟩
 rintro ⟨i,c,out⟩ ⟨h1,h2,h3,h4⟩
 simp only at h1 h2 h3 h4
 rcases Nat.lt_or_ge i M.length with hi|hi
 ·obtain ⟨y,hy⟩ : ∃y,M[i]? = some y:=⟨_,List.getElem?_eq_getElem hi⟩
  have hyb:=hin y (List.mem_of_getElem? hy)
  obtain ⟨yi,at_,yb,yk,tx⟩:=y
  simp only at hyb
  obtain ⟨to,rfl⟩ : ∃to:Nat,at_=to:=⟨at_.toNat,by omega⟩
  have r2:=Decode_fn tx (by omega)
  rw [drop_is hy,showP] at h4
  simp only [Int.toNat_natCast] at h4
  by_cases hc:c<to
  ·rw [if_pos hc,show max c to=to by omega] at h4
   have r1:=plain_fn R n x H c to b hc (by omega) out (by omega)
   (refine' zg)
   refine elX.is i _ (by omega) hy ?_
   (refine' zg)
   refine CallW.ofN [0,1,2,3] r1 ?_
   (refine' zg1 r2)
   rw [show (out++[Pz.tx 1 c (cutR l c to)]).map pzD++[D.agg [iD 2,iD to,.sd 1 false ((runesAt tx 0).map ruD)]]=(out++[Pz.tx 1 c (cutR l c to)]++[Pz.tx 2 to (runesAt tx 0)]).map pzD from snoc_pz _ (Pz.tx 2 to (runesAt tx 0)),List.length_map]
   refine AgW.go ((i+1,to,out++[Pz.tx 1 c (cutR l c to)]++[Pz.tx 2 to (runesAt tx 0)])) [2,3,5,6,16,17,18] (by exact vT) ?_ ?_
   ·show M.length - (i+1)<M.length - i
    omega
   ·exact ⟨hi,by show to≤b;omega,by simp only [List.length_append,List.length_cons,List.length_nil];omega,by rw [←h4];simp only [List.append_assoc,List.cons_append,List.nil_append]⟩
  ·rw [if_neg hc,show max c to=c by omega,List.nil_append] at h4
   have r1:=plain_no t n x H c to b (by omega) out
   (refine' zg)
   refine elX.is i _ (by omega) hy ?_
   (refine' zg)
   refine CallW.ofN [0,1,2,3] r1 ?_
   (refine' zg1 r2)
   rw [show out.map pzD++[D.agg [iD 2,iD to,.sd 1 false ((runesAt tx 0).map ruD)]]=(out++[Pz.tx 2 to (runesAt tx 0)]).map pzD from snoc_pz _ (Pz.tx 2 to (runesAt tx 0)),List.length_map]
   refine AgW.go ((i+1,c,out++[Pz.tx 2 to (runesAt tx 0)])) [2,3,5,6,16,17,18] (by exact vT) ?_ ?_
   ·show M.length - (i+1)<M.length - i
    omega
   ·exact ⟨hi,h2,by simp only [List.length_append,List.length_cons,List.length_nil];omega,by rw [←h4];simp only [List.append_assoc,List.cons_append,List.nil_append]⟩
 ·rw [List.drop_of_length_le hi,showP] at h4
  by_cases hc:c<b
  ·rw [if_pos hc] at h4
   have r1:=plain_fn R n x H c b b hc (by omega) out (by omega)
   (refine' zg)
   refine CallW.ofN [0,1,2,3] r1 ?_
   (refine' zg)
   rw [show out.length+1=(out++[Pz.tx 1 c (cutR l c b)]).length by simp,h4]
   refine DoneW.frz 20 (DoneW.out ?_)
   (refine' zg)
  ·rw [if_neg hc,List.append_nil] at h4
   have r1:=plain_no t n x H c b b (by omega) out
   (refine' zg)
   refine CallW.ofN [0,1,2,3] r1 ?_
   (refine' zg)
   rw [h4]
   refine DoneW.frz 3 (DoneW.out ?_)
   (refine' zg)
end
theorem runs_fn (t:Option T) (n:Int) (x:D) (H:List Sn) (a b:Int):OFn Tryz.prog G0 77 [txD t n x H,iv a,iv b] [] 0 (.fn 126 [.po 0 0,.po 1 0,.po 2 0]) [(0,txC t n x H),(1,.cell [iv a]),(2,.cell [iv b])]:=by
 refine vF mixed [0,1,2,3,4,5,6] Tryz.func77 rfl Tryz.results77 Tryz.ntmps77 ?_
 (refine' zg)
 refine DoneW.now [0,4,8] (by decide) ?_
 (refine' zg)
 exact Sub.cons rfl (Sub.cons rfl (Sub.cons rfl Sub.nil))
abbrev inWi (L:List Iy) (a b:Int):List Iy:=L.filter fun x=> !(decide (x.2.1<a)||decide (b<x.2.1))
theorem iWithin_all (n a b:Int) (L:List Iy) (hl:L.length≤100000):OFn Tryz.prog G0 129 [.d (inlD n (inlL L)),iv a,iv b] [] 0 (.d (.sd 5 false ((inWi L a b).map iyD))) []:=by
 cases L with
 | nil=>exact (iWithin_nil n a b).nil 5 false
 | cons y r=>exact iWithin_fn n a b (y::r) (by simp) hl
def runP (l:List Int) (L:List Iy) (e:Nat):Nat→List Sn→List Pz
 | a,[]=>showP l e a (inWi L a e)
 | a,x::r=>if x.1<a∨(e:Int)<x.2 then runP l L e a r else showP l x.1.toNat a (inWi L a x.1)++(.fo x.1::runP l L e x.2.toNat r)
def liE (t:Option T) (n:Int) (x:D) (H:List Sn) (a:Int):Env:=[(17,.fn 126 [.po 52 0,.po 53 0,.po 54 0]),(5,.po 28 0),(4,.po 4 0),(2,.po 0 0),(0,txD t n x H),(1,iv a)]
def liS (t:Option T) (n:Int) (x:D) (H:List Sn) (a e:Int) (y:Yd) (z:Nat × Nat × List Pz):St:=
 ⟨[(0,.yl 56),(1,.po 52 0),(2,.po 53 0),(3,.po 54 0),(8,snL H),(9,iv H.length),(10,iv z.1)],
  [(0,txC t n x H),(4,.cell [.d nilSD,iv 0,iv 0]),(28,.cell [.so 57 3 0 z.2.2.length,iv a,iv e]),(52,txC t n x H),(53,.cell [iv z.2.1]),(54,.cell [iv e]),(56,.rc y none (liE t n x H a)),(57,pzR z.2.2)],58⟩
attribute [push_cast] liS.eq_def liE.eq_def ltG.eq_def fillE Sig.del selY.eq_def
theorem showP_len (l:List Int) (b:Nat) : ∀(M:List Iy) (a:Nat),(showP l b a M).length≤2*M.length+1
 | [],a=>by rw [showP];split<;>simp
 | x::r,a=>by
  have:=showP_len l b r (max a x.2.1.toNat)
  rw [showP,List.length_append,List.length_cons,List.length_cons]
  split<;>simp<;>omega
structure LiP (l:List Int) (L:List Iy) (e:Nat) (H:List Sn) (fin:List Pz) (z:Nat × Nat × List Pz):Prop where
 le:z.1≤H.length
 at':z.2.1≤e
 len:z.2.2.length≤3000*z.1
 fin:z.2.2++runP l L e z.2.1 (H.drop z.1)=fin
section
variable {l:List Int} {ps:List (List Int)} {t:Option T}
set_option maxHeartbeats 3200000 in
theorem line_fn (R:Rp l ps t) (n:Int) (L:List Iy) (hL:L.length≤1000) (hok : ∀y∈L,0≤y.2.1∧y.2.2.2.2.size≤1000000) (H:List Sn) (hl:H.length≤1000) (hr:rgt l.length 0 H=true) (a:Nat) (ha:a≤l.length) :
 OFn Tryz.prog G0 46 [txD t n (inlL L) H,iv a] [] 0 (.d (.agg [.sd 3 false ((runP l L (endP l H a) a H).map pzD),iD a,iD (endP l H a)])) []:=by
 have r1:=end_fn R n (inlL L) H (by omega) hr a ha
 have r2:=runs_fn t n (inlL L) H a (endP l H a)
 refine vF mixed [0,1,2,4,5,6,7,17,18,19,20] Tryz.func46 rfl Tryz.results46 Tryz.ntmps46 ?_
 (repeat' (first|(with_reducible first|exact True.intro|refine vD ?_|refine vG ?_|refine vE ?_)|with_reducible refine vC (r1) ?_|with_reducible refine vQ (r1) ?_|with_reducible refine vK (r2) ?_|refine vR ?_|refine v6 ?_|with_reducible refine vN ?_|((with_reducible first|refine vB (fun h =>?_) (fun h =>?_)|refine vM (fun h =>?_) (fun h =>?_))<;>(first|(exfalso;omega)|skip))))
 refine vRn mixed [0,1,2,3,6,8,9,10,11,23,36] Tryz.func126 rfl ?_
 (refine' zg)
 have he:=endP_in l H ha
 generalize hy:Yd.mk _ _ _ _=y
 refine vL (lv:=[0,1,2,3,6,8,9,10,11,23,36]) mixed (liS t n (inlL L) H a (endP l H a) y) (LiP l L (endP l H a) H (runP l L (endP l H a) a H)) (fun z=>H.length - z.1) (0,a,[]) (GhW.nilC 28 0 3<|GhW.to [0,1,2,3,8,9,10] [0,4,28,52,53,54,56,73] [73] (by exact vT) rfl) ?_ ?_
 ·exact ⟨Nat.zero_le _,he.1,Nat.zero_le _,rfl⟩
 rintro ⟨i,c,out⟩ ⟨h1,h2,hol,h3⟩
 simp only at h1 h2 hol h3
 rcases Nat.lt_or_ge i H.length with hi|hi
 ·obtain ⟨x,hx⟩ : ∃x,H[i]? = some x:=⟨_,List.getElem?_eq_getElem hi⟩
  have hxr:=rgt_mem hr x (List.mem_of_getElem? hx)
  rw [drop_is hx,runP] at h3
  obtain ⟨x1,x2⟩:=x
  simp only at hxr h3
  obtain ⟨j,rfl⟩ : ∃j:Nat,x1=j:=⟨x1.toNat,by omega⟩
  obtain ⟨k,rfl⟩ : ∃k:Nat,x2=k:=⟨x2.toNat,by omega⟩
  simp only [Int.toNat_natCast] at h3
  by_cases hc:(j:Int)<c∨(endP l H a:Int)<k
  ·rw [if_pos hc] at h3
   (refine' zg)
   refine elX.is i _ (by omega) hx ?_
   (refine' zg)
   refine AgW.to (i+1,c,out) [0,1,2,3,8,9,10] [0,4,28,52,53,54,56,57] [57] (by exact vT) ?_ ?_
   ·show H.length - (i+1)<H.length - i
    omega
   ·exact ⟨hi,h2,by show out.length≤3000*(i+1);omega,h3⟩
  ·rw [if_neg hc] at h3
   have rw1:=iWithin_all n c j L (by omega)
   have r3:=shown_fn R n (inlL L) H c j (by omega) (by omega) (inWi L c j) (Nat.le_trans (List.length_filter_le _ _) (by omega)) rw1 (fun y hy=>by
    obtain ⟨g1,g2⟩:=List.mem_filter.1 hy
    have:=hok y g1
    simp only [Bool.not_eq_true',Bool.or_eq_false_iff,decide_eq_false_iff_not] at g2
    omega)
   have hsl:=showP_len l j (inWi L c j) c
   have hfl:(inWi L c j).length≤L.length:=List.length_filter_le _ _
   generalize showP l j c (inWi L c j)=sh at r3 h3 hsl
   have happ:(out++sh).length=out.length+sh.length:=List.length_append
   (refine' zg)
   refine elX.is i _ (by omega) hx ?_
   (refine' zg)
   refine vY mixed [0,1,2,4,5,6,7,17,18,19,20] (bv true) [(0,txC t n (inlL L) H),(4,.cell [.d nilSD,iv 0,iv 0]),(28,.cell [.so 138 3 0 (out++sh).length,iv a,iv (endP l H a)]),(52,txC t n (inlL L) H),(53,.cell [iv c]),(54,.cell [iv (endP l H a)]),(56,.rc y none (liE t n (inlL L) H a)),(138,pzR (out++sh)),(70,.cell [iv j,iv k])] ?_ ?_ (hps:=by subst hy;kernel_rfl) (hl:=by subst hy;rfl) (hn1:=by subst hy;kernel_rfl) (hn2:=by subst hy;kernel_rfl) (ho1:=by subst hy;kernel_rfl) (ho2:=by subst hy;kernel_rfl)
   ·subst hy
    (refine' zg1 r3)
    refine ⟨rfl,vG ⟨[174],by decide,?_⟩⟩
    exact Sub.cons rfl (Sub.cons rfl (Sub.cons rfl (Sub.cons rfl (Sub.cons rfl (Sub.cons rfl (Sub.cons rfl (Sub.cons rfl (Sub.cons rfl Sub.nil))))))))
   ·(refine' zg)
    refine vY mixed [0,1,2,4,5,6,7,17,18,19,20] (bv true) [(0,txC t n (inlL L) H),(4,.cell [.d nilSD,iv 0,iv 0]),(28,.cell [.so 158 3 0 (out++sh++[Pz.fo j]).length,iv a,iv (endP l H a)]),(52,txC t n (inlL L) H),(53,.cell [iv c]),(54,.cell [iv (endP l H a)]),(56,.rc y none (liE t n (inlL L) H a)),(158,pzR (out++sh++[Pz.fo j])),(70,.cell [iv j,iv k])] ?_ ?_ (hps:=by subst hy;kernel_rfl) (hl:=by subst hy;rfl) (hn1:=by subst hy;kernel_rfl) (hn2:=by subst hy;kernel_rfl) (ho1:=by subst hy;kernel_rfl) (ho2:=by subst hy;kernel_rfl)
    ·subst hy
     (refine' zg)
     rw [show (out++sh).map pzD++[D.agg [iD 3,iD j,nilSD]]=(out++sh++[Pz.fo j]).map pzD from snoc_pz _ (Pz.fo j),List.length_map]
     refine ⟨rfl,vG ⟨[198],by decide,?_⟩⟩
     exact Sub.cons rfl (Sub.cons rfl (Sub.cons rfl (Sub.cons rfl (Sub.cons rfl (Sub.cons rfl (Sub.cons rfl (Sub.cons rfl (Sub.cons rfl Sub.nil))))))))
    ·(refine' zg)
     refine AgW.to (i+1,k,out++sh++[Pz.fo j]) [0,1,2,3,8,9,10] [0,4,28,52,53,54,56,158] [158] (by exact vT) ?_ ?_
     ·show H.length - (i+1)<H.length - i
      omega
     ·exact ⟨hi,by show k≤endP l H a;omega,by show (out++sh++[Pz.fo j]).length≤3000*(i+1);simp only [List.length_append,List.length_cons,List.length_nil];omega,by show out++sh++[Pz.fo j]++_=_;rw [←h3];simp only [List.append_assoc,List.cons_append,List.nil_append]⟩
 ·rw [List.drop_of_length_le hi,runP] at h3
  have rw1:=iWithin_all n c (endP l H a) L (by omega)
  have r3:=shown_fn R n (inlL L) H c (endP l H a) (by omega) (by omega) (inWi L c (endP l H a)) (Nat.le_trans (List.length_filter_le _ _) (by omega)) rw1 (fun y hy=>by
   obtain ⟨g1,g2⟩:=List.mem_filter.1 hy
   have:=hok y g1
   simp only [Bool.not_eq_true',Bool.or_eq_false_iff,decide_eq_false_iff_not] at g2
   omega)
  have hsl:=showP_len l (endP l H a) (inWi L c (endP l H a)) c
  have hfl:(inWi L c (endP l H a)).length≤L.length:=List.length_filter_le _ _
  generalize showP l (endP l H a) c (inWi L c (endP l H a))=sh at r3 h3 hsl
  have happ:(out++sh).length=out.length+sh.length:=List.length_append
  (refine' zg)
  refine vY mixed [0,1,2,4,5,6,7,17,18,19,20] (bv true) [(0,txC t n (inlL L) H),(4,.cell [.d nilSD,iv 0,iv 0]),(28,.cell [.so 78 3 0 (out++sh).length,iv a,iv (endP l H a)]),(52,txC t n (inlL L) H),(53,.cell [iv c]),(54,.cell [iv (endP l H a)]),(56,.rc y none (liE t n (inlL L) H a)),(78,pzR (out++sh))] ?_ ?_ (hps:=by subst hy;kernel_rfl) (hl:=by subst hy;rfl) (hn1:=by subst hy;kernel_rfl) (hn2:=by subst hy;kernel_rfl) (ho1:=by subst hy;kernel_rfl) (ho2:=by subst hy;kernel_rfl)
  ·subst hy
   (refine' zg1 r3)
   refine ⟨rfl,vG ⟨[114],by decide,?_⟩⟩
   exact Sub.cons rfl (Sub.cons rfl (Sub.cons rfl (Sub.cons rfl (Sub.cons rfl (Sub.cons rfl (Sub.cons rfl (Sub.cons rfl Sub.nil)))))))
  ·(refine' zg)
   refine vG ⟨y,none,_,rfl,?_⟩
   (refine' zg)
   rw [h3]
   refine DoneW.frz 78 (DoneW.out ?_)
   (refine' zg)
end
def lnD (l:List Int) (L:List Iy) (H:List Sn) (x:Nat × Nat):D:= .agg [.sd 3 false ((runP l L x.2 x.1 H).map pzD),iD x.1,iD x.2]
attribute [push_cast] lnD.eq_def
theorem snoc_map {α:Type} (f:α→D) (es:List α) (x:α):es.map f++[f x]=(es++[x]).map f:=by rw [List.map_append];rfl
def saS (t:Option T) (n:Int) (x:D) (H:List Sn) (l:List Int) (L:List Iy) (y:List (Nat × Nat)):St:=⟨[(1,.po 0 0),(5,.so 1 3 0 y.length),(6,iv l.length)],[(0,txC t n x H),(1,.row 3 (y.map (lnD l L H)))],2⟩
attribute [push_cast] saS.eq_def
structure SaP (l:List Int) (H:List Sn) (y:List (Nat × Nat)):Prop where
 ex : ∃pre a,y=pre++[(a,endP l H a)]∧a≤l.length∧pre++linesP l H a=linesP l H 0∧pre.length≤a
section
variable {l:List Int} {ps:List (List Int)} {t:Option T}
set_option maxHeartbeats 3200000 in
theorem sAll_fn (R:Rp l ps t) (n:Int) (L:List Iy) (hL:L.length≤1000) (hok : ∀y∈L,0≤y.2.1∧y.2.2.2.2.size≤1000000) (H:List Sn) (hl:H.length≤1000) (h:okT' l.length n H=true) :
 OFn Tryz.prog G0 21 [txD t n (inlL L) H] [] 0 (.tup [.d (.sd 3 false ((linesP l H 0).map (lnD l L H))),iv 0]) []:=by
 have r1:=sCheck_fn R n (inlL L) H (by omega)
 rw [if_pos h] at r1
 have hr:=(okT_rgt h).1
 have r2:=line_fn R n L hL hok H hl hr 0 (Nat.zero_le _)
 have r3:=Runes_fn R
 have hlen:=R.len
 refine vF mixed [0,1,2,3,4,5,6,10,26] Tryz.func21 rfl Tryz.results21 Tryz.ntmps21 ?_
 (refine' zg3 r1 r2 r3)
 refine vL (lv:=[0,1,2,3,4,5,6,10,26]) mixed (saS t n (inlL L) H l L) (SaP l H) (fun y=>l.length+1 - y.length) ([(0,endP l H 0)]) ((GhW.go [1,5,6] (by exact vT) rfl)) ?_ ?_
 ·exact ⟨[],0,rfl,Nat.zero_le _,rfl,Nat.le_refl _⟩
 rintro y ⟨pre,a,rfl,ha,hp,hpl⟩
 have he:=endP_in l H ha
 have hy:(pre++[(a,endP l H a)])[pre.length]? = some (a,endP l H a):=by simp
 have hyl:(pre++[(a,endP l H a)]).length=pre.length+1:=by simp
 by_cases hc:endP l H a<l.length
 ·have r4:=line_fn R n L hL hok H hl hr (endP l H a+1) hc
  have ec:((endP l H a+1:Nat):Int)=(endP l H a:Int)+1:=by omega
  rw [ec] at r4
  (refine' zg)
  refine elX.is pre.length _ (by omega) hy ?_
  (refine' zg)
  refine elX.is pre.length _ (by omega) hy ?_
  (refine' zg1 r4)
  have e2:=snoc_map (lnD l L H) (pre++[(a,endP l H a)]) (endP l H a+1,endP l H (endP l H a+1))
  simp only [lnD,ec] at e2
  change (pre++[(a,endP l H a)]).map (lnD l L H)++_=_ at e2
  rw [e2,List.length_map]
  refine AgW.go (pre++[(a,endP l H a)]++[(endP l H a+1,endP l H (endP l H a+1))]) [1,5,6] (by exact vT) ?_ ?_
  ·show l.length+1 - (pre++[(a,endP l H a)]++[(endP l H a+1,endP l H (endP l H a+1))]).length<l.length+1 - (pre++[(a,endP l H a)]).length
   simp only [List.length_append,List.length_cons,List.length_nil]
   omega
  ·refine ⟨pre++[(a,endP l H a)],endP l H a+1,rfl,hc,?_,by simp only [List.length_append,List.length_cons,List.length_nil];omega⟩
   rw [←hp]
   conv=>rhs;rw [linesP,dif_pos ⟨hc,he.1⟩]
   simp only [List.append_assoc,List.cons_append,List.nil_append]
 ·have hfin:pre++[(a,endP l H a)]=linesP l H 0:=by
   rw [←hp,linesP,dif_neg (by omega)]
  (refine' zg)
  refine elX.is pre.length _ (by omega) hy ?_
  (refine' zg)
  rw [hfin]
  refine DoneW.frz 1 (DoneW.out ?_)
  (refine' zg)
end
end Go.Proofs.YtkhonlnajdfhfaaGreatDoor
