/- What the theorem leans on, part 19. -/
import Derived.Test.YtkkanlcjjpoklaaGreatDoorSpTPAQ
import Derived.Test.YtkkanlcjjpoklaaGreatDoorSpTPAR
set_option linter.unusedSimpArgs false
set_option linter.unusedVariables false
set_option maxRecDepth 8000
namespace Go.Proofs.YtkkanlcjjpoklaaGreatDoor
def fj (l:List Int) (a b:Nat):List Int:=(l.take b).drop a
theorem rL {l:List Int} (h:Cn l):aa (c8 l) 0=l:=by
 have:=mH l [] h;simpa [eu] using this
section
variable {l:List Int} {ps:List (List Int)} {t:Option T}
theorem FP (R:Rp l ps t) (a b:Nat):Cn (fj l a b):=fun x hx=>R.val x (List.mem_of_mem_take (List.mem_of_mem_drop hx))
set_option maxHeartbeats 1600000 in
theorem vZ (R:Rp l ps t) (n:Int) (x:D) (H:List Sn) (a to:Nat) (b:Int) (hab:a<to) (hto:to≤l.length) (out:List Pz) (ho:out.length≤1000000) :
 aq Tryz.prog G0 217 [iv to,.po 1 0,.po 0 0,.po 2 0] [(0,xi t n x H),(1,.cell [iv a,iv b]),(2,.cell [.so 3 3 0 out.length]),(3,GU out)] 4 (.tup [])
  [(0,xi t n x H),(1,.cell [iv to,iv b]),(2,.cell [.so 4 3 0 (out.length+1)]),(4,GU (out++[.tx 1 a (fj l a to)]))]:=by
 have r1:=BO R a to (by omega) hto;have hlen:=R.len;have h4:=bX (fj l a to);have h5:(fj l a to).length≤20000:=by simp [fj];omega
 have r2:=k8 (c8 (fj l a to)) (by rw [bh];omega);rw [rL (FP R a to)] at r2;rw [fj] at *
 refine vF ab [0,1,2,3,5,10] Tryz.func217 rfl Tryz.results217 Tryz.ntmps217 ?_;(refine' Fo r1 r2)
 have e:out.map nq++[D.agg [iD 1,iD a,.sd 1 false ((List.drop a (List.take to l)).map gu)]]=(out++[Pz.tx 1 a (List.drop a (List.take to l))]).map nq:=by rw [List.map_append];rfl
 rw [e,List.length_map,List.length_append];refine ah.now [92] (by decide) ?_;(refine' zg)
 exact ar.cons rfl (ar.cons rfl (ar.cons rfl (ar.cons rfl ar.nil)))
theorem v0 (t:Option T) (n:Int) (x:D) (H:List Sn) (a to b:Int) (hab:to≤a) (out:List Pz) :
 aq Tryz.prog G0 217 [iv to,.po 1 0,.po 0 0,.po 2 0] [(0,xi t n x H),(1,.cell [iv a,iv b]),(2,.cell [.so 3 3 0 out.length]),(3,GU out)] 4 (.tup [])
  [(0,xi t n x H),(1,.cell [iv a,iv b]),(2,.cell [.so 3 3 0 out.length]),(3,GU out)]:=by
 refine vF ab [0,1,2,3,5,10] Tryz.func217 rfl Tryz.results217 Tryz.ntmps217 ?_;(refine' zg)
 refine ah.now [] (by decide) ?_;(refine' zg)
 exact ay _
def cy (l:List Int) (b:Nat):Nat→List Iy→List Pz
 | a,[]=>if a<b then [.tx 1 a (fj l a b)] else []
 | a,x::r=>(if a<x.2.1.toNat then [.tx 1 a (fj l a x.2.1.toNat)] else [])++(.tx 2 x.2.1 (aa x.2.2.2.2 0)::cy l b (max a x.2.1.toNat) r)
def PX (t:Option T) (n:Int) (x:D) (H:List Sn) (M:List Iy) (b:Int) (y:Nat × Nat × List Pz):St:=
 ⟨[(2,.po 0 0),(3,.po 1 0),(5,.po 2 0),(6,.fn 217 [.po 1 0,.po 0 0,.po 2 0]),(16,.d (.sd 5 false (M.map ki))),(17,iv M.length),(18,iv y.1)],[(0,xi t n x H),(1,.cell [iv y.2.1,iv b]),(2,.cell [.so 3 3 0 y.2.2.length]),(3,GU y.2.2)],4⟩
attribute [push_cast] PX.eq_def
structure QN (l:List Int) (b:Nat) (M:List Iy) (fin:List Pz) (y:Nat × Nat × List Pz):Prop where
 le:y.1≤M.length
 at':y.2.1≤b
 len:y.2.2.length≤2*y.1
 fin:y.2.2++cy l b y.2.1 (M.drop y.1)=fin
set_option maxHeartbeats 3200000 in
theorem wx (R:Rp l ps t) (n:Int) (x:D) (H:List Sn) (a b:Nat) (hab:a≤b) (hb:b≤l.length) (M:List Iy) (hM:M.length≤100000) (hw:aq Tryz.prog G0 219 [.d (bY n x),iv a,iv b] [] 0 (.d (.sd 5 false (M.map ki))) [])
 (hin : ∀y∈M,(a:Int)≤y.2.1∧y.2.1≤b∧y.2.2.2.2.size≤1000000) :
 aq Tryz.prog G0 162 [Cp t n x H,.d (dk (a,b))] [] 0 (.d (.sd 3 false ((cy l b a M).map nq))) []:=by
 have hlen:=R.len;refine vF ab [0,1,2,3,4,5,6,8,16,17,18,19] Tryz.func162 rfl Tryz.results162 Tryz.ntmps162 ?_;(refine' l9 hw)
 refine vL (lv:=[0,1,2,3,4,5,6,8,16,17,18,19]) ab (PX t n x H M b) (QN l b M (cy l b a M)) (fun y=>M.length - y.1) ((0,a,[])) (aN.nilC 12 0 3<|(aN.go [2,3,5,6,16,17,18] (by exact vT) rfl)) ?_ ?_
 ·exact ⟨Nat.zero_le _,hab,Nat.zero_le _,rfl⟩
 rintro ⟨i,c,out⟩ ⟨h1,h2,h3,h4⟩;simp only at h1 h2 h3 h4;rcases Nat.lt_or_ge i M.length with hi|hi
 ·obtain ⟨y,hy⟩ : ∃y,M[i]? = some y:=⟨_,List.getElem?_eq_getElem hi⟩
  have hyb:=hin y (List.mem_of_getElem? hy);obtain ⟨yi,at_,yb,yk,tx⟩:=y;simp only at hyb;obtain ⟨to,rfl⟩ : ∃to:Nat,at_=to:=⟨at_.toNat,by omega⟩
  have r2:=k8 tx (by omega);rw [cm hy,cy] at h4;simp only [Int.toNat_natCast] at h4;by_cases hc:c<to
  ·rw [if_pos hc,show max c to=to by omega] at h4;have r1:=vZ R n x H c to b hc (by omega) out (by omega);(refine' zg)
   refine dV.is i _ (by omega) hy ?_;(refine' zg)
   refine aB.ofN [0,1,2,3] r1 ?_;(refine' l9 r2)
   rw [show (out++[Pz.tx 1 c (fj l c to)]).map nq++[D.agg [iD 2,iD to,.sd 1 false ((aa tx 0).map gu)]]=(out++[Pz.tx 1 c (fj l c to)]++[Pz.tx 2 to (aa tx 0)]).map nq from tN _ (Pz.tx 2 to (aa tx 0)),List.length_map];refine bH.go ((i+1,to,out++[Pz.tx 1 c (fj l c to)]++[Pz.tx 2 to (aa tx 0)])) [2,3,5,6,16,17,18] (by exact vT) ?_ ?_
   ·show M.length - (i+1)<M.length - i;omega
   ·exact ⟨hi,by show to≤b;omega,by simp only [List.length_append,List.length_cons,List.length_nil];omega,by rw [←h4];simp only [List.append_assoc,List.cons_append,List.nil_append]⟩
  ·rw [if_neg hc,show max c to=c by omega,List.nil_append] at h4;have r1:=v0 t n x H c to b (by omega) out;(refine' zg)
   refine dV.is i _ (by omega) hy ?_;(refine' zg)
   refine aB.ofN [0,1,2,3] r1 ?_;(refine' l9 r2)
   rw [show out.map nq++[D.agg [iD 2,iD to,.sd 1 false ((aa tx 0).map gu)]]=(out++[Pz.tx 2 to (aa tx 0)]).map nq from tN _ (Pz.tx 2 to (aa tx 0)),List.length_map];refine bH.go ((i+1,c,out++[Pz.tx 2 to (aa tx 0)])) [2,3,5,6,16,17,18] (by exact vT) ?_ ?_
   ·show M.length - (i+1)<M.length - i;omega
   ·exact ⟨hi,h2,by simp only [List.length_append,List.length_cons,List.length_nil];omega,by rw [←h4];simp only [List.append_assoc,List.cons_append,List.nil_append]⟩
 ·rw [List.drop_of_length_le hi,cy] at h4;by_cases hc:c<b
  ·rw [if_pos hc] at h4;have r1:=vZ R n x H c b b hc (by omega) out (by omega);(refine' zg)
   refine aB.ofN [0,1,2,3] r1 ?_;(refine' zg)
   rw [show out.length+1=(out++[Pz.tx 1 c (fj l c b)]).length by simp,h4];refine ah.frz 20 (ah.out ?_);(refine' zg)
  ·rw [if_neg hc,List.append_nil] at h4;have r1:=v0 t n x H c b b (by omega) out;(refine' zg)
   refine aB.ofN [0,1,2,3] r1 ?_;(refine' zg)
   rw [h4];refine ah.frz 3 (ah.out ?_);(refine' zg)
end
theorem G4 (t:Option T) (n:Int) (x:D) (H:List Sn) (a b:Int):aq Tryz.prog G0 161 [Cp t n x H,iv a,iv b] [] 0 (.fn 216 [.po 0 0,.po 1 0,.po 2 0]) [(0,xi t n x H),(1,.cell [iv a]),(2,.cell [iv b])]:=by
 refine vF ab [0,1,2,3,4,5,6] Tryz.func161 rfl Tryz.results161 Tryz.ntmps161 ?_;(refine' zg)
 refine ah.now [0,4,8] (by decide) ?_;(refine' zg)
 exact ar.cons rfl (ar.cons rfl (ar.cons rfl ar.nil))
abbrev dX (L:List Iy) (a b:Int):List Iy:=L.filter fun x=> !(decide (x.2.1<a)||decide (b<x.2.1))
theorem mm (n a b:Int) (L:List Iy) (hl:L.length≤100000):aq Tryz.prog G0 219 [.d (bY n (ca L)),iv a,iv b] [] 0 (.d (.sd 5 false ((dX L a b).map ki))) []:=by
 cases L with
 | nil=>exact (uV n a b).nil 5 false
 | cons y r=>exact xU n a b (y::r) (by simp) hl
def bQ (l:List Int) (L:List Iy) (e:Nat):Nat→List Sn→List Pz
 | a,[]=>cy l e a (dX L a e)
 | a,x::r=>if x.1<a∨(e:Int)<x.2 then bQ l L e a r else cy l x.1.toNat a (dX L a x.1)++(.fo x.1::bQ l L e x.2.toNat r)
def K4 (t:Option T) (n:Int) (x:D) (H:List Sn) (a:Int):aC:=[(17,.fn 216 [.po 52 0,.po 53 0,.po 54 0]),(5,.po 28 0),(4,.po 4 0),(2,.po 0 0),(0,Cp t n x H),(1,iv a)]
def PI (t:Option T) (n:Int) (x:D) (H:List Sn) (a e:Int) (y:Yd) (z:Nat × Nat × List Pz):St:=
 ⟨[(0,.yl 56),(1,.po 52 0),(2,.po 53 0),(3,.po 54 0),(8,Fm H),(9,iv H.length),(10,iv z.1)],
  [(0,xi t n x H),(4,.cell [.d ap,iv 0,iv 0]),(28,.cell [.so 57 3 0 z.2.2.length,iv a,iv e]),(52,xi t n x H),(53,.cell [iv z.2.1]),(54,.cell [iv e]),(56,.rc y none (K4 t n x H a)),(57,GU z.2.2)],58⟩
attribute [push_cast] PI.eq_def K4.eq_def gL.eq_def g8 ae.del jG.eq_def
theorem lT (l:List Int) (b:Nat) : ∀(M:List Iy) (a:Nat),(cy l b a M).length≤2*M.length+1
 | [],a=>by rw [cy];split<;>simp
 | x::r,a=>by
  have:=lT l b r (max a x.2.1.toNat);rw [cy,List.length_append,List.length_cons,List.length_cons];split<;>simp<;>omega
structure QM (l:List Int) (L:List Iy) (e:Nat) (H:List Sn) (fin:List Pz) (z:Nat × Nat × List Pz):Prop where
 le:z.1≤H.length
 at':z.2.1≤e
 len:z.2.2.length≤3000*z.1
 fin:z.2.2++bQ l L e z.2.1 (H.drop z.1)=fin
section
variable {l:List Int} {ps:List (List Int)} {t:Option T}
set_option maxHeartbeats 3200000 in
theorem Gy (R:Rp l ps t) (n:Int) (L:List Iy) (hL:L.length≤1000) (hok : ∀y∈L,0≤y.2.1∧y.2.2.2.2.size≤1000000) (H:List Sn) (hl:H.length≤1000) (hr:iZ l.length 0 H=true) (a:Nat) (ha:a≤l.length) :
 aq Tryz.prog G0 106 [Cp t n (ca L) H,iv a] [] 0 (.d (.agg [.sd 3 false ((bQ l L (aQ l H a) a H).map nq),iD a,iD (aQ l H a)])) []:=by
 have r1:=IV R n (ca L) H (by omega) hr a ha;have r2:=G4 t n (ca L) H a (aQ l H a);refine vF ab [0,1,2,4,5,6,7,17,18,19,20] Tryz.func106 rfl Tryz.results106 Tryz.ntmps106 ?_;(repeat' (first|(with_reducible first|exact True.intro|refine vD ?_|refine vG ?_|refine vE ?_)|with_reducible refine vC (r1) ?_|with_reducible refine vQ (r1) ?_|with_reducible refine vK (r2) ?_|refine vR ?_|refine v6 ?_|with_reducible refine vN ?_|((with_reducible first|refine vB (fun h =>?_) (fun h =>?_)|refine vM (fun h =>?_) (fun h =>?_))<;>(first|(exfalso;omega)|skip))))
 refine QB ab [0,1,2,3,6,8,9,10,11,23,36] Tryz.func216 rfl ?_;(refine' zg)
 have he:=dc l H ha;generalize hy:Yd.mk _ _ _ _=y;refine vL (lv:=[0,1,2,3,6,8,9,10,11,23,36]) ab (PI t n (ca L) H a (aQ l H a) y) (QM l L (aQ l H a) H (bQ l L (aQ l H a) a H)) (fun z=>H.length - z.1) (0,a,[]) (aN.nilC 28 0 3<|aN.to [0,1,2,3,8,9,10] [0,4,28,52,53,54,56,73] [73] (by exact vT) rfl) ?_ ?_
 ·exact ⟨Nat.zero_le _,he.1,Nat.zero_le _,rfl⟩
 rintro ⟨i,c,out⟩ ⟨h1,h2,hol,h3⟩;simp only at h1 h2 hol h3;rcases Nat.lt_or_ge i H.length with hi|hi
 ·obtain ⟨x,hx⟩ : ∃x,H[i]? = some x:=⟨_,List.getElem?_eq_getElem hi⟩
  have hxr:=ct hr x (List.mem_of_getElem? hx);rw [cm hx,bQ] at h3;obtain ⟨x1,x2⟩:=x;simp only at hxr h3;obtain ⟨j,rfl⟩ : ∃j:Nat,x1=j:=⟨x1.toNat,by omega⟩
  obtain ⟨k,rfl⟩ : ∃k:Nat,x2=k:=⟨x2.toNat,by omega⟩
  simp only [Int.toNat_natCast] at h3;by_cases hc:(j:Int)<c∨(aQ l H a:Int)<k
  ·rw [if_pos hc] at h3;(refine' zg)
   refine dV.is i _ (by omega) hx ?_;(refine' zg)
   refine bH.to (i+1,c,out) [0,1,2,3,8,9,10] [0,4,28,52,53,54,56,57] [57] (by exact vT) ?_ ?_
   ·show H.length - (i+1)<H.length - i;omega
   ·exact ⟨hi,h2,by show out.length≤3000*(i+1);omega,h3⟩
  ·rw [if_neg hc] at h3;have rw1:=mm n c j L (by omega);have r3:=wx R n (ca L) H c j (by omega) (by omega) (dX L c j) (Nat.le_trans (List.length_filter_le _ _) (by omega)) rw1 (fun y hy=>by
    obtain ⟨g1,g2⟩:=List.mem_filter.1 hy;have:=hok y g1;simp only [Bool.not_eq_true',Bool.or_eq_false_iff,decide_eq_false_iff_not] at g2;omega)
   have hsl:=lT l j (dX L c j) c;have hfl:(dX L c j).length≤L.length:=List.length_filter_le _ _;generalize cy l j c (dX L c j)=sh at r3 h3 hsl;have happ:(out++sh).length=out.length+sh.length:=List.length_append;(refine' zg)
   refine dV.is i _ (by omega) hx ?_;(refine' zg)
   refine vY ab [0,1,2,4,5,6,7,17,18,19,20] (bv true) [(0,xi t n (ca L) H),(4,.cell [.d ap,iv 0,iv 0]),(28,.cell [.so 138 3 0 (out++sh).length,iv a,iv (aQ l H a)]),(52,xi t n (ca L) H),(53,.cell [iv c]),(54,.cell [iv (aQ l H a)]),(56,.rc y none (K4 t n (ca L) H a)),(138,GU (out++sh)),(70,.cell [iv j,iv k])] ?_ ?_ (hps:=by subst hy;kernel_rfl) (hl:=by subst hy;rfl) (hn1:=by subst hy;kernel_rfl) (hn2:=by subst hy;kernel_rfl) (ho1:=by subst hy;kernel_rfl) (ho2:=by subst hy;kernel_rfl)
   ·subst hy;(refine' l9 r3)
    refine ⟨rfl,vG ⟨[174],by decide,?_⟩⟩;exact ar.cons rfl (ar.cons rfl (ar.cons rfl (ar.cons rfl (ar.cons rfl (ar.cons rfl (ar.cons rfl (ar.cons rfl (ar.cons rfl ar.nil))))))))
   ·(refine' zg)
    refine vY ab [0,1,2,4,5,6,7,17,18,19,20] (bv true) [(0,xi t n (ca L) H),(4,.cell [.d ap,iv 0,iv 0]),(28,.cell [.so 158 3 0 (out++sh++[Pz.fo j]).length,iv a,iv (aQ l H a)]),(52,xi t n (ca L) H),(53,.cell [iv c]),(54,.cell [iv (aQ l H a)]),(56,.rc y none (K4 t n (ca L) H a)),(158,GU (out++sh++[Pz.fo j])),(70,.cell [iv j,iv k])] ?_ ?_ (hps:=by subst hy;kernel_rfl) (hl:=by subst hy;rfl) (hn1:=by subst hy;kernel_rfl) (hn2:=by subst hy;kernel_rfl) (ho1:=by subst hy;kernel_rfl) (ho2:=by subst hy;kernel_rfl)
    ·subst hy;(refine' zg)
     rw [show (out++sh).map nq++[D.agg [iD 3,iD j,ap]]=(out++sh++[Pz.fo j]).map nq from tN _ (Pz.fo j),List.length_map];refine ⟨rfl,vG ⟨[198],by decide,?_⟩⟩;exact ar.cons rfl (ar.cons rfl (ar.cons rfl (ar.cons rfl (ar.cons rfl (ar.cons rfl (ar.cons rfl (ar.cons rfl (ar.cons rfl ar.nil))))))))
    ·(refine' zg)
     refine bH.to (i+1,k,out++sh++[Pz.fo j]) [0,1,2,3,8,9,10] [0,4,28,52,53,54,56,158] [158] (by exact vT) ?_ ?_
     ·show H.length - (i+1)<H.length - i;omega
     ·exact ⟨hi,by show k≤aQ l H a;omega,by show (out++sh++[Pz.fo j]).length≤3000*(i+1);simp only [List.length_append,List.length_cons,List.length_nil];omega,by show out++sh++[Pz.fo j]++_=_;rw [←h3];simp only [List.append_assoc,List.cons_append,List.nil_append]⟩
 ·rw [List.drop_of_length_le hi,bQ] at h3;have rw1:=mm n c (aQ l H a) L (by omega);have r3:=wx R n (ca L) H c (aQ l H a) (by omega) (by omega) (dX L c (aQ l H a)) (Nat.le_trans (List.length_filter_le _ _) (by omega)) rw1 (fun y hy=>by
   obtain ⟨g1,g2⟩:=List.mem_filter.1 hy;have:=hok y g1;simp only [Bool.not_eq_true',Bool.or_eq_false_iff,decide_eq_false_iff_not] at g2;omega)
  have hsl:=lT l (aQ l H a) (dX L c (aQ l H a)) c;have hfl:(dX L c (aQ l H a)).length≤L.length:=List.length_filter_le _ _;generalize cy l (aQ l H a) c (dX L c (aQ l H a))=sh at r3 h3 hsl;have happ:(out++sh).length=out.length+sh.length:=List.length_append;(refine' zg)
  refine vY ab [0,1,2,4,5,6,7,17,18,19,20] (bv true) [(0,xi t n (ca L) H),(4,.cell [.d ap,iv 0,iv 0]),(28,.cell [.so 78 3 0 (out++sh).length,iv a,iv (aQ l H a)]),(52,xi t n (ca L) H),(53,.cell [iv c]),(54,.cell [iv (aQ l H a)]),(56,.rc y none (K4 t n (ca L) H a)),(78,GU (out++sh))] ?_ ?_ (hps:=by subst hy;kernel_rfl) (hl:=by subst hy;rfl) (hn1:=by subst hy;kernel_rfl) (hn2:=by subst hy;kernel_rfl) (ho1:=by subst hy;kernel_rfl) (ho2:=by subst hy;kernel_rfl)
  ·subst hy;(refine' l9 r3)
   refine ⟨rfl,vG ⟨[114],by decide,?_⟩⟩;exact ar.cons rfl (ar.cons rfl (ar.cons rfl (ar.cons rfl (ar.cons rfl (ar.cons rfl (ar.cons rfl (ar.cons rfl ar.nil)))))))
  ·(refine' zg)
   refine vG ⟨y,none,_,rfl,?_⟩;(refine' zg)
   rw [h3];refine ah.frz 78 (ah.out ?_);(refine' zg)
end
def Jn (l:List Int) (L:List Iy) (H:List Sn) (x:Nat × Nat):D:= .agg [.sd 3 false ((bQ l L x.2 x.1 H).map nq),iD x.1,iD x.2]
attribute [push_cast] Jn.eq_def
section
variable {l:List Int} {ps:List (List Int)} {t:Option T}
theorem JX (R:Rp l ps t) (n:Int) (L:List Iy) (hL:L.length≤1000) (hok : ∀y∈L,0≤y.2.1∧y.2.2.2.2.size≤1000000) (H:List Sn) (hl:H.length≤1000) (h:mZ l.length n H=true) (a:Nat) (ha:a≤l.length) (hb:aq Tryz.prog G0 105 [Cp t n (ca L) H,iv a] [] 0 (bv true) []) :
 aq Tryz.prog G0 52 [Cp t n (ca L) H,iv a] [] 0 (.tup [.d (Jn l L H (a,aQ l H a)),iv 0]) []:=by
 have r1:=BW R n (ca L) H (by omega);rw [if_pos h] at r1;have hr:=(kx h).1;have r2:=Gy R n L hL hok H hl hr a ha;refine vF ab [0,1,2,4,5,6,9,14] Tryz.func52 rfl Tryz.results52 Tryz.ntmps52 ?_;(refine' M5 r1 hb r2)
end
end Go.Proofs.YtkkanlcjjpoklaaGreatDoor
