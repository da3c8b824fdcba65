/- What the theorem leans on, part 18. -/
import Derived.Test.YtkkanlcjjpoklaaGreatDoorStUPAQ
set_option linter.unusedSimpArgs false
set_option linter.unusedVariables false
set_option maxRecDepth 8000
namespace Go.Proofs.YtkkanlcjjpoklaaGreatDoor
def gF (l:List Int) (a b:Nat):List Int:=(l.take b).drop a
theorem wh {l:List Int} (h:HI l):aa (cL l) 0=l:=by
 have:=pc l [] h;simpa [fT] using this
section
variable {l:List Int} {ps:List (List Int)} {t:Option T}
theorem LJ (R:Rp l ps t) (a b:Nat):HI (gF l a b):=fun x hx=>R.val x (List.mem_of_mem_take (List.mem_of_mem_drop hx))
set_option maxHeartbeats 1600000 in
theorem Au (R:Rp l ps t) (n:Int) (x:D) (H:List Sn) (a to:Nat) (b:Int) (hab:a<to) (hto:to≤l.length) (out:List Pz) (ho:out.length≤1000000) :
 an Tryz.prog G0 217 [iv to,.po 1 0,.po 0 0,.po 2 0] [(0,BL t n x H),(1,.cell [iv a,iv b]),(2,.cell [.so 3 3 0 out.length]),(3,xK out)] 4 (.tup [])
  [(0,BL t n x H),(1,.cell [iv to,iv b]),(2,.cell [.so 4 3 0 (out.length+1)]),(4,xK (out++[.tx 1 a (gF l a to)]))]:=by
 have r1:=GW R a to (by omega) hto;have hlen:=R.len;have h4:=cu (gF l a to);have h5:(gF l a to).length≤20000:=by simp [gF];omega
 have r2:=j9 (cL (gF l a to)) (by rw [bK];omega);rw [wh (LJ R a to)] at r2;rw [gF] at *
 refine vF ab [0,1,2,3,5,10] Tryz.func217 rfl Tryz.results217 Tryz.ntmps217 ?_;(refine' BC r1 r2)
 have e:out.map fF++[D.agg [iD 1,iD a,.sd 1 false ((List.drop a (List.take to l)).map dy)]]=(out++[Pz.tx 1 a (List.drop a (List.take to l))]).map fF:=by rw [List.map_append];rfl
 rw [e,List.length_map,List.length_append];refine ae.now [92] (by decide) ?_;(refine' zg)
 exact ap.cons rfl (ap.cons rfl (ap.cons rfl (ap.cons rfl ap.nil)))
theorem Av (t:Option T) (n:Int) (x:D) (H:List Sn) (a to b:Int) (hab:to≤a) (out:List Pz) :
 an Tryz.prog G0 217 [iv to,.po 1 0,.po 0 0,.po 2 0] [(0,BL t n x H),(1,.cell [iv a,iv b]),(2,.cell [.so 3 3 0 out.length]),(3,xK out)] 4 (.tup [])
  [(0,BL t n x H),(1,.cell [iv a,iv b]),(2,.cell [.so 3 3 0 out.length]),(3,xK out)]:=by
 refine vF ab [0,1,2,3,5,10] Tryz.func217 rfl Tryz.results217 Tryz.ntmps217 ?_;(refine' zg)
 refine ae.now [] (by decide) ?_;(refine' zg)
 exact aj _
def dt (l:List Int) (b:Nat):Nat→List Iy→List Pz
 | a,[]=>if a<b then [.tx 1 a (gF l a b)] else []
 | a,x::r=>(if a<x.2.1.toNat then [.tx 1 a (gF l a x.2.1.toNat)] else [])++(.tx 2 x.2.1 (aa x.2.2.2.2 0)::dt l b (max a x.2.1.toNat) r)
def Yl (t:Option T) (n:Int) (x:D) (H:List Sn) (M:List Iy) (b:Int) (y:Nat × Nat × List Pz):St:=
 ⟨[(2,.po 0 0),(3,.po 1 0),(5,.po 2 0),(6,.fn 217 [.po 1 0,.po 0 0,.po 2 0]),(16,.d (.sd 5 false (M.map cS))),(17,iv M.length),(18,iv y.1)],[(0,BL t n x H),(1,.cell [iv y.2.1,iv b]),(2,.cell [.so 3 3 0 y.2.2.length]),(3,xK y.2.2)],4⟩
attribute [push_cast] Yl.eq_def
structure ZS (l:List Int) (b:Nat) (M:List Iy) (fin:List Pz) (y:Nat × Nat × List Pz):Prop where
 le:y.1≤M.length
 at':y.2.1≤b
 len:y.2.2.length≤2*y.1
 fin:y.2.2++dt l b y.2.1 (M.drop y.1)=fin
set_option maxHeartbeats 3200000 in
theorem A3 (R:Rp l ps t) (n:Int) (x:D) (H:List Sn) (a b:Nat) (hab:a≤b) (hb:b≤l.length) (M:List Iy) (hM:M.length≤100000) (hw:an Tryz.prog G0 219 [.d (cg n x),iv a,iv b] [] 0 (.d (.sd 5 false (M.map cS))) [])
 (hin : ∀y∈M,(a:Int)≤y.2.1∧y.2.1≤b∧y.2.2.2.2.size≤1000000) :
 an Tryz.prog G0 162 [wF t n x H,.d (bA (a,b))] [] 0 (.d (.sd 3 false ((dt l b a M).map fF))) []:=by
 have hlen:=R.len;refine vF ab [0,1,2,3,4,5,6,8,16,17,18,19] Tryz.func162 rfl Tryz.results162 Tryz.ntmps162 ?_;(refine' fj hw)
 refine vL (lv:=[0,1,2,3,4,5,6,8,16,17,18,19]) ab (Yl t n x H M b) (ZS l b M (dt l b a M)) (fun y=>M.length - y.1) ((0,a,[])) (aC.nilC 12 0 3<|(aC.go [2,3,5,6,16,17,18] (by exact vT) rfl)) ?_ ?_
 ·exact ⟨Nat.zero_le _,hab,Nat.zero_le _,rfl⟩
 rintro ⟨i,c,out⟩ ⟨h1,h2,h3,h4⟩;simp only at h1 h2 h3 h4;rcases Nat.lt_or_ge i M.length with hi|hi
 ·obtain ⟨y,hy⟩ : ∃y,M[i]? = some y:=⟨_,List.getElem?_eq_getElem hi⟩
  have hyb:=hin y (List.mem_of_getElem? hy);obtain ⟨yi,at_,yb,yk,tx⟩:=y;simp only at hyb;obtain ⟨to,rfl⟩ : ∃to:Nat,at_=to:=⟨at_.toNat,by omega⟩
  have r2:=j9 tx (by omega);rw [cV hy,dt] at h4;simp only [Int.toNat_natCast] at h4;by_cases hc:c<to
  ·rw [if_pos hc,show max c to=to by omega] at h4;have r1:=Au R n x H c to b hc (by omega) out (by omega);(refine' zg)
   refine aI.is i _ (by omega) hy ?_;(refine' zg)
   refine au.ofN [0,1,2,3] r1 ?_;(refine' fj r2)
   rw [show (out++[Pz.tx 1 c (gF l c to)]).map fF++[D.agg [iD 2,iD to,.sd 1 false ((aa tx 0).map dy)]]=(out++[Pz.tx 1 c (gF l c to)]++[Pz.tx 2 to (aa tx 0)]).map fF from i5 _ (Pz.tx 2 to (aa tx 0)),List.length_map];refine aG.go ((i+1,to,out++[Pz.tx 1 c (gF l c to)]++[Pz.tx 2 to (aa tx 0)])) [2,3,5,6,16,17,18] (by exact vT) ?_ ?_
   ·show M.length - (i+1)<M.length - i;omega
   ·exact ⟨hi,by show to≤b;omega,by simp only [List.length_append,List.length_cons,List.length_nil];omega,by rw [←h4];simp only [List.append_assoc,List.cons_append,List.nil_append]⟩
  ·rw [if_neg hc,show max c to=c by omega,List.nil_append] at h4;have r1:=Av t n x H c to b (by omega) out;(refine' zg)
   refine aI.is i _ (by omega) hy ?_;(refine' zg)
   refine au.ofN [0,1,2,3] r1 ?_;(refine' fj r2)
   rw [show out.map fF++[D.agg [iD 2,iD to,.sd 1 false ((aa tx 0).map dy)]]=(out++[Pz.tx 2 to (aa tx 0)]).map fF from i5 _ (Pz.tx 2 to (aa tx 0)),List.length_map];refine aG.go ((i+1,c,out++[Pz.tx 2 to (aa tx 0)])) [2,3,5,6,16,17,18] (by exact vT) ?_ ?_
   ·show M.length - (i+1)<M.length - i;omega
   ·exact ⟨hi,h2,by simp only [List.length_append,List.length_cons,List.length_nil];omega,by rw [←h4];simp only [List.append_assoc,List.cons_append,List.nil_append]⟩
 ·rw [List.drop_of_length_le hi,dt] at h4;by_cases hc:c<b
  ·rw [if_pos hc] at h4;have r1:=Au R n x H c b b hc (by omega) out (by omega);(refine' zg)
   refine au.ofN [0,1,2,3] r1 ?_;(refine' zg)
   rw [show out.length+1=(out++[Pz.tx 1 c (gF l c b)]).length by simp,h4];refine ae.frz 20 (ae.out ?_);(refine' zg)
  ·rw [if_neg hc,List.append_nil] at h4;have r1:=Av t n x H c b b (by omega) out;(refine' zg)
   refine au.ofN [0,1,2,3] r1 ?_;(refine' zg)
   rw [h4];refine ae.frz 3 (ae.out ?_);(refine' zg)
end
theorem M1 (t:Option T) (n:Int) (x:D) (H:List Sn) (a b:Int):an Tryz.prog G0 161 [wF t n x H,iv a,iv b] [] 0 (.fn 216 [.po 0 0,.po 1 0,.po 2 0]) [(0,BL t n x H),(1,.cell [iv a]),(2,.cell [iv b])]:=by
 refine vF ab [0,1,2,3,4,5,6] Tryz.func161 rfl Tryz.results161 Tryz.ntmps161 ?_;(refine' zg)
 refine ae.now [0,4,8] (by decide) ?_;(refine' zg)
 exact ap.cons rfl (ap.cons rfl (ap.cons rfl ap.nil))
abbrev co (L:List Iy) (a b:Int):List Iy:=L.filter fun x=> !(decide (x.2.1<a)||decide (b<x.2.1))
theorem oR (n a b:Int) (L:List Iy) (hl:L.length≤100000):an Tryz.prog G0 219 [.d (cg n (bO L)),iv a,iv b] [] 0 (.d (.sd 5 false ((co L a b).map cS))) []:=by
 cases L with
 | nil=>exact (zD n a b).nil 5 false
 | cons y r=>exact Cp n a b (y::r) (by simp) hl
def b4 (l:List Int) (L:List Iy) (e:Nat):Nat→List Sn→List Pz
 | a,[]=>dt l e a (co L a e)
 | a,x::r=>if x.1<a∨(e:Int)<x.2 then b4 l L e a r else dt l x.1.toNat a (co L a x.1)++(.fo x.1::b4 l L e x.2.toNat r)
def RI (t:Option T) (n:Int) (x:D) (H:List Sn) (a:Int):aN:=[(17,.fn 216 [.po 52 0,.po 53 0,.po 54 0]),(5,.po 28 0),(4,.po 4 0),(2,.po 0 0),(0,wF t n x H),(1,iv a)]
def XZ (t:Option T) (n:Int) (x:D) (H:List Sn) (a e:Int) (y:Yd) (z:Nat × Nat × List Pz):St:=
 ⟨[(0,.yl 56),(1,.po 52 0),(2,.po 53 0),(3,.po 54 0),(8,xX H),(9,iv H.length),(10,iv z.1)],
  [(0,BL t n x H),(4,.cell [.d aB,iv 0,iv 0]),(28,.cell [.so 57 3 0 z.2.2.length,iv a,iv e]),(52,BL t n x H),(53,.cell [iv z.2.1]),(54,.cell [iv e]),(56,.rc y none (RI t n x H a)),(57,xK z.2.2)],58⟩
attribute [push_cast] XZ.eq_def RI.eq_def jn.eq_def jB ak.del lN.eq_def
theorem om (l:List Int) (b:Nat) : ∀(M:List Iy) (a:Nat),(dt l b a M).length≤2*M.length+1
 | [],a=>by rw [dt];split<;>simp
 | x::r,a=>by
  have:=om l b r (max a x.2.1.toNat);rw [dt,List.length_append,List.length_cons,List.length_cons];split<;>simp<;>omega
structure ZP (l:List Int) (L:List Iy) (e:Nat) (H:List Sn) (fin:List Pz) (z:Nat × Nat × List Pz):Prop where
 le:z.1≤H.length
 at':z.2.1≤e
 len:z.2.2.length≤3000*z.1
 fin:z.2.2++b4 l L e z.2.1 (H.drop z.1)=fin
section
variable {l:List Int} {ps:List (List Int)} {t:Option T}
set_option maxHeartbeats 3200000 in
theorem Mr (R:Rp l ps t) (n:Int) (L:List Iy) (hL:L.length≤1000) (hok : ∀y∈L,0≤y.2.1∧y.2.2.2.2.size≤1000000) (H:List Sn) (hl:H.length≤1000) (hr:jp l.length 0 H=true) (a:Nat) (ha:a≤l.length) :
 an Tryz.prog G0 106 [wF t n (bO L) H,iv a] [] 0 (.d (.agg [.sd 3 false ((b4 l L (aF l H a) a H).map fF),iD a,iD (aF l H a)])) []:=by
 have r1:=O2 R n (bO L) H (by omega) hr a ha;have r2:=M1 t n (bO L) H a (aF l H a);refine vF ab [0,1,2,4,5,6,7,17,18,19,20] Tryz.func106 rfl Tryz.results106 Tryz.ntmps106 ?_;(repeat' (first|with_reducible refine vC (r1) ?_|with_reducible refine vQ (r1) ?_|with_reducible refine vK (r2) ?_|(refine' zq)|fail))
 refine ZA ab [0,1,2,3,6,8,9,10,11,23,36] Tryz.func216 rfl ?_;(refine' zg)
 have he:=bU l H ha;generalize hy:Yd.mk _ _ _ _=y;refine vL (lv:=[0,1,2,3,6,8,9,10,11,23,36]) ab (XZ t n (bO L) H a (aF l H a) y) (ZP l L (aF l H a) H (b4 l L (aF l H a) a H)) (fun z=>H.length - z.1) (0,a,[]) (aC.nilC 28 0 3<|aC.to [0,1,2,3,8,9,10] [0,4,28,52,53,54,56,73] [73] (by exact vT) rfl) ?_ ?_
 ·exact ⟨Nat.zero_le _,he.1,Nat.zero_le _,rfl⟩
 rintro ⟨i,c,out⟩ ⟨h1,h2,hol,h3⟩;simp only at h1 h2 hol h3;rcases Nat.lt_or_ge i H.length with hi|hi
 ·obtain ⟨x,hx⟩ : ∃x,H[i]? = some x:=⟨_,List.getElem?_eq_getElem hi⟩
  have hxr:=cW hr x (List.mem_of_getElem? hx);rw [cV hx,b4] at h3;obtain ⟨x1,x2⟩:=x;simp only at hxr h3;obtain ⟨j,rfl⟩ : ∃j:Nat,x1=j:=⟨x1.toNat,by omega⟩
  obtain ⟨k,rfl⟩ : ∃k:Nat,x2=k:=⟨x2.toNat,by omega⟩
  simp only [Int.toNat_natCast] at h3;by_cases hc:(j:Int)<c∨(aF l H a:Int)<k
  ·rw [if_pos hc] at h3;(refine' zg)
   refine aI.is i _ (by omega) hx ?_;(refine' zg)
   refine aG.to (i+1,c,out) [0,1,2,3,8,9,10] [0,4,28,52,53,54,56,57] [57] (by exact vT) ?_ ?_
   ·show H.length - (i+1)<H.length - i;omega
   ·exact ⟨hi,h2,by show out.length≤3000*(i+1);omega,h3⟩
  ·rw [if_neg hc] at h3;have rw1:=oR n c j L (by omega);have r3:=A3 R n (bO L) H c j (by omega) (by omega) (co L c j) (Nat.le_trans (List.length_filter_le _ _) (by omega)) rw1 (fun y hy=>by
    obtain ⟨g1,g2⟩:=List.mem_filter.1 hy;have:=hok y g1;simp only [Bool.not_eq_true',Bool.or_eq_false_iff,decide_eq_false_iff_not] at g2;omega)
   have hsl:=om l j (co L c j) c;have hfl:(co L c j).length≤L.length:=List.length_filter_le _ _;generalize dt l j c (co L c j)=sh at r3 h3 hsl;have happ:(out++sh).length=out.length+sh.length:=List.length_append;(refine' zg)
   refine aI.is i _ (by omega) hx ?_;(refine' zg)
   refine vY ab [0,1,2,4,5,6,7,17,18,19,20] (bv true) [(0,BL t n (bO L) H),(4,.cell [.d aB,iv 0,iv 0]),(28,.cell [.so 138 3 0 (out++sh).length,iv a,iv (aF l H a)]),(52,BL t n (bO L) H),(53,.cell [iv c]),(54,.cell [iv (aF l H a)]),(56,.rc y none (RI t n (bO L) H a)),(138,xK (out++sh)),(70,.cell [iv j,iv k])] ?_ ?_ (hps:=by subst hy;kernel_rfl) (hl:=by subst hy;rfl) (hn1:=by subst hy;kernel_rfl) (hn2:=by subst hy;kernel_rfl) (ho1:=by subst hy;kernel_rfl) (ho2:=by subst hy;kernel_rfl)
   ·subst hy;(refine' fj r3)
    refine ⟨rfl,vG ⟨[174],by decide,?_⟩⟩;exact ap.cons rfl (ap.cons rfl (ap.cons rfl (ap.cons rfl (ap.cons rfl (ap.cons rfl (ap.cons rfl (ap.cons rfl (ap.cons rfl ap.nil))))))))
   ·(refine' zg)
    refine vY ab [0,1,2,4,5,6,7,17,18,19,20] (bv true) [(0,BL t n (bO L) H),(4,.cell [.d aB,iv 0,iv 0]),(28,.cell [.so 158 3 0 (out++sh++[Pz.fo j]).length,iv a,iv (aF l H a)]),(52,BL t n (bO L) H),(53,.cell [iv c]),(54,.cell [iv (aF l H a)]),(56,.rc y none (RI t n (bO L) H a)),(158,xK (out++sh++[Pz.fo j])),(70,.cell [iv j,iv k])] ?_ ?_ (hps:=by subst hy;kernel_rfl) (hl:=by subst hy;rfl) (hn1:=by subst hy;kernel_rfl) (hn2:=by subst hy;kernel_rfl) (ho1:=by subst hy;kernel_rfl) (ho2:=by subst hy;kernel_rfl)
    ·subst hy;(refine' zg)
     rw [show (out++sh).map fF++[D.agg [iD 3,iD j,aB]]=(out++sh++[Pz.fo j]).map fF from i5 _ (Pz.fo j),List.length_map];refine ⟨rfl,vG ⟨[198],by decide,?_⟩⟩;exact ap.cons rfl (ap.cons rfl (ap.cons rfl (ap.cons rfl (ap.cons rfl (ap.cons rfl (ap.cons rfl (ap.cons rfl (ap.cons rfl ap.nil))))))))
    ·(refine' zg)
     refine aG.to (i+1,k,out++sh++[Pz.fo j]) [0,1,2,3,8,9,10] [0,4,28,52,53,54,56,158] [158] (by exact vT) ?_ ?_
     ·show H.length - (i+1)<H.length - i;omega
     ·exact ⟨hi,by show k≤aF l H a;omega,by show (out++sh++[Pz.fo j]).length≤3000*(i+1);simp only [List.length_append,List.length_cons,List.length_nil];omega,by show out++sh++[Pz.fo j]++_=_;rw [←h3];simp only [List.append_assoc,List.cons_append,List.nil_append]⟩
 ·rw [List.drop_of_length_le hi,b4] at h3;have rw1:=oR n c (aF l H a) L (by omega);have r3:=A3 R n (bO L) H c (aF l H a) (by omega) (by omega) (co L c (aF l H a)) (Nat.le_trans (List.length_filter_le _ _) (by omega)) rw1 (fun y hy=>by
   obtain ⟨g1,g2⟩:=List.mem_filter.1 hy;have:=hok y g1;simp only [Bool.not_eq_true',Bool.or_eq_false_iff,decide_eq_false_iff_not] at g2;omega)
  have hsl:=om l (aF l H a) (co L c (aF l H a)) c;have hfl:(co L c (aF l H a)).length≤L.length:=List.length_filter_le _ _;generalize dt l (aF l H a) c (co L c (aF l H a))=sh at r3 h3 hsl;have happ:(out++sh).length=out.length+sh.length:=List.length_append;(refine' zg)
  refine vY ab [0,1,2,4,5,6,7,17,18,19,20] (bv true) [(0,BL t n (bO L) H),(4,.cell [.d aB,iv 0,iv 0]),(28,.cell [.so 78 3 0 (out++sh).length,iv a,iv (aF l H a)]),(52,BL t n (bO L) H),(53,.cell [iv c]),(54,.cell [iv (aF l H a)]),(56,.rc y none (RI t n (bO L) H a)),(78,xK (out++sh))] ?_ ?_ (hps:=by subst hy;kernel_rfl) (hl:=by subst hy;rfl) (hn1:=by subst hy;kernel_rfl) (hn2:=by subst hy;kernel_rfl) (ho1:=by subst hy;kernel_rfl) (ho2:=by subst hy;kernel_rfl)
  ·subst hy;(refine' fj r3)
   refine ⟨rfl,vG ⟨[114],by decide,?_⟩⟩;exact ap.cons rfl (ap.cons rfl (ap.cons rfl (ap.cons rfl (ap.cons rfl (ap.cons rfl (ap.cons rfl (ap.cons rfl ap.nil)))))))
  ·(refine' zg)
   refine vG ⟨y,none,_,rfl,?_⟩;(refine' zg)
   rw [h3];refine ae.frz 78 (ae.out ?_);(refine' zg)
end
def nS (l:List Int) (L:List Iy) (H:List Sn) (x:Nat × Nat):D:= .agg [.sd 3 false ((b4 l L x.2 x.1 H).map fF),iD x.1,iD x.2]
attribute [push_cast] nS.eq_def
theorem KE {α:Type} (f:α→D) (es:List α) (x:α):es.map f++[f x]=(es++[x]).map f:=by rw [List.map_append];rfl
section
variable {l:List Int} {ps:List (List Int)} {t:Option T}
theorem AV (R:Rp l ps t) (n:Int) (x:D) (H:List Sn) (hl:H.length≤1000) (h:nY l.length n H=true) (a:Int) (hb:an Tryz.prog G0 105 [wF t n x H,iv a] [] 0 (bv false) []):an Tryz.prog G0 52 [wF t n x H,iv a] [] 0 (.tup [.d (.agg [aB,iD 0,iD 0]),iv 1]) []:=by
 have r1:=oe R n x H (by omega);rw [if_pos h] at r1;refine vF ab [0,1,2,4,5,6,9,14] Tryz.func52 rfl Tryz.results52 Tryz.ntmps52 ?_;(refine' tJ r1 hb)
theorem Qj (R:Rp l ps t) (n:Int) (L:List Iy) (hL:L.length≤1000) (hok : ∀y∈L,0≤y.2.1∧y.2.2.2.2.size≤1000000) (H:List Sn) (hl:H.length≤1000) (h:nY l.length n H=true) (a:Nat) (ha:a≤l.length) (hb:an Tryz.prog G0 105 [wF t n (bO L) H,iv a] [] 0 (bv true) []) :
 an Tryz.prog G0 52 [wF t n (bO L) H,iv a] [] 0 (.tup [.d (nS l L H (a,aF l H a)),iv 0]) []:=by
 have r1:=oe R n (bO L) H (by omega);rw [if_pos h] at r1;have hr:=(gy h).1;have r2:=Mr R n L hL hok H hl hr a ha;refine vF ab [0,1,2,4,5,6,9,14] Tryz.func52 rfl Tryz.results52 Tryz.ntmps52 ?_;(refine' QT r1 hb r2)
end
end Go.Proofs.YtkkanlcjjpoklaaGreatDoor
