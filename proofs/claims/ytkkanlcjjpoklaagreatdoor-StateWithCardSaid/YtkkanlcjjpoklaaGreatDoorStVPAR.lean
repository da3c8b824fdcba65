/- What the theorem leans on, part 18. -/
import Derived.Test.YtkkanlcjjpoklaaGreatDoorStVPAQ
set_option linter.unusedSimpArgs false
set_option linter.unusedVariables false
set_option maxRecDepth 8000
namespace Go.Proofs.YtkkanlcjjpoklaaGreatDoor
def iq (l:List Int) (a b:Nat):List Int:=(l.take b).drop a
theorem xB {l:List Int} (h:JJ l):aa (c9 l) 0=l:=by
 have:=qb l [] h;simpa [gA] using this
section
variable {l:List Int} {ps:List (List Int)} {t:Option T}
theorem NZ (R:Rp l ps t) (a b:Nat):JJ (iq l a b):=fun x hx=>R.val x (abm (abU hx))
set_option maxHeartbeats 1600000 in
theorem Cf (R:Rp l ps t) (n:Int) (x:D) (H:List Sn) (a to:Nat) (b:Int) (hab:a<to) (hto:to≤l.length) (out:List Pz) (ho:out.length≤1000000) :
 ap Tryz.prog G0 217 [iv to,.po 1 0,.po 0 0,.po 2 0] [(0,Dx t n x H),(1,.cell [iv a,iv b]),(2,.cell [.so 3 3 0 out.length]),(3,zp out)] 4 (.tup [])
  [(0,Dx t n x H),(1,.cell [iv to,iv b]),(2,.cell [.so 4 3 0 (out.length+1)]),(4,zp (out++[.tx 1 a (iq l a to)]))]:=by
 have r1:=IW R a to (by omega) hto;have hlen:=R.len;have h4:=cJ (iq l a to);have h5:(iq l a to).length≤20000:=by simp [iq];omega
 have r2:=kS (c9 (iq l a to)) (by rw [bT];omega);rw [xB (NZ R a to)] at r2;rw [iq] at *
 refine vF ab [0,1,2,3,5,10] Tryz.func217 rfl Tryz.results217 Tryz.ntmps217 ?_;(refine' Ax r1 r2)
 have e:out.map iA++[D.agg [iD 1,iD a,.sd 1 false ((List.drop a (List.take to l)).map dm)]]=(out++[Pz.tx 1 a (List.drop a (List.take to l))]).map iA:=by rw [abc];rfl
 rw [e,aa4,Or];refine ae.now [92] (by decide) ?_;(refine' zg)
 exact ar.cons rfl (ar.cons rfl (ar.cons rfl (ar.cons rfl ar.nil)))
theorem Cg (t:Option T) (n:Int) (x:D) (H:List Sn) (a to b:Int) (hab:to≤a) (out:List Pz) :
 ap Tryz.prog G0 217 [iv to,.po 1 0,.po 0 0,.po 2 0] [(0,Dx t n x H),(1,.cell [iv a,iv b]),(2,.cell [.so 3 3 0 out.length]),(3,zp out)] 4 (.tup [])
  [(0,Dx t n x H),(1,.cell [iv a,iv b]),(2,.cell [.so 3 3 0 out.length]),(3,zp out)]:=by
 refine vF ab [0,1,2,3,5,10] Tryz.func217 rfl Tryz.results217 Tryz.ntmps217 ?_;(refine' zg)
 refine ae.now [] (by decide) ?_;(refine' zg)
 exact aj _
def dc (l:List Int) (b:Nat):Nat→List Iy→List Pz
 | a,[]=>if a<b then [.tx 1 a (iq l a b)] else []
 | a,x::r=>(if a<x.2.1.toNat then [.tx 1 a (iq l a x.2.1.toNat)] else [])++(.tx 2 x.2.1 (aa x.2.2.2.2 0)::dc l b (max a x.2.1.toNat) r)
def shS (t:Option T) (n:Int) (x:D) (H:List Sn) (M:List Iy) (b:Int) (y:Nat × Nat × List Pz):St:=
 ⟨[(2,.po 0 0),(3,.po 1 0),(5,.po 2 0),(6,.fn 217 [.po 1 0,.po 0 0,.po 2 0]),(16,.d (.sd 5 false (M.map cT))),(17,iv M.length),(18,iv y.1)],[(0,Dx t n x H),(1,.cell [iv y.2.1,iv b]),(2,.cell [.so 3 3 0 y.2.2.length]),(3,zp y.2.2)],4⟩
attribute [push_cast] shS.eq_def
structure ShP (l:List Int) (b:Nat) (M:List Iy) (fin:List Pz) (y:Nat × Nat × List Pz):Prop where
 le:y.1≤M.length
 at':y.2.1≤b
 len:y.2.2.length≤2*y.1
 fin:y.2.2++dc l b y.2.1 (M.drop y.1)=fin
set_option maxHeartbeats 3200000 in
theorem CH (R:Rp l ps t) (n:Int) (x:D) (H:List Sn) (a b:Nat) (hab:a≤b) (hb:b≤l.length) (M:List Iy) (hM:M.length≤100000) (hw:ap Tryz.prog G0 219 [.d (cW n x),iv a,iv b] [] 0 (.d (.sd 5 false (M.map cT))) [])
 (hin : ∀y∈M,(a:Int)≤y.2.1∧y.2.1≤b∧y.2.2.2.2.size≤1000000) :
 ap Tryz.prog G0 162 [GK t n x H,.d (bA (a,b))] [] 0 (.d (.sd 3 false ((dc l b a M).map iA))) []:=by
 have hlen:=R.len;refine vF ab [0,1,2,3,4,5,6,8,16,17,18,19] Tryz.func162 rfl Tryz.results162 Tryz.ntmps162 ?_;(refine' fq hw)
 refine vL (lv:=[0,1,2,3,4,5,6,8,16,17,18,19]) ab (shS t n x H M b) (ShP l b M (dc l b a M)) (fun y=>M.length - y.1) ((0,a,[])) (aC.nilC 12 0 3<|(aC.go [2,3,5,6,16,17,18] (by exact vT) rfl)) ?_ ?_
 ·exact ⟨aa1 _,hab,aa1 _,rfl⟩
 rintro ⟨i,c,out⟩ ⟨h1,h2,h3,h4⟩;simp only at h1 h2 h3 h4;rcases aa2 i M.length with hi|hi
 ·obtain ⟨y,hy⟩ : ∃y,M[i]? = some y:=⟨_,IO hi⟩
  have hyb:=hin y (aa0 hy);obtain ⟨yi,at_,yb,yk,tx⟩:=y;simp only at hyb;obtain ⟨to,rfl⟩ : ∃to:Nat,at_=to:=⟨at_.toNat,by omega⟩
  have r2:=kS tx (by omega);rw [dj hy,dc] at h4;simp only [ack] at h4;by_cases hc:c<to
  ·rw [aa3 hc,show max c to=to by omega] at h4;have r1:=Cf R n x H c to b hc (by omega) out (by omega);(refine' zg)
   refine aF.is i _ (by omega) hy ?_;(refine' zg)
   refine au.ofN [0,1,2,3] r1 ?_;(refine' fq r2)
   rw [show (out++[Pz.tx 1 c (iq l c to)]).map iA++[D.agg [iD 2,iD to,.sd 1 false ((aa tx 0).map dm)]]=(out++[Pz.tx 1 c (iq l c to)]++[Pz.tx 2 to (aa tx 0)]).map iA from jH _ (Pz.tx 2 to (aa tx 0)),aa4];refine aG.go ((i+1,to,out++[Pz.tx 1 c (iq l c to)]++[Pz.tx 2 to (aa tx 0)])) [2,3,5,6,16,17,18] (by exact vT) ?_ ?_
   ·show M.length - (i+1)<M.length - i;omega
   ·exact ⟨hi,by show to≤b;omega,by simp only [Or,aa6,abt];omega,by rw [←h4];simp only [aba,abG,abL]⟩
  ·rw [aaY hc,show max c to=c by omega,abL] at h4;have r1:=Cg t n x H c to b (by omega) out;(refine' zg)
   refine aF.is i _ (by omega) hy ?_;(refine' zg)
   refine au.ofN [0,1,2,3] r1 ?_;(refine' fq r2)
   rw [show out.map iA++[D.agg [iD 2,iD to,.sd 1 false ((aa tx 0).map dm)]]=(out++[Pz.tx 2 to (aa tx 0)]).map iA from jH _ (Pz.tx 2 to (aa tx 0)),aa4];refine aG.go ((i+1,c,out++[Pz.tx 2 to (aa tx 0)])) [2,3,5,6,16,17,18] (by exact vT) ?_ ?_
   ·show M.length - (i+1)<M.length - i;omega
   ·exact ⟨hi,h2,by simp only [Or,aa6,abt];omega,by rw [←h4];simp only [aba,abG,abL]⟩
 ·rw [abo hi,dc] at h4;by_cases hc:c<b
  ·rw [aa3 hc] at h4;have r1:=Cf R n x H c b b hc (by omega) out (by omega);(refine' zg)
   refine au.ofN [0,1,2,3] r1 ?_;(refine' zg)
   rw [show out.length+1=(out++[Pz.tx 1 c (iq l c b)]).length by simp,h4];refine ae.frz 20 (ae.out ?_);(refine' zg)
  ·rw [aaY hc,abb] at h4;have r1:=Cg t n x H c b b (by omega) out;(refine' zg)
   refine au.ofN [0,1,2,3] r1 ?_;(refine' zg)
   rw [h4];refine ae.frz 3 (ae.out ?_);(refine' zg)
end
theorem Pq (t:Option T) (n:Int) (x:D) (H:List Sn) (a b:Int):ap Tryz.prog G0 161 [GK t n x H,iv a,iv b] [] 0 (.fn 216 [.po 0 0,.po 1 0,.po 2 0]) [(0,Dx t n x H),(1,.cell [iv a]),(2,.cell [iv b])]:=by
 refine vF ab [0,1,2,3,4,5,6] Tryz.func161 rfl Tryz.results161 Tryz.ntmps161 ?_;(refine' zg)
 refine ae.now [0,4,8] (by decide) ?_;(refine' zg)
 exact ar.cons rfl (ar.cons rfl (ar.cons rfl ar.nil))
abbrev b9 (L:List Iy) (a b:Int):List Iy:=L.filter fun x=> !(decide (x.2.1<a)||decide (b<x.2.1))
theorem pP (n a b:Int) (L:List Iy) (hl:L.length≤100000):ap Tryz.prog G0 219 [.d (cW n (ct L)),iv a,iv b] [] 0 (.d (.sd 5 false ((b9 L a b).map cT))) []:=by
 cases L with
 | nil=>exact (Bw n a b).nil 5 false
 | cons y r=>exact Ee n a b (y::r) (by simp) hl
def ci (l:List Int) (L:List Iy) (e:Nat):Nat→List Sn→List Pz
 | a,[]=>dc l e a (b9 L a e)
 | a,x::r=>if x.1<a∨(e:Int)<x.2 then ci l L e a r else dc l x.1.toNat a (b9 L a x.1)++(.fo x.1::ci l L e x.2.toNat r)
def Ug (t:Option T) (n:Int) (x:D) (H:List Sn) (a:Int):aO:=[(17,.fn 216 [.po 52 0,.po 53 0,.po 54 0]),(5,.po 28 0),(4,.po 4 0),(2,.po 0 0),(0,GK t n x H),(1,iv a)]
def liS (t:Option T) (n:Int) (x:D) (H:List Sn) (a e:Int) (y:Yd) (z:Nat × Nat × List Pz):St:=
 ⟨[(0,.yl 56),(1,.po 52 0),(2,.po 53 0),(3,.po 54 0),(8,zF H),(9,iv H.length),(10,iv z.1)],
  [(0,Dx t n x H),(4,.cell [.d aB,iv 0,iv 0]),(28,.cell [.so 57 3 0 z.2.2.length,iv a,iv e]),(52,Dx t n x H),(53,.cell [iv z.2.1]),(54,.cell [iv e]),(56,.rc y none (Ug t n x H a)),(57,zp z.2.2)],58⟩
attribute [push_cast] liS.eq_def Ug.eq_def jV.eq_def ka ak.del mF.eq_def
theorem ph (l:List Int) (b:Nat) : ∀(M:List Iy) (a:Nat),(dc l b a M).length≤2*M.length+1
 | [],a=>by rw [dc];split<;>simp
 | x::r,a=>by
  have:=ph l b r (max a x.2.1.toNat);rw [dc,Or,aa6,aa6];split<;>simp<;>omega
structure LiP (l:List Int) (L:List Iy) (e:Nat) (H:List Sn) (fin:List Pz) (z:Nat × Nat × List Pz):Prop where
 le:z.1≤H.length
 at':z.2.1≤e
 len:z.2.2.length≤3000*z.1
 fin:z.2.2++ci l L e z.2.1 (H.drop z.1)=fin
section
variable {l:List Int} {ps:List (List Int)} {t:Option T}
set_option maxHeartbeats 3200000 in
theorem OP (R:Rp l ps t) (n:Int) (L:List Iy) (hL:L.length≤1000) (hok : ∀y∈L,0≤y.2.1∧y.2.2.2.2.size≤1000000) (H:List Sn) (hl:H.length≤1000) (hr:fS l.length 0 H=true) (a:Nat) (ha:a≤l.length) :
 ap Tryz.prog G0 106 [GK t n (ct L) H,iv a] [] 0 (.d (.agg [.sd 3 false ((ci l L (aE l H a) a H).map iA),iD a,iD (aE l H a)])) []:=by
 have r1:=Ry R n (ct L) H (by omega) hr a ha;have r2:=Pq t n (ct L) H a (aE l H a);refine vF ab [0,1,2,4,5,6,7,17,18,19,20] Tryz.func106 rfl Tryz.results106 Tryz.ntmps106 ?_;(repeat' (first|with_reducible refine vC (r1) ?_|with_reducible refine vQ (r1) ?_|with_reducible refine vK (r2) ?_|(refine' zq)|fail))
 refine vRn ab [0,1,2,3,6,8,9,10,11,23,36] Tryz.func216 rfl ?_;(refine' zg)
 have he:=bM l H ha;generalize hy:Yd.mk _ _ _ _=y;refine vL (lv:=[0,1,2,3,6,8,9,10,11,23,36]) ab (liS t n (ct L) H a (aE l H a) y) (LiP l L (aE l H a) H (ci l L (aE l H a) a H)) (fun z=>H.length - z.1) (0,a,[]) (aC.nilC 28 0 3<|aC.to [0,1,2,3,8,9,10] [0,4,28,52,53,54,56,73] [73] (by exact vT) rfl) ?_ ?_
 ·exact ⟨aa1 _,he.1,aa1 _,rfl⟩
 rintro ⟨i,c,out⟩ ⟨h1,h2,hol,h3⟩;simp only at h1 h2 hol h3;rcases aa2 i H.length with hi|hi
 ·obtain ⟨x,hx⟩ : ∃x,H[i]? = some x:=⟨_,IO hi⟩
  have hxr:=bE hr x (aa0 hx);rw [dj hx,ci] at h3;obtain ⟨x1,x2⟩:=x;simp only at hxr h3;obtain ⟨j,rfl⟩ : ∃j:Nat,x1=j:=⟨x1.toNat,by omega⟩
  obtain ⟨k,rfl⟩ : ∃k:Nat,x2=k:=⟨x2.toNat,by omega⟩
  simp only [ack] at h3;by_cases hc:(j:Int)<c∨(aE l H a:Int)<k
  ·rw [aa3 hc] at h3;(refine' zg)
   refine aF.is i _ (by omega) hx ?_;(refine' zg)
   refine aG.to (i+1,c,out) [0,1,2,3,8,9,10] [0,4,28,52,53,54,56,57] [57] (by exact vT) ?_ ?_
   ·show H.length - (i+1)<H.length - i;omega
   ·exact ⟨hi,h2,by show out.length≤3000*(i+1);omega,h3⟩
  ·rw [aaY hc] at h3;have rw1:=pP n c j L (by omega);have r3:=CH R n (ct L) H c j (by omega) (by omega) (b9 L c j) (ab5 (acp _ _) (by omega)) rw1 (fun y hy=>by
    obtain ⟨g1,g2⟩:=acj.1 hy;have:=hok y g1;simp only [acb,acy,ab9] at g2;omega)
   have hsl:=ph l j (b9 L c j) c;have hfl:(b9 L c j).length≤L.length:=acp _ _;generalize dc l j c (b9 L c j)=sh at r3 h3 hsl;have happ:(out++sh).length=out.length+sh.length:=Or;(refine' zg)
   refine aF.is i _ (by omega) hx ?_;(refine' zg)
   refine vY ab [0,1,2,4,5,6,7,17,18,19,20] (bv true) [(0,Dx t n (ct L) H),(4,.cell [.d aB,iv 0,iv 0]),(28,.cell [.so 138 3 0 (out++sh).length,iv a,iv (aE l H a)]),(52,Dx t n (ct L) H),(53,.cell [iv c]),(54,.cell [iv (aE l H a)]),(56,.rc y none (Ug t n (ct L) H a)),(138,zp (out++sh)),(70,.cell [iv j,iv k])] ?_ ?_ (hps:=by subst hy;kernel_rfl) (hl:=by subst hy;rfl) (hn1:=by subst hy;kernel_rfl) (hn2:=by subst hy;kernel_rfl) (ho1:=by subst hy;kernel_rfl) (ho2:=by subst hy;kernel_rfl)
   ·subst hy;(refine' fq r3)
    refine ⟨rfl,vG ⟨[174],by decide,?_⟩⟩;exact ar.cons rfl (ar.cons rfl (ar.cons rfl (ar.cons rfl (ar.cons rfl (ar.cons rfl (ar.cons rfl (ar.cons rfl (ar.cons rfl ar.nil))))))))
   ·(refine' zg)
    refine vY ab [0,1,2,4,5,6,7,17,18,19,20] (bv true) [(0,Dx t n (ct L) H),(4,.cell [.d aB,iv 0,iv 0]),(28,.cell [.so 158 3 0 (out++sh++[Pz.fo j]).length,iv a,iv (aE l H a)]),(52,Dx t n (ct L) H),(53,.cell [iv c]),(54,.cell [iv (aE l H a)]),(56,.rc y none (Ug t n (ct L) H a)),(158,zp (out++sh++[Pz.fo j])),(70,.cell [iv j,iv k])] ?_ ?_ (hps:=by subst hy;kernel_rfl) (hl:=by subst hy;rfl) (hn1:=by subst hy;kernel_rfl) (hn2:=by subst hy;kernel_rfl) (ho1:=by subst hy;kernel_rfl) (ho2:=by subst hy;kernel_rfl)
    ·subst hy;(refine' zg)
     rw [show (out++sh).map iA++[D.agg [iD 3,iD j,aB]]=(out++sh++[Pz.fo j]).map iA from jH _ (Pz.fo j),aa4];refine ⟨rfl,vG ⟨[198],by decide,?_⟩⟩;exact ar.cons rfl (ar.cons rfl (ar.cons rfl (ar.cons rfl (ar.cons rfl (ar.cons rfl (ar.cons rfl (ar.cons rfl (ar.cons rfl ar.nil))))))))
    ·(refine' zg)
     refine aG.to (i+1,k,out++sh++[Pz.fo j]) [0,1,2,3,8,9,10] [0,4,28,52,53,54,56,158] [158] (by exact vT) ?_ ?_
     ·show H.length - (i+1)<H.length - i;omega
     ·exact ⟨hi,by show k≤aE l H a;omega,by show (out++sh++[Pz.fo j]).length≤3000*(i+1);simp only [Or,aa6,abt];omega,by show out++sh++[Pz.fo j]++_=_;rw [←h3];simp only [aba,abG,abL]⟩
 ·rw [abo hi,ci] at h3;have rw1:=pP n c (aE l H a) L (by omega);have r3:=CH R n (ct L) H c (aE l H a) (by omega) (by omega) (b9 L c (aE l H a)) (ab5 (acp _ _) (by omega)) rw1 (fun y hy=>by
   obtain ⟨g1,g2⟩:=acj.1 hy;have:=hok y g1;simp only [acb,acy,ab9] at g2;omega)
  have hsl:=ph l (aE l H a) (b9 L c (aE l H a)) c;have hfl:(b9 L c (aE l H a)).length≤L.length:=acp _ _;generalize dc l (aE l H a) c (b9 L c (aE l H a))=sh at r3 h3 hsl;have happ:(out++sh).length=out.length+sh.length:=Or;(refine' zg)
  refine vY ab [0,1,2,4,5,6,7,17,18,19,20] (bv true) [(0,Dx t n (ct L) H),(4,.cell [.d aB,iv 0,iv 0]),(28,.cell [.so 78 3 0 (out++sh).length,iv a,iv (aE l H a)]),(52,Dx t n (ct L) H),(53,.cell [iv c]),(54,.cell [iv (aE l H a)]),(56,.rc y none (Ug t n (ct L) H a)),(78,zp (out++sh))] ?_ ?_ (hps:=by subst hy;kernel_rfl) (hl:=by subst hy;rfl) (hn1:=by subst hy;kernel_rfl) (hn2:=by subst hy;kernel_rfl) (ho1:=by subst hy;kernel_rfl) (ho2:=by subst hy;kernel_rfl)
  ·subst hy;(refine' fq r3)
   refine ⟨rfl,vG ⟨[114],by decide,?_⟩⟩;exact ar.cons rfl (ar.cons rfl (ar.cons rfl (ar.cons rfl (ar.cons rfl (ar.cons rfl (ar.cons rfl (ar.cons rfl ar.nil)))))))
  ·(refine' zg)
   refine vG ⟨y,none,_,rfl,?_⟩;(refine' zg)
   rw [h3];refine ae.frz 78 (ae.out ?_);(refine' zg)
end
def va (l:List Int) (L:List Iy) (H:List Sn) (x:Nat × Nat):D:= .agg [.sd 3 false ((ci l L x.2 x.1 H).map iA),iD x.1,iD x.2]
attribute [push_cast] va.eq_def
theorem MF {α:Type} (f:α→D) (es:List α) (x:α):es.map f++[f x]=(es++[x]).map f:=by rw [abc];rfl
section
variable {l:List Int} {ps:List (List Int)} {t:Option T}
theorem Ml (R:Rp l ps t) (n:Int) (x:D) (H:List Sn) (hl:H.length≤1000) (h:oV l.length n H=true) (a:Int) (hb:ap Tryz.prog G0 105 [GK t n x H,iv a] [] 0 (bv false) []):ap Tryz.prog G0 52 [GK t n x H,iv a] [] 0 (.tup [.d (.agg [aB,iD 0,iD 0]),iv 1]) []:=by
 have r1:=xC R n x H (by omega);rw [aa3 h] at r1;refine vF ab [0,1,2,4,5,6,9,14] Tryz.func52 rfl Tryz.results52 Tryz.ntmps52 ?_;(refine' uR r1 hb)
theorem SV (R:Rp l ps t) (n:Int) (L:List Iy) (hL:L.length≤1000) (hok : ∀y∈L,0≤y.2.1∧y.2.2.2.2.size≤1000000) (H:List Sn) (hl:H.length≤1000) (h:oV l.length n H=true) (a:Nat) (ha:a≤l.length) (hb:ap Tryz.prog G0 105 [GK t n (ct L) H,iv a] [] 0 (bv true) []) :
 ap Tryz.prog G0 52 [GK t n (ct L) H,iv a] [] 0 (.tup [.d (va l L H (a,aE l H a)),iv 0]) []:=by
 have r1:=xC R n (ct L) H (by omega);rw [aa3 h] at r1;have hr:=(hZ h).1;have r2:=OP R n L hL hok H hl hr a ha;refine vF ab [0,1,2,4,5,6,9,14] Tryz.func52 rfl Tryz.results52 Tryz.ntmps52 ?_;(refine' Td r1 hb r2)
end
end Go.Proofs.YtkkanlcjjpoklaaGreatDoor
