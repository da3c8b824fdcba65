/- What the theorem leans on, part 42. -/
import Derived.Test.YtkkanlcjjpoklaaGreatDoorStVPAD
import Derived.Test.YtkkanlcjjpoklaaGreatDoorStVPAM
set_option linter.unusedSimpArgs false
set_option linter.unusedVariables false
set_option maxRecDepth 8000
namespace Go.Proofs.YtkkanlcjjpoklaaGreatDoor
abbrev Ib (l:List It):bN:= .row 7 (l.map fQ)
abbrev Np:V:= .fn 142 [.po 0 0]
theorem ME (es:List It) (i:It):es.map fQ++[fQ i]=(es++[i]).map fQ:=by rw [abc];rfl
theorem oN (es:List It) (i:It) (hl:es.length≤1000000):ap Tryz.prog G0 142 [.d (fQ i),.po 0 0] [(0,.cell [.so 1 7 0 es.length]),(1,Ib es)] 2 (.tup []) [(0,.cell [.so 2 7 0 (es.length+1)]),(2,Ib (es++[i]))]:=by
 refine vF ab [0,1,2] Tryz.func142 rfl Tryz.results142 Tryz.ntmps142 ?_;(refine' zg)
 rw [ME,aa4,show (es++[i]).length=es.length+1 by simp];refine ae.now [18] (by decide) ?_;(refine' zg)
 exact ar.cons rfl (ar.cons rfl ar.nil)
def W0 (l es:List It):Nat→St
 | 0=>⟨[(1,Np),(17,.d (.sd 7 false (l.map fQ))),(18,iv l.length),(19,iv 0)],[(0,.cell [.so 1 7 0 es.length]),(1,Ib es)],2⟩
 | i+1=>⟨[(1,Np),(17,.d (.sd 7 false (l.map fQ))),(18,iv l.length),(19,iv (i+1))],[(0,.cell [.so 2 7 0 (es.length+(i+1))]),(2,Ib (es++l.take (i+1)))],3⟩
def XU (l:List It) (i:Nat):St:=⟨[(1,Np),(17,.d (.sd 7 false (l.map fQ))),(18,iv l.length),(19,iv i)],[(0,.cell [.so 1 7 0 i]),(1,Ib (l.take i))],2⟩
def WZ (ks:List T) (es:List It):Nat→St
 | 0=>⟨[(1,Np),(33,.d (.sd 1 false (ks.map bw))),(34,iv ks.length),(35,iv 0)],[(0,.cell [.so 1 7 0 es.length]),(1,Ib es)],2⟩
 | i+1=>⟨[(1,Np),(33,.d (.sd 1 false (ks.map bw))),(34,iv ks.length),(35,iv (i+1))],[(0,.cell [.so 2 7 0 (es++T.itemsL (ks.take (i+1))).length]),(2,Ib (es++T.itemsL (ks.take (i+1))))],3⟩
def XT (ks:List T) (i:Nat):St:=⟨[(1,Np),(33,.d (.sd 1 false (ks.map bw))),(34,iv ks.length),(35,iv i)],[(0,.cell [.so 1 7 0 (T.itemsL (ks.take i)).length]),(1,Ib (T.itemsL (ks.take i)))],2⟩
attribute [push_cast] W0.eq_1 W0.eq_2 XU.eq_def WZ.eq_1 WZ.eq_2 XT.eq_def
set_option maxHeartbeats 3200000 in
theorem Fg (l es:List It) (h0:0<l.length) (hl:es.length+l.length≤1000000):ap Tryz.prog G0 140 [.d (bw (.leaf l)),Np] [(0,.cell [.so 1 7 0 es.length]),(1,Ib es)] 2 (.tup []) [(0,.cell [.so 2 7 0 (es++l).length]),(2,Ib (es++l))]:=by
 refine vF ab [0,1,4,6,7,9,10,12,13,17,18,19,20,28,29,33,34,35,36] Tryz.func140 rfl Tryz.results140 Tryz.ntmps140 ?_;(refine' zg)
 refine vL (lv:=[0,1,4,6,7,9,10,12,13,17,18,19,20,28,29,33,34,35,36]) ab (W0 l es) (fun i=>i≤l.length) (fun i=>l.length - i) (0) ((aC.go [1,17,18,19] (by exact vT) rfl)) ?_ ?_
 ·exact aa1 _
 intro i hi;rcases aa2 i l.length with hlt|hge
 ·obtain ⟨x,hx⟩ : ∃x,l[i]? = some x:=⟨_,IO hlt⟩
  cases i with
  | zero=>
   have r1:=oN es x (by omega);have e:es++[x]=es++l.take 1:=by rw [show (1:Nat)=0+1 from rfl,ao hx];rfl
   rw [e] at r1;(refine' jY hx)
   refine au.twoN 0 1 r1 ?_;(refine' zg)
   refine aG.go (1) [1,17,18,19] (by exact vT) ?_ ?_
   ·show l.length - 1<l.length - 0;omega
   ·show 1≤l.length;omega
  | succ i=>
   have r1:=oN (es++l.take (i+1)) x (by rw [Or,aa7];omega);rw [aba,←ao hx,Or,aa7,acw (by omega)] at r1;(refine' jY hx)
   refine au.twoN 0 2 r1 ?_;(refine' zg)
   refine aG.go (i+1+1) [1,17,18,19] (by exact vT) ?_ ?_
   ·show l.length - (i+1+1)<l.length - (i+1)
    omega
   ·show i+1+1≤l.length;omega
 ·obtain rfl:i=l.length:=by omega
  obtain ⟨k,hk⟩ : ∃k,l.length=k+1:=⟨l.length - 1,by omega⟩
  have e:es.length+(k+1)=(es++l).length:=by rw [Or];omega
  rw [hk,W0,e,show l.take (k+1)=l from aaW (by omega)];(refine' zg)
  refine ae.now [2] (by decide) ?_;(refine' zg)
  exact ar.cons rfl (ar.cons rfl ar.nil)
set_option maxHeartbeats 3200000 in
theorem uw : ∀(n:Nat) (t:T),t.ht≤n→t.wf → ∀es:List It,es.length+t.items.length≤1000000→ap Tryz.prog G0 140 [.d (bw t),Np] [(0,.cell [.so 1 7 0 es.length]),(1,Ib es)] 2 (.tup []) [(0,.cell [.so 2 7 0 (es++t.items).length]),(2,Ib (es++t.items))]
 | 0,t,hn,hw,es,hl=>by
  have:=T.wf_ht hw;omega
 | n+1,.leaf l,hn,hw,es,hl=>by
  simp only [T.wf] at hw;simp only [T.items] at hl ⊢;exact Fg l es hw.1 hl
 | n+1,.inner h ks,hn,hw,es,hl=>by
  simp only [T.wf] at hw;obtain ⟨w1,w2,w3,w4⟩:=hw;rw [T.ht_inner] at hn;simp only [T.items] at hl ⊢;have hk:=T.wfL_mem w4;have hin : ∀(i:Nat) (k:T),ks[i]? = some k→(T.itemsL (ks.take i)).length+k.items.length≤(T.itemsL ks).length:=fun i k hi=>by
   have e:=cS hi;obtain ⟨r,er⟩:=hU (ks:=ks) (i+1);have:=congrArg List.length er;rw [e,Or,Or] at this;omega
  refine vF ab [0,1,4,6,7,9,10,12,13,17,18,19,20,28,29,33,34,35,36] Tryz.func140 rfl Tryz.results140 Tryz.ntmps140 ?_;(refine' zg)
  refine vL (lv:=[0,1,4,6,7,9,10,12,13,17,18,19,20,28,29,33,34,35,36]) ab (WZ ks es) (fun i=>i≤ks.length) (fun i=>ks.length - i) (0) ((aC.go [1,33,34,35] (by exact vT) rfl)) ?_ ?_
  ·exact aa1 _
  intro i hi;rcases aa2 i ks.length with hlt|hge
  ·obtain ⟨k,hx⟩ : ∃k,ks[i]? = some k:=⟨_,IO hlt⟩
   obtain ⟨k1,k2⟩:=hk k (aa0 hx);have hb:=hin i k hx;cases i with
   | zero=>
    have r1:=uw n k (by omega) k2 es (by omega);have e:es++k.items=es++T.itemsL (ks.take 1):=by
     rw [show (1:Nat)=0+1 from rfl,cS hx,abO,sG,abL]
    rw [e] at r1;(refine' jY hx)
    refine au.twoN 0 1 r1 ?_;(refine' zg)
    refine aG.go (1) [1,33,34,35] (by exact vT) ?_ ?_
    ·show ks.length - 1<ks.length - 0;omega
    ·show 1≤ks.length;omega
   | succ i=>
    have r1:=uw n k (by omega) k2 (es++T.itemsL (ks.take (i+1))) (by rw [Or];omega);rw [aba,←cS hx] at r1;(refine' jY hx)
    refine au.twoN 0 2 r1 ?_;(refine' zg)
    refine aG.go (i+1+1) [1,33,34,35] (by exact vT) ?_ ?_
    ·show ks.length - (i+1+1)<ks.length - (i+1)
     omega
    ·show i+1+1≤ks.length;omega
  ·obtain rfl:i=ks.length:=by omega
   obtain ⟨k,hk⟩ : ∃k,ks.length=k+1:=⟨ks.length - 1,by omega⟩
   rw [hk,WZ,show ks.take (k+1)=ks from aaW (by omega)];(refine' zg)
   refine ae.now [2] (by decide) ?_;(refine' zg)
   exact ar.cons rfl (ar.cons rfl ar.nil)
set_option maxHeartbeats 3200000 in
theorem Jr (t:T) (hw:t.wf) (hl:t.items.length≤1000000):ap Tryz.prog G0 140 [.d (bw t),Np] [(0,.cell [.d (.lit (.slice none 0 0))])] 1 (.tup []) [(0,.cell [.so 1 7 0 t.items.length]),(1,Ib t.items)]:=by
 cases t with
 | leaf l=>
  simp only [T.items] at hl ⊢;refine vF ab [0,1,4,6,7,9,10,12,13,17,18,19,20,28,29,33,34,35,36] Tryz.func140 rfl Tryz.results140 Tryz.ntmps140 ?_;(refine' zg)
  refine vL (lv:=[0,1,4,6,7,9,10,12,13,17,18,19,20,28,29,33,34,35,36]) ab (XU l) (fun i=>i≤l.length) (fun i=>l.length - i) (0) (aC.nilC 0 0 7<|(aC.go [1,17,18,19] (by exact vT) rfl)) ?_ ?_
  ·exact aa1 _
  intro i hi;rcases aa2 i l.length with hlt|hge
  ·obtain ⟨x,hx⟩ : ∃x,l[i]? = some x:=⟨_,IO hlt⟩
   have r1:=oN (l.take i) x (by rw [aa7];omega);rw [←ao hx,aa7,acw (by omega)] at r1;(refine' jY hx)
   refine au.twoN 0 1 r1 ?_;(refine' zg)
   refine aG.go (i+1) [1,17,18,19] (by exact vT) ?_ ?_
   ·show l.length - (i+1)<l.length - i;omega
   ·show i+1≤l.length;omega
  ·obtain rfl:i=l.length:=by omega
   rw [XU,abC];(refine' zg)
   refine ae.now [1] (by decide) ?_;(refine' zg)
   exact ar.cons rfl (ar.cons rfl ar.nil)
 | inner h ks=>
  simp only [T.wf] at hw;obtain ⟨w1,w2,w3,w4⟩:=hw;simp only [T.items] at hl ⊢;have hk:=T.wfL_mem w4;have hin : ∀(i:Nat) (k:T),ks[i]? = some k→(T.itemsL (ks.take i)).length+k.items.length≤(T.itemsL ks).length:=fun i k hi=>by
   have e:=cS hi;obtain ⟨r,er⟩:=hU (ks:=ks) (i+1);have:=congrArg List.length er;rw [e,Or,Or] at this;omega
  refine vF ab [0,1,4,6,7,9,10,12,13,17,18,19,20,28,29,33,34,35,36] Tryz.func140 rfl Tryz.results140 Tryz.ntmps140 ?_;(refine' zg)
  refine vL (lv:=[0,1,4,6,7,9,10,12,13,17,18,19,20,28,29,33,34,35,36]) ab (XT ks) (fun i=>i≤ks.length) (fun i=>ks.length - i) (0) (aC.nilC 0 0 7<|(aC.go [1,33,34,35] (by exact vT) rfl)) ?_ ?_
  ·exact aa1 _
  intro i hi;rcases aa2 i ks.length with hlt|hge
  ·obtain ⟨k,hx⟩ : ∃k,ks[i]? = some k:=⟨_,IO hlt⟩
   obtain ⟨k1,k2⟩:=hk k (aa0 hx);have hb:=hin i k hx;have r1:=uw k.ht k (aaV _) k2 (T.itemsL (ks.take i)) (by omega);rw [←cS hx] at r1;(refine' jY hx)
   refine au.twoN 0 1 r1 ?_;(refine' zg)
   refine aG.go (i+1) [1,33,34,35] (by exact vT) ?_ ?_
   ·show ks.length - (i+1)<ks.length - i;omega
   ·show i+1≤ks.length;omega
  ·obtain rfl:i=ks.length:=by omega
   rw [XT,abC];(refine' zg)
   refine ae.now [1] (by decide) ?_;(refine' zg)
   exact ar.cons rfl (ar.cons rfl ar.nil)
theorem Fh:ap Tryz.prog G0 140 [.d (.lit .nilIface),Np] [(0,.cell [.d (.lit (.slice none 0 0))])] 1 (.tup []) [(0,.cell [.d (.lit (.slice none 0 0))])]:=by
 refine vF ab [0,1,4,6,7,9,10,12,13,17,18,19,20,28,29,33,34,35,36] Tryz.func140 rfl Tryz.results140 Tryz.ntmps140 ?_;(refine' zg)
 refine ae.now [] (by decide) ?_;(refine' zg);first|exact aj _|exact ar.cons rfl ar.nil|exact ar.cons rfl (ar.cons rfl ar.nil)|exact ar.nil
theorem rh (t:Option T) (k:Tk t):ap Tryz.prog G0 83 [.d (aU t)] [] 0 (.d (.sd 7 false ((an t).map fQ))) []:=by
 have r1:=uK t;cases t with
 | none=>
  rw [aU] at r1 ⊢;simp only [an,acl,cM] at r1 ⊢;have r2:=Fh;refine ap.nil 7 false ?_;refine vF ab [0,2,3] Tryz.func83 rfl Tryz.results83 Tryz.ntmps83 ?_;(refine' fq r1)
  refine au.oneN 4 r2 ?_;(refine' zo)
 | some t=>
  obtain ⟨w1,w2,w3,w4⟩:=k;simp only [Dy,an] at w1 w3 ⊢;have r2:=Jr t w1 (by omega);simp only [aU,cM] at r1 ⊢;generalize bw t=A at *
  generalize t.items=l at *
  refine vF ab [0,2,3] Tryz.func83 rfl Tryz.results83 Tryz.ntmps83 ?_;(refine' fq r1)
  refine au.oneN 4 r2 ?_;(refine' zg)
  refine ae.frz 20 (ae.out ?_);(refine' zg)
  all_goals (try rw [aaW (by simp)])
end Go.Proofs.YtkkanlcjjpoklaaGreatDoor
