/- What the theorem leans on, part 33. -/
import Derived.Test.YtkkanlcjjpoklaaGreatDoorStUPAZ
import Derived.Test.YtkkanlcjjpoklaaGreatDoorStUPBF
set_option linter.unusedSimpArgs false
set_option linter.unusedVariables false
set_option maxRecDepth 8000
namespace Go.Proofs.YtkkanlcjjpoklaaGreatDoor
theorem Kf (fr:Int) (r:List Cl):bo fr r=fr ∨ ∃c∈r,c.2.1≠5∧bo fr r=c.2.2.2:=by
 unfold bo;cases h:r.find? (fun c=>c.2.1 != 5) with
 | none=>exact .inl rfl
 | some c=>exact .inr ⟨c,List.mem_of_find?_eq_some h,by simpa using List.find?_some h,rfl⟩
theorem y7 : ∀(ns:List Nat) (C r:List Cl),r∈dg C ns→r.length≤C.length ∧ ∀c∈r,c∈C
 | [],_,_,h=>by cases h
 | n::t,C,r,h=>by
  rw [dg] at h;rcases List.mem_cons.1 h with rfl|h
  ·exact ⟨by rw [List.length_take];omega,fun c hc=>List.mem_of_mem_take hc⟩
  ·obtain ⟨h1,h2⟩:=y7 t _ r h;rw [List.length_drop] at h1;exact ⟨by omega,fun c hc=>List.mem_of_mem_drop (h2 c hc)⟩
theorem qP : ∀(ns:List Nat) (C:List Cl),(dg C ns).length=ns.length
 | [],_=>rfl
 | n::t,C=>by rw [dg,List.length_cons,List.length_cons,qP t]
theorem Lz (n:Nat) (p:List Cl):(et n p).length≤p.length+n ∧ ∀c∈et n p,c∈p∨(c.2.1=5∧cw c=1):=by
 cases p with
 | nil=>exact ⟨Nat.zero_le _,fun c hc=>by cases hc⟩
 | cons y t=>
  rw [et];refine ⟨by rw [List.length_append,List.length_replicate];omega,fun c hc =>?_⟩;rcases List.mem_append.1 hc with hc|hc
  ·rw [(List.mem_replicate.1 hc).2];exact .inr ⟨rfl,rfl⟩
  ·exact .inl hc
theorem MW {C:List Cl} {wd:Int} {r:List Cl} (h:r∈bN C wd):r.length≤C.length+8 ∧ ∀c∈r,c∈C∨(c.2.1=5∧cw c=1):=by
 have hh:dD C wd≤8:=by have:=eF C;unfold dD;split<;>omega
 rw [bN] at h;rcases hpq:dg C (bn C wd) with _|⟨p,q⟩
 ·rw [hpq] at h;cases h
 ·have hm:=fun x hx=>y7 (bn C wd) C x (by rw [hpq];exact hx)
  rw [hpq] at h;rcases List.mem_cons.1 h with rfl|h
  ·obtain ⟨h1,h2⟩:=hm r List.mem_cons_self;exact ⟨by omega,fun c hc=> .inl (h2 c hc)⟩
  ·obtain ⟨x,hx,rfl⟩:=List.mem_map.1 h;obtain ⟨h1,h2⟩:=hm x (List.mem_cons_of_mem _ hx);obtain ⟨h3,h4⟩:=Lz (dD C wd) x;refine ⟨by omega,fun c hc =>?_⟩;rcases h4 c hc with h5|h5
   ·exact .inl (h2 c h5)
   ·exact .inr h5
theorem G4 (C:List Cl) (wd:Int):(bN C wd).length≤C.length+1:=by
 have h1:=lQ C wd;have h2:=qP (bn C wd) C;rw [bN];rcases hpq:dg C (bn C wd) with _|⟨p,q⟩
 ·exact Nat.zero_le _
 ·rw [hpq] at h2;simp only [List.length_cons,List.length_map] at h2 ⊢;omega
structure T4 (L:List Iy):Prop where
 len:L.length≤60
 so:HD L
 at' : ∀y∈L,0≤y.2.1
 sz : ∀y∈L,y.2.2.2.2.size≤1000000
 nb : ∀y∈L,10∉aa y.2.2.2.2 0
 rs:gH L≤12000
theorem mR {l:List Int} {L:List Iy} {H:List Sn} (g:T4 L) (hll:l.length≤20000) (hr:jp l.length 0 H=true) {a:Nat} (ha:a≤l.length) (hb:a=0∨eY l H (a - 1)=true) :
 (∀z∈b4 l L (aF l H a) a H,Qz z)∧(b4 l L (aF l H a) a H).length≤(L.length+1)*(l.length+1):=by
 have h:=qT hll hr g.sz g.nb _ a [] (Nat.le_refl _) ha (fun z hz=>by cases hz);rw [pU g.so hr ha (wU hb hr)] at h;refine ⟨h.1,Nat.le_trans h.2 ?_⟩;simp only [List.length_nil,Nat.zero_add];exact Nat.mul_le_mul_left _ (by omega)
structure T5 (z w:List (Int × Int)) (tab:Nat) (wd:Int) (l:List Int) (L:List Iy) (H:List Sn) (x:Nat × Nat):Prop where
 fl:(aE (b4 l L x.2 x.1 H)).length≤4000000
 pz:HS (b4 l L x.2 x.1 H)
 ok:dH (bz z w tab 0 (aE (b4 l L x.2 x.1 H)))
 q:(bN (bz z w tab 0 (aE (b4 l L x.2 x.1 H))) wd).length≤100000000
 s : ∀r∈bN (bz z w tab 0 (aE (b4 l L x.2 x.1 H))) wd,0≤bo x.1 r∧bo x.1 r≤l.length∧r.length≤100000000 ∧ ∀c∈r,cw c≤2
theorem Jy {l:List Int} {L:List Iy} {H:List Sn} (g:T4 L) (hl:l.length≤300) (hr:jp l.length 0 H=true) (z w:List (Int × Int)) {tab:Nat} (ht:1≤tab∧tab≤16) (wd:Int) {x:Nat × Nat} (h1:x.1≤l.length) (h2:x.2=aF l H x.1) (h3:x.1=0∨eY l H (x.1 - 1)=true) :
 T5 z w tab wd l L H x:=by
 have hfl:=Kj g.so hr h1 h3;have hfl2:(gH L+1)*(l.length+1)≤12001*301:=Nat.mul_le_mul (by have:=g.rs;omega) (by omega);have hC:=(xQ (L:=L) g.so hr h1 h3).cells (z:=z) (w:=w) (tab:=tab) 0;have he:=bU l H h1;obtain ⟨ha,hc⟩:=mR g (by omega) hr h1 h3;have hc2:(L.length+1)*(l.length+1)≤61*301:=Nat.mul_le_mul (by have:=g.len;omega) (by omega);rw [←h2] at hfl hC he ha hc;have hcl:=lc (z:=z) (w:=w) ht.1 ht.2 (aE (b4 l L x.2 x.1 H)) 0;have hrl:=G4 (bz z w tab 0 (aE (b4 l L x.2 x.1 H))) wd;refine ⟨by omega,⟨by omega,fun k a rs hm =>?_,fun a hm =>?_,by omega⟩,⟨by omega,fun c hc=>(hC.kd c hc).2.1⟩,by omega,fun r hr' =>?_⟩
 ·obtain ⟨⟨p1,p2,p3⟩,k1,_⟩:=ha _ hm;exact ⟨k1,p1,by omega,by omega⟩
 ·obtain ⟨⟨p1,p2⟩,_⟩:=ha _ hm;exact ⟨p1,by omega⟩
 ·obtain ⟨q1,q2⟩:=MW hr';have hst:0≤bo x.1 r∧bo x.1 r≤l.length:=by
   rcases Kf x.1 r with e|⟨c,c1,c2,c3⟩
   ·omega
   ·rcases q2 c c1 with q|q
    ·have:=hC.ins c q;omega
    ·exact (c2 q.1).elim
  refine ⟨hst.1,hst.2,by omega,fun c hc =>?_⟩;rcases q2 c hc with q|q
  ·exact (hC.kd c q).2.1
  ·omega
section
variable {l:List Int} {ps:List (List Int)} {t:Option T}
theorem Ge (R:Rp l ps t) (hl:l.length≤300) (X:D) (n:Int) {L:List Iy} {H:List Sn} {z w:List (Int × Int)} (hz:gP z) (hw:gP w) {tab:Nat} (ht:1≤tab∧tab≤16) {wd:Int} (hwd:0≤wd∧wd≤200) {x:Nat × Nat} (g:T5 z w tab wd l L H x) :
 an Tryz.prog G0 108 [.d (Qv (bd t) (cg n X) (.sd 2 false (H.map bA)) z w tab wd),.d (nS l L H x)] [] 0 (.d (.sd 7 false ((rH z w tab wd l (b4 l L x.2 x.1 H) x.1 x.2).map kA))) []:=
 Jt l _ _ _ z w hz hw tab ht wd hwd _ g.pz g.fl _ _ (by omega) (fun s h1 h2=>by
  obtain ⟨k,rfl⟩ : ∃k:Nat,s=k:=⟨s.toNat,by omega⟩
  exact yG R k (by omega)) g.ok g.q g.s
end
theorem iC (s:ByteArray):aa (cL (aa s 0)) 0=aa s 0:=wh (jW s s.size 0 (by omega))
theorem EQ {α:Type} (f:α→Nat) (B:Nat) : ∀L:List α,(∀y∈L,f y≤B)→(L.map f).sum≤B*L.length
 | [],_=>Nat.le_refl _
 | y::t,h=>by
  have h1:=EQ f B t fun x hx=>h x (List.mem_cons_of_mem _ hx)
  have h2:=h y List.mem_cons_self;rw [List.map_cons,List.sum_cons,List.length_cons,Nat.mul_succ];omega
theorem ZV {n:Int} {L:List Iy} (hl:L.length≤60) (hs : ∀x∈L,x.2.2.2.2.size≤200) (he:bW n [] L=0):T4 (aS L):=by
 have hm : ∀y∈aS L,∃x∈L,y=fa x:=fun y hy=>by
  obtain ⟨x,hx,e⟩:=List.mem_map.1 ((ko L.reverse L (by simp)).mem_iff.1 hy);exact ⟨x,hx,e.symm⟩
 have hw:=(fq n L [] he).1;have hwx : ∀x∈L,0≤x.2.1∧10∉aa x.2.2.2.2 0:=fun x hx=>by
  have h0:=(hw x hx).1;unfold b6 at h0;split at h0
  ·cases h0
  ·rename_i h1;split at h0
   ·cases h0
   ·split at h0
    ·cases h0
    ·rename_i h3;refine ⟨by omega,fun hc=>h3 (.inr (wV.2 hc))⟩
 have hil:(aS L).length=L.length:=jE L.reverse L (by simp);refine ⟨by omega,Hd (xw L.reverse L (by simp)),fun y hy =>?_,fun y hy =>?_,fun y hy =>?_,?_⟩
 ·obtain ⟨x,hx,rfl⟩:=hm y hy;exact (hwx x hx).1
 ·obtain ⟨x,hx,rfl⟩:=hm y hy;have h1:=hs x hx;have h2:=bx x.2.2.2.2 _ 0 (Nat.le_refl _);have h3:=cu (aa x.2.2.2.2 0);show (cL (aa x.2.2.2.2 0)).size≤1000000;rw [bK];omega
 ·obtain ⟨x,hx,rfl⟩:=hm y hy;show 10∉aa (cL (aa x.2.2.2.2 0)) 0;rw [iC];exact (hwx x hx).2
 ·have:=EQ (fun y:Iy=>(aa y.2.2.2.2 0).length) 200 (aS L) fun y hy=>by
   obtain ⟨x,hx,rfl⟩:=hm y hy;show (aa (cL (aa x.2.2.2.2 0)) 0).length≤200;rw [iC];have h2:=bx x.2.2.2.2 _ 0 (Nat.le_refl _);have:=hs x hx;omega
  unfold gH;omega
abbrev tL (s:ByteArray) (L:List Iy) (F:List Sn) (tab wd:Int):V:= .d (.agg [.lit (.string s),.sd 5 false (L.map cS),.sd 2 false (F.map bA),iD tab,iD wd])
abbrev ZT (s:ByteArray) (L:List Iy) (F:List Sn) (tab wd:Int):bF:= .cell [sv s,.d (.sd 5 false (L.map cS)),.d (.sd 2 false (F.map bA)),iv tab,iv wd]
structure gM (s:ByteArray) (L:List Iy) (F:List Sn) (tab wd:Int):Prop where
 s0:s.size≤300
 l0:L.length≤60
 f0:F.length≤60
 tab0:1≤tab∧tab≤16
 wd0:0≤wd∧wd≤200
 x0 : ∀x∈L,x.2.2.2.2.size≤200
 i0:bW (aa s 0).length [] L=0
 o0:ez (aa s 0).length [] F=0
abbrev aD (F:List Sn):List Sn:=hP (d6 F)
def zT:List (Int × Int):=[(768,879),(8203,8207),(65024,65039)]
def wT:List (Int × Int):=[(4352,4447),(11904,12350),(12353,19903),(19968,40959),(44032,55203),(63744,64255),(65280,65376),(127744,128591)]
theorem EI (l:List (Int × Int)) (h1:l.length≤1000) (h2 : ∀x∈l,x.1≤x.2) (h3:l.Pairwise fun x y=>x.2<y.1):gP l:=
 ⟨h1,h2,fun i j x y hij hx hy=>by
  have:=List.pairwise_iff_getElem.1 h3 i j (List.getElem?_eq_some_iff.1 hx).1 (List.getElem?_eq_some_iff.1 hy).1 hij;rwa [(List.getElem?_eq_some_iff.1 hx).2,(List.getElem?_eq_some_iff.1 hy).2] at this⟩
theorem Ot:gP zT:=EI _ (by decide) (by decide) (by decide)
theorem Oq:gP wT:=EI _ (by decide) (by decide) (by decide)
theorem gM.okT {s:ByteArray} {L:List Iy} {F:List Sn} {tab wd:Int} (h:gM s L F tab wd):nY (aa s 0).length (aa s 0).length (aD F)=true:=by
 unfold nY;rw [Eb h.o0];simp
theorem gM.gd {s:ByteArray} {L:List Iy} {F:List Sn} {tab wd:Int} (h:gM s L F tab wd):T4 (aS L):=ZV h.l0 h.x0 h.i0
theorem gM.rs {s:ByteArray} {L:List Iy} {F:List Sn} {tab wd:Int} (h:gM s L F tab wd):(aa s 0).length≤300:=by
 have:=bx s s.size 0 (by omega);have:=h.s0;omega
end Go.Proofs.YtkkanlcjjpoklaaGreatDoor
