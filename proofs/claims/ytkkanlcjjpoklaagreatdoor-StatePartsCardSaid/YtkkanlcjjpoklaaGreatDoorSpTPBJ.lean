/- What the theorem leans on, part 36. -/
import Derived.Test.YtkkanlcjjpoklaaGreatDoorSpTPBB
import Derived.Test.YtkkanlcjjpoklaaGreatDoorSpTPBI
set_option linter.unusedSimpArgs false
set_option linter.unusedVariables false
set_option maxRecDepth 8000
namespace Go.Proofs.YtkkanlcjjpoklaaGreatDoor
theorem Ef (fr:Int) (r:List Cl):e8 fr r=fr ∨ ∃c∈r,c.2.1≠5∧e8 fr r=c.2.2.2:=by
 unfold e8;cases h:r.find? (fun c=>c.2.1 != 5) with
 | none=>exact .inl rfl
 | some c=>exact .inr ⟨c,List.mem_of_find?_eq_some h,by simpa using List.find?_some h,rfl⟩
theorem uy : ∀(ns:List Nat) (C r:List Cl),r∈cE C ns→r.length≤C.length ∧ ∀c∈r,c∈C
 | [],_,_,h=>by cases h
 | n::t,C,r,h=>by
  rw [cE] at h;rcases List.mem_cons.1 h with rfl|h
  ·exact ⟨by rw [List.length_take];omega,fun c hc=>List.mem_of_mem_take hc⟩
  ·obtain ⟨h1,h2⟩:=uy t _ r h;rw [List.length_drop] at h1;exact ⟨by omega,fun c hc=>List.mem_of_mem_drop (h2 c hc)⟩
theorem nW : ∀(ns:List Nat) (C:List Cl),(cE C ns).length=ns.length
 | [],_=>rfl
 | n::t,C=>by rw [cE,List.length_cons,List.length_cons,nW t]
theorem FE (n:Nat) (p:List Cl):(dD n p).length≤p.length+n ∧ ∀c∈dD n p,c∈p∨(c.2.1=5∧cw c=1):=by
 cases p with
 | nil=>exact ⟨Nat.zero_le _,fun c hc=>by cases hc⟩
 | cons y t=>
  rw [dD];refine ⟨by rw [List.length_append,List.length_replicate];omega,fun c hc =>?_⟩;rcases List.mem_append.1 hc with hc|hc
  ·rw [(List.mem_replicate.1 hc).2];exact .inr ⟨rfl,rfl⟩
  ·exact .inl hc
theorem G1 {C:List Cl} {wd:Int} {r:List Cl} (h:r∈bP C wd):r.length≤C.length+8 ∧ ∀c∈r,c∈C∨(c.2.1=5∧cw c=1):=by
 have hh:eP C wd≤8:=by have:=iV C;unfold eP;split<;>omega
 rw [bP] at h;rcases hpq:cE C (bb C wd) with _|⟨p,q⟩
 ·rw [hpq] at h;cases h
 ·have hm:=fun x hx=>uy (bb C wd) C x (by rw [hpq];exact hx)
  rw [hpq] at h;rcases List.mem_cons.1 h with rfl|h
  ·obtain ⟨h1,h2⟩:=hm r List.mem_cons_self;exact ⟨by omega,fun c hc=> .inl (h2 c hc)⟩
  ·obtain ⟨x,hx,rfl⟩:=List.mem_map.1 h;obtain ⟨h1,h2⟩:=hm x (List.mem_cons_of_mem _ hx);obtain ⟨h3,h4⟩:=FE (eP C wd) x;refine ⟨by omega,fun c hc =>?_⟩;rcases h4 c hc with h5|h5
   ·exact .inl (h2 c h5)
   ·exact .inr h5
theorem BU (C:List Cl) (wd:Int):(bP C wd).length≤C.length+1:=by
 have h1:=pV C wd;have h2:=nW (bb C wd) C;rw [bP];rcases hpq:cE C (bb C wd) with _|⟨p,q⟩
 ·exact Nat.zero_le _
 ·rw [hpq] at h2;simp only [List.length_cons,List.length_map] at h2 ⊢;omega
structure MF (L:List Iy):Prop where
 len:L.length≤60
 so:E9 L
 at' : ∀y∈L,0≤y.2.1
 sz : ∀y∈L,y.2.2.2.2.size≤1000000
 nb : ∀y∈L,10∉aa y.2.2.2.2 0
 rs:gk L≤12000
theorem ph {l:List Int} {L:List Iy} {H:List Sn} (g:MF L) (hll:l.length≤20000) (hr:iZ l.length 0 H=true) {a:Nat} (ha:a≤l.length) (hb:a=0∨fS l H (a - 1)=true) :
 (∀z∈bQ l L (aQ l H a) a H,Qz z)∧(bQ l L (aQ l H a) a H).length≤(L.length+1)*(l.length+1):=by
 have h:=nZ hll hr g.sz g.nb _ a [] (Nat.le_refl _) ha (fun z hz=>by cases hz);rw [sL g.so hr ha (xr hb hr)] at h;refine ⟨h.1,Nat.le_trans h.2 ?_⟩;simp only [List.length_nil,Nat.zero_add];exact Nat.mul_le_mul_left _ (by omega)
structure M7 (z w:List (Int × Int)) (tab:Nat) (wd:Int) (l:List Int) (L:List Iy) (H:List Sn) (x:Nat × Nat):Prop where
 fl:(aI (bQ l L x.2 x.1 H)).length≤4000000
 pz:Ir (bQ l L x.2 x.1 H)
 ok:fU (bq z w tab 0 (aI (bQ l L x.2 x.1 H)))
 q:(bP (bq z w tab 0 (aI (bQ l L x.2 x.1 H))) wd).length≤100000000
 s : ∀r∈bP (bq z w tab 0 (aI (bQ l L x.2 x.1 H))) wd,0≤e8 x.1 r∧e8 x.1 r≤l.length∧r.length≤100000000 ∧ ∀c∈r,cw c≤2
theorem DL {l:List Int} {L:List Iy} {H:List Sn} (g:MF L) (hl:l.length≤300) (hr:iZ l.length 0 H=true) (z w:List (Int × Int)) {tab:Nat} (ht:1≤tab∧tab≤16) (wd:Int) {x:Nat × Nat} (h1:x.1≤l.length) (h2:x.2=aQ l H x.1) (h3:x.1=0∨fS l H (x.1 - 1)=true) :
 M7 z w tab wd l L H x:=by
 have hfl:=El g.so hr h1 h3;have hfl2:(gk L+1)*(l.length+1)≤12001*301:=Nat.mul_le_mul (by have:=g.rs;omega) (by omega);have hC:=(tF (L:=L) g.so hr h1 h3).cells (z:=z) (w:=w) (tab:=tab) 0;have he:=dc l H h1;obtain ⟨ha,hc⟩:=ph g (by omega) hr h1 h3;have hc2:(L.length+1)*(l.length+1)≤61*301:=Nat.mul_le_mul (by have:=g.len;omega) (by omega);rw [←h2] at hfl hC he ha hc;have hcl:=nT (z:=z) (w:=w) ht.1 ht.2 (aI (bQ l L x.2 x.1 H)) 0;have hrl:=BU (bq z w tab 0 (aI (bQ l L x.2 x.1 H))) wd;refine ⟨by omega,⟨by omega,fun k a rs hm =>?_,fun a hm =>?_,by omega⟩,⟨by omega,fun c hc=>(hC.kd c hc).2.1⟩,by omega,fun r hr' =>?_⟩
 ·obtain ⟨⟨p1,p2,p3⟩,k1,_⟩:=ha _ hm;exact ⟨k1,p1,by omega,by omega⟩
 ·obtain ⟨⟨p1,p2⟩,_⟩:=ha _ hm;exact ⟨p1,by omega⟩
 ·obtain ⟨q1,q2⟩:=G1 hr';have hst:0≤e8 x.1 r∧e8 x.1 r≤l.length:=by
   rcases Ef x.1 r with e|⟨c,c1,c2,c3⟩
   ·omega
   ·rcases q2 c c1 with q|q
    ·have:=hC.ins c q;omega
    ·exact (c2 q.1).elim
  refine ⟨hst.1,hst.2,by omega,fun c hc =>?_⟩;rcases q2 c hc with q|q
  ·exact (hC.kd c q).2.1
  ·omega
section
variable {l:List Int} {ps:List (List Int)} {t:Option T}
end
theorem j1 (s:ByteArray):aa (c8 (aa s 0)) 0=aa s 0:=rL (iB s s.size 0 (by omega))
theorem z5 {α:Type} (f:α→Nat) (B:Nat) : ∀L:List α,(∀y∈L,f y≤B)→(L.map f).sum≤B*L.length
 | [],_=>Nat.le_refl _
 | y::t,h=>by
  have h1:=z5 f B t fun x hx=>h x (List.mem_cons_of_mem _ hx)
  have h2:=h y List.mem_cons_self;rw [List.map_cons,List.sum_cons,List.length_cons,Nat.mul_succ];omega
theorem QP {n:Int} {L:List Iy} (hl:L.length≤60) (hs : ∀x∈L,x.2.2.2.2.size≤200) (he:oB n [] L=0):MF (bp L):=by
 have hm : ∀y∈bp L,∃x∈L,y=sF x:=fun y hy=>by
  obtain ⟨x,hx,e⟩:=List.mem_map.1 ((rm L.reverse L (by simp)).mem_iff.1 hy);exact ⟨x,hx,e.symm⟩
 have hw:=(kh n L [] he).1;have hwx : ∀x∈L,0≤x.2.1∧10∉aa x.2.2.2.2 0:=fun x hx=>by
  have h0:=(hw x hx).1;unfold t6 at h0;split at h0
  ·cases h0
  ·rename_i h1;split at h0
   ·cases h0
   ·split at h0
    ·cases h0
    ·rename_i h3;refine ⟨by omega,fun hc=>h3 (.inr (FH.2 hc))⟩
 have hil:(bp L).length=L.length:=uX L.reverse L (by simp);refine ⟨by omega,BY (zz L.reverse L (by simp)),fun y hy =>?_,fun y hy =>?_,fun y hy =>?_,?_⟩
 ·obtain ⟨x,hx,rfl⟩:=hm y hy;exact (hwx x hx).1
 ·obtain ⟨x,hx,rfl⟩:=hm y hy;have h1:=hs x hx;have h2:=ci x.2.2.2.2 _ 0 (Nat.le_refl _);have h3:=bX (aa x.2.2.2.2 0);show (c8 (aa x.2.2.2.2 0)).size≤1000000;rw [bh];omega
 ·obtain ⟨x,hx,rfl⟩:=hm y hy;show 10∉aa (c8 (aa x.2.2.2.2 0)) 0;rw [j1];exact (hwx x hx).2
 ·have:=z5 (fun y:Iy=>(aa y.2.2.2.2 0).length) 200 (bp L) fun y hy=>by
   obtain ⟨x,hx,rfl⟩:=hm y hy;show (aa (c8 (aa x.2.2.2.2 0)) 0).length≤200;rw [j1];have h2:=ci x.2.2.2.2 _ 0 (Nat.le_refl _);have:=hs x hx;omega
  unfold gk;omega
structure sn (s:ByteArray) (L:List Iy) (F:List Sn) (tab wd:Int):Prop where
 s0:s.size≤300
 l0:L.length≤60
 f0:F.length≤60
 tab0:1≤tab∧tab≤16
 wd0:0≤wd∧wd≤200
 x0 : ∀x∈L,x.2.2.2.2.size≤200
 i0:oB (aa s 0).length [] L=0
 o0:uI (aa s 0).length [] F=0
abbrev aL (F:List Sn):List Sn:=xM (jI F)
def zT:List (Int × Int):=[(768,879),(8203,8207),(65024,65039)]
def wT:List (Int × Int):=[(4352,4447),(11904,12350),(12353,19903),(19968,40959),(44032,55203),(63744,64255),(65280,65376),(127744,128591)]
theorem zS (l:List (Int × Int)) (h1:l.length≤1000) (h2 : ∀x∈l,x.1≤x.2) (h3:l.Pairwise fun x y=>x.2<y.1):i8 l:=
 ⟨h1,h2,fun i j x y hij hx hy=>by
  have:=List.pairwise_iff_getElem.1 h3 i j (List.getElem?_eq_some_iff.1 hx).1 (List.getElem?_eq_some_iff.1 hy).1 hij;rwa [(List.getElem?_eq_some_iff.1 hx).2,(List.getElem?_eq_some_iff.1 hy).2] at this⟩
theorem Mx:i8 zT:=zS _ (by decide) (by decide) (by decide)
theorem Mu:i8 wT:=zS _ (by decide) (by decide) (by decide)
theorem sn.okT {s:ByteArray} {L:List Iy} {F:List Sn} {tab wd:Int} (h:sn s L F tab wd):mZ (aa s 0).length (aa s 0).length (aL F)=true:=by
 unfold mZ;rw [zx h.o0];simp
theorem sn.gd {s:ByteArray} {L:List Iy} {F:List Sn} {tab wd:Int} (h:sn s L F tab wd):MF (bp L):=QP h.l0 h.x0 h.i0
theorem sn.rs {s:ByteArray} {L:List Iy} {F:List Sn} {tab wd:Int} (h:sn s L F tab wd):(aa s 0).length≤300:=by
 have:=ci s s.size 0 (by omega);have:=h.s0;omega
end Go.Proofs.YtkkanlcjjpoklaaGreatDoor
