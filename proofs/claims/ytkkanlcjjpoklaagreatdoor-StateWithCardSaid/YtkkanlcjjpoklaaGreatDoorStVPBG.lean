/- What the theorem leans on, part 33. -/
import Derived.Test.YtkkanlcjjpoklaaGreatDoorStVPAZ
import Derived.Test.YtkkanlcjjpoklaaGreatDoorStVPBF
set_option linter.unusedSimpArgs false
set_option linter.unusedVariables false
set_option maxRecDepth 8000
namespace Go.Proofs.YtkkanlcjjpoklaaGreatDoor
theorem Me (fr:Int) (r:List Cl):dk fr r=fr ∨ ∃c∈r,c.2.1≠5∧dk fr r=c.2.2.2:=by
 unfold dk;cases h:r.find? (fun c=>c.2.1 != 5) with
 | none=>exact .inl rfl
 | some c=>exact .inr ⟨c,adf h,by simpa using ad8 h,rfl⟩
theorem A3 : ∀(ns:List Nat) (C r:List Cl),r∈dB C ns→r.length≤C.length ∧ ∀c∈r,c∈C
 | [],_,_,h=>by cases h
 | n::t,C,r,h=>by
  rw [dB] at h;rcases abi.1 h with rfl|h
  ·exact ⟨by rw [aa7];omega,fun c hc=>abm hc⟩
  ·obtain ⟨h1,h2⟩:=A3 t _ r h;rw [abg] at h1;exact ⟨by omega,fun c hc=>abU (h2 c hc)⟩
theorem rQ : ∀(ns:List Nat) (C:List Cl),(dB C ns).length=ns.length
 | [],_=>rfl
 | n::t,C=>by rw [dB,aa6,aa6,rQ t]
theorem NO (n:Nat) (p:List Cl):(eQ n p).length≤p.length+n ∧ ∀c∈eQ n p,c∈p∨(c.2.1=5∧cw c=1):=by
 cases p with
 | nil=>exact ⟨aa1 _,fun c hc=>by cases hc⟩
 | cons y t=>
  rw [eQ];refine ⟨by rw [Or,abS];omega,fun c hc =>?_⟩;rcases abe.1 hc with hc|hc
  ·rw [(adl.1 hc).2];exact .inr ⟨rfl,rfl⟩
  ·exact .inl hc
theorem Pm {C:List Cl} {wd:Int} {r:List Cl} (h:r∈cf C wd):r.length≤C.length+8 ∧ ∀c∈r,c∈C∨(c.2.1=5∧cw c=1):=by
 have hh:dS C wd≤8:=by have:=ff C;unfold dS;split<;>omega
 rw [cf] at h;rcases hpq:dB C (bz C wd) with _|⟨p,q⟩
 ·rw [hpq] at h;cases h
 ·have hm:=fun x hx=>A3 (bz C wd) C x (by rw [hpq];exact hx)
  rw [hpq] at h;rcases abi.1 h with rfl|h
  ·obtain ⟨h1,h2⟩:=hm r abj;exact ⟨by omega,fun c hc=> .inl (h2 c hc)⟩
  ·obtain ⟨x,hx,rfl⟩:=abY.1 h;obtain ⟨h1,h2⟩:=hm x (abd _ hx);obtain ⟨h3,h4⟩:=NO (dS C wd) x;refine ⟨by omega,fun c hc =>?_⟩;rcases h4 c hc with h5|h5
   ·exact .inl (h2 c h5)
   ·exact .inr h5
theorem I8 (C:List Cl) (wd:Int):(cf C wd).length≤C.length+1:=by
 have h1:=mI C wd;have h2:=rQ (bz C wd) C;rw [cf];rcases hpq:dB C (bz C wd) with _|⟨p,q⟩
 ·exact aa1 _
 ·rw [hpq] at h2;simp only [aa6,aa4] at h2 ⊢;omega
structure WW (L:List Iy):Prop where
 len:L.length≤60
 so:JD L
 at' : ∀y∈L,0≤y.2.1
 sz : ∀y∈L,y.2.2.2.2.size≤1000000
 nb : ∀y∈L,10∉aa y.2.2.2.2 0
 rs:iw L≤12000
theorem nL {l:List Int} {L:List Iy} {H:List Sn} (g:WW L) (hll:l.length≤20000) (hr:fS l.length 0 H=true) {a:Nat} (ha:a≤l.length) (hb:a=0∨gf l H (a - 1)=true) :
 (∀z∈ci l L (aE l H a) a H,Qz z)∧(ci l L (aE l H a) a H).length≤(L.length+1)*(l.length+1):=by
 have h:=rV hll hr g.sz g.nb _ a [] (aaV _) ha (fun z hz=>by cases hz);rw [qF g.so hr ha (rx hb hr)] at h;refine ⟨h.1,ab5 h.2 ?_⟩;simp only [abt,acC];exact abX _ (by omega)
structure XL (z w:List (Int × Int)) (tab:Nat) (wd:Int) (l:List Int) (L:List Iy) (H:List Sn) (x:Nat × Nat):Prop where
 fl:(aI (ci l L x.2 x.1 H)).length≤4000000
 pz:Ny (ci l L x.2 x.1 H)
 ok:ey (b7 z w tab 0 (aI (ci l L x.2 x.1 H)))
 q:(cf (b7 z w tab 0 (aI (ci l L x.2 x.1 H))) wd).length≤100000000
 s : ∀r∈cf (b7 z w tab 0 (aI (ci l L x.2 x.1 H))) wd,0≤dk x.1 r∧dk x.1 r≤l.length∧r.length≤100000000 ∧ ∀c∈r,cw c≤2
theorem Lx {l:List Int} {L:List Iy} {H:List Sn} (g:WW L) (hl:l.length≤300) (hr:fS l.length 0 H=true) (z w:List (Int × Int)) {tab:Nat} (ht:1≤tab∧tab≤16) (wd:Int) {x:Nat × Nat} (h1:x.1≤l.length) (h2:x.2=aE l H x.1) (h3:x.1=0∨gf l H (x.1 - 1)=true) :
 XL z w tab wd l L H x:=by
 have hfl:=Mj g.so hr h1 h3;have hfl2:(iw L+1)*(l.length+1)≤12001*301:=adt (by have:=g.rs;omega) (by omega);have hC:=(zA (L:=L) g.so hr h1 h3).cells (z:=z) (w:=w) (tab:=tab) 0;have he:=bM l H h1;obtain ⟨ha,hc⟩:=nL g (by omega) hr h1 h3;have hc2:(L.length+1)*(l.length+1)≤61*301:=adt (by have:=g.len;omega) (by omega);rw [←h2] at hfl hC he ha hc;have hcl:=lZ (z:=z) (w:=w) ht.1 ht.2 (aI (ci l L x.2 x.1 H)) 0;have hrl:=I8 (b7 z w tab 0 (aI (ci l L x.2 x.1 H))) wd;refine ⟨by omega,⟨by omega,fun k a rs hm =>?_,fun a hm =>?_,by omega⟩,⟨by omega,fun c hc=>(hC.kd c hc).2.1⟩,by omega,fun r hr' =>?_⟩
 ·obtain ⟨⟨p1,p2,p3⟩,k1,_⟩:=ha _ hm;exact ⟨k1,p1,by omega,by omega⟩
 ·obtain ⟨⟨p1,p2⟩,_⟩:=ha _ hm;exact ⟨p1,by omega⟩
 ·obtain ⟨q1,q2⟩:=Pm hr';have hst:0≤dk x.1 r∧dk x.1 r≤l.length:=by
   rcases Me x.1 r with e|⟨c,c1,c2,c3⟩
   ·omega
   ·rcases q2 c c1 with q|q
    ·have:=hC.ins c q;omega
    ·exact (c2 q.1).elim
  refine ⟨hst.1,hst.2,by omega,fun c hc =>?_⟩;rcases q2 c hc with q|q
  ·exact (hC.kd c q).2.1
  ·omega
section
variable {l:List Int} {ps:List (List Int)} {t:Option T}
end
theorem jj (s:ByteArray):aa (c9 (aa s 0)) 0=aa s 0:=xB (kF s s.size 0 (by omega))
theorem GI {α:Type} (f:α→Nat) (B:Nat) : ∀L:List α,(∀y∈L,f y≤B)→(L.map f).sum≤B*L.length
 | [],_=>aaV _
 | y::t,h=>by
  have h1:=GI f B t fun x hx=>h x (abd _ hx)
  have h2:=h y abj;rw [abh,acu,aa6,acR];omega
theorem gdL {n:Int} {L:List Iy} (hl:L.length≤60) (hs : ∀x∈L,x.2.2.2.2.size≤200) (he:cb n [] L=0):WW (aD L):=by
 have hm : ∀y∈aD L,∃x∈L,y=fK x:=fun y hy=>by
  obtain ⟨x,hx,e⟩:=abY.1 ((iZ L.reverse L (by simp)).mem_iff.1 hy);exact ⟨x,hx,e.symm⟩
 have hw:=(eG n L [] he).1;have hwx : ∀x∈L,0≤x.2.1∧10∉aa x.2.2.2.2 0:=fun x hx=>by
  have h0:=(hw x hx).1;unfold cm at h0;split at h0
  ·cases h0
  ·rename_i h1;split at h0
   ·cases h0
   ·split at h0
    ·cases h0
    ·rename_i h3;refine ⟨by omega,fun hc=>h3 (.inr (yg.2 hc))⟩
 have hil:(aD L).length=L.length:=kf L.reverse L (by simp);refine ⟨by omega,Jg (yV L.reverse L (by simp)),fun y hy =>?_,fun y hy =>?_,fun y hy =>?_,?_⟩
 ·obtain ⟨x,hx,rfl⟩:=hm y hy;exact (hwx x hx).1
 ·obtain ⟨x,hx,rfl⟩:=hm y hy;have h1:=hs x hx;have h2:=bh x.2.2.2.2 _ 0 (aaV _);have h3:=cJ (aa x.2.2.2.2 0);show (c9 (aa x.2.2.2.2 0)).size≤1000000;rw [bT];omega
 ·obtain ⟨x,hx,rfl⟩:=hm y hy;show 10∉aa (c9 (aa x.2.2.2.2 0)) 0;rw [jj];exact (hwx x hx).2
 ·have:=GI (fun y:Iy=>(aa y.2.2.2.2 0).length) 200 (aD L) fun y hy=>by
   obtain ⟨x,hx,rfl⟩:=hm y hy;show (aa (c9 (aa x.2.2.2.2 0)) 0).length≤200;rw [jj];have h2:=bh x.2.2.2.2 _ 0 (aaV _);have:=hs x hx;omega
  unfold iw;omega
abbrev jk (s:ByteArray) (L:List Iy) (F:List Sn) (tab wd:Int):V:= .d (.agg [.lit (.string s),.sd 5 false (L.map cT),.sd 2 false (F.map bA),iD tab,iD wd])
abbrev dcC (s:ByteArray) (L:List Iy) (F:List Sn) (tab wd:Int):bN:= .cell [sv s,.d (.sd 5 false (L.map cT)),.d (.sd 2 false (F.map bA)),iv tab,iv wd]
structure dz (s:ByteArray) (L:List Iy) (F:List Sn) (tab wd:Int):Prop where
 s0:s.size≤300
 l0:L.length≤60
 f0:F.length≤60
 tab0:1≤tab∧tab≤16
 wd0:0≤wd∧wd≤200
 x0 : ∀x∈L,x.2.2.2.2.size≤200
 i0:cb (aa s 0).length [] L=0
 o0:e7 (aa s 0).length [] F=0
abbrev aH (F:List Sn):List Sn:=iY (eV F)
def zT:List (Int × Int):=[(768,879),(8203,8207),(65024,65039)]
def wT:List (Int × Int):=[(4352,4447),(11904,12350),(12353,19903),(19968,40959),(44032,55203),(63744,64255),(65280,65376),(127744,128591)]
theorem GB (l:List (Int × Int)) (h1:l.length≤1000) (h2 : ∀x∈l,x.1≤x.2) (h3:l.Pairwise fun x y=>x.2<y.1):lF l:=
 ⟨h1,h2,fun i j x y hij hx hy=>by
  have:=acH.1 h3 i j (aaX.1 hx).1 (aaX.1 hy).1 hij;rwa [(aaX.1 hx).2,(aaX.1 hy).2] at this⟩
theorem WQ:lF zT:=GB _ (by decide) (by decide) (by decide)
theorem WM:lF wT:=GB _ (by decide) (by decide) (by decide)
theorem dz.okT {s:ByteArray} {L:List Iy} {F:List Sn} {tab wd:Int} (h:dz s L F tab wd):oV (aa s 0).length (aa s 0).length (aH F)=true:=by
 unfold oV;rw [fZ h.o0];simp
theorem dz.gd {s:ByteArray} {L:List Iy} {F:List Sn} {tab wd:Int} (h:dz s L F tab wd):WW (aD L):=gdL h.l0 h.x0 h.i0
theorem dz.rs {s:ByteArray} {L:List Iy} {F:List Sn} {tab wd:Int} (h:dz s L F tab wd):(aa s 0).length≤300:=by
 have:=bh s s.size 0 (by omega);have:=h.s0;omega
theorem yZ (z w:List (Int × Int)) (tab:Nat) (wd:Int) (l:List Int) (L:List Iy) (H:List Sn) : ∀Ls:List (Nat × Nat),yY z w tab wd l L H Ls=Ls.flatMap fun x=>Lt z w tab wd l (ci l L x.2 x.1 H) x.1 x.2
 | []=>rfl
 | x::r=>by rw [yY,yZ z w tab wd l L H r,ace]
theorem Bl {α β:Type} (F:α→List β) (B:Nat) : ∀L:List α,(∀y∈L,(F y).length≤B)→(L.flatMap F).length≤B*L.length
 | [],_=>aaV _
 | y::t,h=>by
  have h1:=Bl F B t fun x hx=>h x (abd _ hx)
  have h2:=h y abj;rw [ace,Or,aa6,acR];omega
structure TC (l:List Int) (wd:Int) (A:List Rw):Prop where
 ok:LR l A
 nw : ∃n T,A=n::T∧n.2.2.2.2.1=false
 mem : ∀r∈A,r.2.2.2.2.2.2=dH r.1∧(2≤wd→(dH r.1:Int)≤wd) ∧ ∀c∈r.1,c.2.1=1 → ∃k:Nat,c.2.2.2=k∧l[k]? = some c.1
 cel : ∀r∈A,r.1.length≤100000000 ∧ ∀c∈r.1,cw c≤2
 len:A.length≤100000000000
section
variable {s:ByteArray} {L:List Iy} {F:List Sn} {tab:Nat} {wd:Int}
theorem dz.lines (h:dz s L F tab wd) : ∀x∈aQ (aa s 0) (aH F) 0,XL zT wT tab wd (aa s 0) (aD L) (aH F) x:=fun x hx=>by
 obtain ⟨h1,h2,h3⟩:=gm (aa s 0) (aH F) _ 0 (aaV _) (aa1 _) (.inl rfl) x hx;have ht:=h.tab0;exact Lx h.gd h.rs (hZ h.okT).1 zT wT (by omega) wd h1 h2 h3
theorem dz.ll (h:dz s L F tab wd):(aQ (aa s 0) (aH F) 0).length≤301:=by
 have:=mm (aa s 0) (aH F) 0 (aa1 _);have:=h.rs;omega
theorem dz.hl (h:dz s L F tab wd):(aH F).length≤60:=by
 have:=OH F;have:=h.f0;show (iY (eV F)).length≤60;omega
abbrev Mg (s:ByteArray) (L:List Iy) (F:List Sn) (tab:Nat) (wd:Int):List Rw:=yY zT wT tab wd (aa s 0) (aD L) (aH F) (aQ (aa s 0) (aH F) 0)
theorem dz.lay (h:dz s L F tab wd):TC (aa s 0) wd (Mg s L F tab wd):=by
 have hr:=(hZ h.okT).1;obtain ⟨h1,n,T,h2,h3,_⟩:=Lu (z:=zT) (w:=wT) (tab:=tab) (wd:=wd) (L:=aD L) h.gd.so hr _ 0 (aaV _) (aa1 _) (.inl rfl);refine ⟨h1,⟨n,T,h2,h3⟩,Gh h.gd.so hr _ 0 (aaV _) (aa1 _) (.inl rfl),fun r hr' =>?_,?_⟩
 ·rw [Mg,yZ] at hr';obtain ⟨x,hx,hm⟩:=List.mem_flatMap.1 hr';obtain ⟨_,_,q1,q2⟩:=(h.lines x hx).s r.1 (ml hm).1;exact ⟨q1,q2⟩
 ·rw [Mg,yZ];have h4:=Bl (fun x:Nat × Nat=>Lt zT wT tab wd (aa s 0) (ci (aa s 0) (aD L) x.2 x.1 (aH F)) x.1 x.2) 100000000 _ fun x hx=>by
   rw [Lt,jw];exact (h.lines x hx).q
  have h5:=h.ll;have h6:100000000*(aQ (aa s 0) (aH F) 0).length≤100000000*301:=abX _ h5;omega
variable {ps:List (List Int)} {t:Option T}
abbrev WL (s:ByteArray) (L:List Iy) (F:List Sn) (tab:Nat) (wd:Int) (t:Option T):V:= .d (vwD (bF t) (cW (aa s 0).length (ct (aD L))) (.sd 2 false ((aH F).map bA)) zT wT tab wd)
end
end Go.Proofs.YtkkanlcjjpoklaaGreatDoor
