/- What the theorem leans on, part 26. -/
import Derived.Test.YtkkanlcjjpoklaaGreatDoorStVPAE
import Derived.Test.YtkkanlcjjpoklaaGreatDoorStVPAN
import Derived.Test.YtkkanlcjjpoklaaGreatDoorStVPAP
import Derived.Test.YtkkanlcjjpoklaaGreatDoorStVPAU
import Derived.Test.YtkkanlcjjpoklaaGreatDoorStVPAY
set_option linter.unusedSimpArgs false
set_option linter.unusedVariables false
set_option maxRecDepth 8000
namespace Go.Proofs.YtkkanlcjjpoklaaGreatDoor
def oo (n:Int) (x:Sn):Prop:=x.1<0∨x.2≤x.1∨n<x.2
instance (n:Int) (x:Sn):Decidable (oo n x):=by unfold oo;infer_instance
def e7 (n:Int):List Sn→List Sn→Int
 | _,[]=>0
 | seen,x::r=>if oo n x then 1 else if x∈seen then 8 else e7 n (seen++[x]) r
theorem sr (n:Int) : ∀(l seen:List Sn),e7 n seen l=0→(∀x∈l,¬oo n x∧x∉seen)∧l.Nodup
 | [],_,_=>⟨(fun _ h=>by cases h),adQ⟩
 | x::r,seen,h=>by
  rw [e7] at h;split at h
  ·cases h
  ·rename_i hb;split at h
   ·cases h
   ·rename_i hm;obtain ⟨h1,h2⟩:=sr n r _ h;refine ⟨fun y hy =>?_,acF.2 ⟨fun hx=>(h1 x hx).2 (by simp),h2⟩⟩;rcases abi.1 hy with rfl|hy
    ·exact ⟨hb,hm⟩
    ·exact ⟨(h1 y hy).1,fun k=>(h1 y hy).2 (by simp [k])⟩
def gH (x y:Sn):Prop:=x.1<y.1∨(x.1=y.1∧x.2<y.2)
instance:DecidableRel gH:=fun x y=>by unfold gH;infer_instance
theorem WO:Wk gH:=⟨fun x y h k=>by unfold gH at *;omega,fun x y z h k l=>by unfold gH at *;omega⟩
theorem WJ (x y z:Sn) (h:gH x y) (k:gH z x) (n : ¬gH z y):False:=by unfold gH at *;omega
def nm:Sn→List Sn→List Sn
 | c,[]=>[c]
 | c,x::r=>if x.1<c.2 then nm (c.1,max c.2 x.2) r else c::nm x r
def iY:List Sn→List Sn
 | []=>[]
 | c::r=>nm c r
theorem sA : ∀(r:List Sn) (c:Sn),(nm c r).length≤r.length+1
 | [],c=>aaV _
 | x::r,c=>by
  rw [nm];split
  ·have:=sA r (c.1,max c.2 x.2);simp only [aa6];omega
  ·have:=sA r x;simp only [aa6];omega
theorem K8 (l:List Sn):(iY l).length≤l.length:=by
 cases l with
 | nil=>exact aaV _
 | cons c r=>exact sA r c
theorem sB {n:Int} : ∀(r:List Sn) (c:Sn) (last:Int),last≤c.1→c.1<c.2→c.2≤n→(∀x∈r,c.1≤x.1∧x.1<x.2∧x.2≤n)→(r.Pairwise fun x y=>x.1≤y.1)→fS n last (nm c r)=true
 | [],c,last,h1,h2,h3,_,_=>bZ.2 ⟨⟨h1,h2,h3⟩,rfl⟩
 | x::r,c,last,h1,h2,h3,h4,h5=>by
  obtain ⟨p1,p2⟩:=abR.1 h5;have hx:=h4 x abj;rw [nm];split
  ·exact sB r _ last h1 (by show c.1<max c.2 x.2;omega) (by show max c.2 x.2≤n;omega) (fun y hy=>h4 y (abd _ hy)) p2
  ·exact bZ.2 ⟨⟨h1,h2,h3⟩,sB r x c.2 (by omega) hx.2.1 hx.2.2 (fun y hy=>⟨p1 y hy,(h4 y (abd _ hy)).2⟩) p2⟩
theorem K9 {n:Int} {l:List Sn} (h : ∀x∈l,¬oo n x) (hs:l.Pairwise fun x y=>x.1≤y.1):fS n 0 (iY l)=true:=by
 cases l with
 | nil=>rfl
 | cons c r=>
  obtain ⟨p1,p2⟩:=abR.1 hs;have hc:=h c abj;unfold oo at hc;refine sB r c 0 (by omega) (by omega) (by omega) (fun x hx =>?_) p2;have hx':=h x (abd _ hx);unfold oo at hx';exact ⟨p1 x hx,by omega,by omega⟩
abbrev eV (l:List Sn):List Sn:=BB gH l
theorem GH (l:List Sn):(eV l).Pairwise fun x y=>x.1≤y.1:=
 (yW gH WO WJ l.reverse l (by simp)).imp fun h=>by unfold gH at h;omega
theorem CN {l:List Sn} {x:Sn} : x∈eV l↔x∈l:=(oJ gH l.reverse l (by simp)).mem_iff
theorem CM (l:List Sn):(eV l).length=l.length:=np gH l.reverse l (by simp)
theorem fZ {n:Int} {l:List Sn} (h:e7 n [] l=0):fS n 0 (iY (eV l))=true:=
 K9 (fun x hx=>((sr n l [] h).1 x (CN.1 hx)).1) (GH l)
theorem OH (l:List Sn):(iY (eV l)).length≤l.length:=by
 have:=K8 (eV l);rwa [CM] at this
theorem KX (x:Sn) (n:Int) (h:0≤x.1∧x.1≤x.2∧x.2≤n):ap Tryz.prog G0 64 [.d (bA x),iv n] [] 0 (bv true) []:=by
 refine vF ab [0,1,2,4] Tryz.func64 rfl Tryz.results64 Tryz.ntmps64 ?_;(refine' Dq)
 rw [abw h.1,abw h.2.1,abw h.2.2];rfl
theorem sR (l:List Sn) (hl:0<l.length) (hl2:l.length≤100000):ap Tryz.prog G0 65 [.d (.sd 2 false (l.map bA))] [] 0 (.so 0 2 0 l.length) [(0,.row 2 (l.map bA))]:=by
 rcases l with _|⟨x,r⟩
 ·simp at hl
 simp only [abh];have hr:r.length≤100000:=by simp at hl2;omega
 refine vF ab [0,2,4] Tryz.func65 rfl Tryz.results65 Tryz.ntmps65 ?_;(refine' zg)
 refine ae.now [20] (by decide) ?_;(refine' zg)
 exact aj _
theorem BV:ap Tryz.prog G0 65 [.d aB] [] 0 (.d aB) []:=by
 refine vF ab [0,2,4] Tryz.func65 rfl Tryz.results65 Tryz.ntmps65 ?_;(refine' zo)
abbrev Bx (l:List Sn):List (Value × D):=l.map fun x=>(.agg #[.int .i64 x.1,.int .i64 x.2],.agg [])
theorem DX {a b c d:Int} : bG [.int .i64 a,.int .i64 b] [.int .i64 c,.int .i64 d]=true↔a=c∧b=d:=by
 simp [bG,se]
theorem Bf {a b:Int} : ∀ {l:List Sn},(a,b)∉l→eD [.int .i64,.int .i64] [.int .i64 a,.int .i64 b] (Bx l)=some none
 | [],_=>rfl
 | x::r,h=>by
  have ih:=Bf (l:=r) (fun k=>h (abd _ k));have hx : ¬(a=x.1∧b=x.2):=fun e=>h (by rw [e.1,e.2];exact abj)
  rw [show Bx (x::r)=(.agg #[.int .i64 x.1,.int .i64 x.2],.agg [])::Bx r from rfl,eD];rw [aa3 (show eY [CK.int .i64,CK.int .i64] #[Value.int .i64 x.1,Value.int .i64 x.2].toList=true from rfl),aaY (fun h=>hx (DX.1 h)),ih]
theorem OU:Ip Tryz.prog 156=none:=by kernel_rfl
theorem OT:Eu Tryz.prog 156=some (151,158):=by kernel_rfl
theorem Ln:iG Tryz.prog 158 [.int .i64,.int .i64]:=iG.of2 S4 (by kernel_rfl)
attribute [push_cast] OU OT Ln
def XW (n:Int) (l:List Sn) (k:Nat):St:=
 ⟨[(0,iv n),(1,.d (.sd 2 false (l.map bA))),(6,.mo 0),(27,.d (.sd 2 false (l.map bA))),(28,iv l.length),(29,iv k)],[(0,.map (Bx (l.take k)))],1⟩
def fdT (n:Int) (ys:List Sn) (x:Nat × List Sn):St:=
 ⟨[(11,.po 0 0),(70,.so 1 2 0 ys.length),(71,iv ys.length),(72,iv x.1)],[(0,.cell [iv n,.so 1 2 0 ys.length,.so 2 2 0 x.2.length]),(1,.row 2 (ys.map bA)),(2,.row 2 (x.2.map bA))],3⟩
attribute [push_cast] XW.eq_def fdT.eq_def
def Lb (h r:List Sn):List Sn:=match h.getLast? with
 | none=>iY r
 | some c=>h.dropLast++nm c r
theorem Lc (r:List Sn):Lb [] r=iY r:=rfl
theorem lf (h:List Sn) (c:Sn) (r:List Sn):Lb (h++[c]) r=h++nm c r:=by simp [Lb]
theorem m8 {α:Type} {l:List α} {k:Nat} {x:α} (h:l[k]? = some x):l.drop k=x::l.drop (k+1):=by
 obtain ⟨h1,rfl⟩:=aaX.1 h;exact abI h1
theorem pS (F:D→D) (x y:Sn) (h:F (bA x)=bA y) : ∀q:List Sn,((q++[x]).map bA).modify q.length F=(q++[y]).map bA
 | []=>by simp [h]
 | z::r=>by rw [abG,abh,aa6,List.modify_succ_cons,pS F x y h r];rfl
set_option maxHeartbeats 6400000 in
theorem KT (n:Int) (l:List Sn) (hn:0≤n∧n≤1099511627776) (hl:0<l.length) (hl2:l.length≤60) (he:e7 n [] l=0) :
 ∃ys:List Sn,(ys.Perm l∧cV gH 0 l.length ys)∧ap Tryz.prog G0 24 [iv n,.d (.sd 2 false (l.map bA))] [] 0 (.tup [.d (.pd 3 [.agg [iD n,.sd 2 false (ys.map bA),.sd 2 false ((iY ys).map bA)]] 0 0),iv 0]) []:=by
 have hS : ∃ys,(ys.Perm l∧cV gH 0 l.length ys)∧ap Tryz.prog G0 66 [.so 0 2 0 l.length,.d (.fn 67 [])] [(0,.row 2 (l.map bA))] 1 (.tup []) [(0,.row 2 (ys.map bA))]:=by
  obtain ⟨ys,⟨h1,h2⟩,hf⟩:=SrtSn.sort_ex l l.length rfl (by omega);exact ⟨ys,⟨h1,fun p q x y a b c d e k=>h2 p q x y a b c d e ((SrtSn.cB_lt y x).2 k)⟩,hf⟩
 obtain ⟨ys,⟨hp,hsr⟩,hf⟩:=hS;refine ⟨ys,⟨hp,hsr⟩,?_⟩;have hyl:ys.length=l.length:=hp.length_eq;have hc:=sR l hl (by omega);refine vF ab [0,1,4,5,6,8,10,11,13,14,15,22,27,28,29,30,45,52,70,71,72,73,96] Tryz.func24 rfl Tryz.results24 Tryz.ntmps24 ?_;(refine' zg)
 refine vL (lv:=[0,1,4,5,6,8,10,11,13,14,15,22,27,28,29,30,45,52,70,71,72,73,96]) ab (XW n l) (fun k=>k≤l.length∧e7 n (l.take k) (l.drop k)=0) (fun k=>l.length - k) (0) ((aC.go [0,1,6,27,28,29] (by exact vT) rfl)) ?_ ?_
 ·exact ⟨aa1 _,he⟩
 rintro k ⟨h1,h2⟩;rcases aa2 k l.length with hk|hk
 ·obtain ⟨x,hx⟩ : ∃x,l[k]? = some x:=⟨_,IO hk⟩
  rw [abI hk,(aaX.1 hx).2,e7] at h2;have hw : ¬oo n x:=fun h=>by rw [aa3 h] at h2;cases h2
  rw [aaY hw] at h2;have hm:x∉l.take k:=fun h=>by rw [aa3 h] at h2;cases h2
  rw [aaY hm] at h2;obtain ⟨a,b⟩:=x;simp only [oo] at hw;have hfe:=Bf hm;have r1:=KX (a,b) n ⟨by omega,by omega,by omega⟩;(refine' zg)
  refine aF.is k _ (by omega) hx ?_;(refine' Ng r1)
  rw [hfe];(refine' zg)
  rw [hfe];(refine' zg)
  have e2:Bx (l.take k)++[(Value.agg #[Value.int IntKind.i64 a,Value.int IntKind.i64 b],D.agg [])]=Bx (l.take (k+1)):=by
   rw [ao hx,Bx,Bx,abc];rfl
  rw [e2];refine aG.go (k+1) [0,1,6,27,28,29] (by exact vT) ?_ ?_
  ·show l.length - (k+1)<l.length - k;omega
  ·refine ⟨hk,?_⟩;rw [ao hx];exact h2
 ·obtain rfl:k=l.length:=by omega
  rw [XW,abC];(refine' Tb hc)
  refine au.put 13 hf (by kernel_rfl) rfl rfl rfl ?_;(refine' zg)
  rw [←hyl];refine vL (lv:=[0,1,4,5,6,8,10,11,13,14,15,22,27,28,29,30,45,52,70,71,72,73,96]) ab (fdT n ys) (fun x=>x.1≤ys.length∧x.2.length≤x.1∧Lb x.2 (ys.drop x.1)=iY ys) (fun x=>ys.length - x.1) ((0,[])) (aC.nilC 21 2 2<|(aC.go [11,70,71,72] (by exact vT) rfl)) ?_ ?_
  ·exact ⟨aa1 _,aaV _,rfl⟩
  rintro ⟨k,h⟩ ⟨g1,g2,g3⟩;simp only at g1 g2 g3;rcases aa2 k ys.length with hk|hk
  ·obtain ⟨x,hx⟩ : ∃x,ys[k]? = some x:=⟨_,IO hk⟩
   rw [m8 hx] at g3;rcases ab8 h with rfl|⟨D0,c,rfl⟩
   ·rw [Lc,iY] at g3;obtain ⟨a,b⟩:=x;have e1:[D.agg [iD a,iD b]]=([(a,b)]:List Sn).map bA:=rfl;(refine' uN hx)
    rw [e1];refine aG.go ((k+1,[(a,b)])) [11,70,71,72] (by exact vT) ?_ ?_
    ·show ys.length - (k+1)<ys.length - k;omega
    ·exact ⟨hk,by show 1≤k+1;omega,g3⟩
   ·obtain ⟨a,b⟩:=x;obtain ⟨c1,c2⟩:=c;rw [ab2] at g2 g3 ⊢;rw [lf,nm] at g3;have hcl:(D0++[(c1,c2)])[D0.length]? = some (c1,c2):=by simp
    have hql:(D0++[(c1,c2)]).length=D0.length+1:=by rw [Or,abk]
    have e2 : ∀v,(D0++[(c1,c2)]).set D0.length v=D0++[v]:=fun v=>by simp
    by_cases hlt:a<c2
    ·rw [aa3 hlt] at g3;generalize hq:D0++[(c1,c2)]=q at *
     (refine' wt hx hcl)
     first|rw [show ((q.length:Int) - 1).toNat=D0.length by omega]|rw [show q.length - 1=D0.length by omega]
     rw [←hq,pS _ (c1,c2) (c1,max c2 b) rfl,show (D0++[(c1,c2)]).length=(D0++[(c1,max c2 b)]).length by simp];refine aG.go ((k+1,D0++[(c1,max c2 b)])) [11,70,71,72] (by exact vT) ?_ ?_
     ·show ys.length - (k+1)<ys.length - k;omega
     ·refine ⟨hk,?_,?_⟩
      ·simp only [Or,abk] at hql g2 ⊢;omega
      ·rw [lf];exact g3
    ·rw [aaY hlt] at g3;have e3:(D0++[(c1,c2)]).map bA++[D.agg [iD a,iD b]]=(D0++[(c1,c2)]++[(a,b)]).map bA:=(abc (l₁:=D0++[(c1,c2)]) (l₂:=[(a,b)])).symm;have e4:Lb (D0++[(c1,c2)]++[(a,b)]) (ys.drop (k+1))=iY ys:=by rw [lf,aba];exact g3
     have e5:(D0++[(c1,c2)]++[(a,b)]).length≤k+1:=by simp only [Or,abk] at g2 ⊢;omega
     generalize hq:D0++[(c1,c2)]=q at *
     (refine' wt hx hcl)
     rw [e3,aa4];refine aG.go ((k+1,q++[(a,b)])) [11,70,71,72] (by exact vT) ?_ ?_
     ·show ys.length - (k+1)<ys.length - k;omega
     ·exact ⟨hk,e5,e4⟩
  ·have hh:h=iY ys:=by
    rw [abo hk] at g3;rcases ab8 h with rfl|⟨D0,c,rfl⟩
    ·exact g3
    ·rw [ab2,lf,nm] at g3;rw [ab2];exact g3
   (refine' zg)
   refine ae.frz 2 (ae.frz 1 (ae.frz 0 (ae.out ?_)));(refine' zg)
   all_goals (try rw [aaW (by simp)])
   all_goals (try rw [aaW (by simp)])
   all_goals (try rw [hh])
theorem Ex:ap Tryz.prog G0 65 [.d (.ne 2)] [] 0 (.d (.sd 2 false [])) []:=by
 refine vF ab [0,2,4] Tryz.func65 rfl Tryz.results65 Tryz.ntmps65 ?_;(refine' zg)
 refine ae.frz 20 (ae.out ?_);(refine' zg)
theorem xh:ap Tryz.prog G0 65 [.d (.sd 2 false [])] [] 0 (.d (.sd 2 false [])) []:=ap.nilOr 2 false (ap.nil 2 false BV) Ex
theorem LI:ap Tryz.prog G0 66 [.d (.sd 2 false []),.d (.fn 67 [])] [] 0 (.tup []) []:=wY G0 M0 300 (by kernel_rfl)
theorem Ot (n:Int) (hn:0≤n∧n≤1099511627776):ap Tryz.prog G0 24 [iv n,.d (.sd 2 false [])] [] 0 (.tup [.d (.pd 3 [.agg [iD n,.sd 2 false [],.sd 2 false []]] 0 0),iv 0]) []:=by
 have r1:=xh;have r2:=LI;refine vF ab [0,1,4,5,6,8,10,11,13,14,15,22,27,28,29,30,45,52,70,71,72,73,96] Tryz.func24 rfl Tryz.results24 Tryz.ntmps24 ?_;(refine' Ax r1 r2)
 refine vL (lv:=[0,1,4,5,6,8,10,11,13,14,15,22,27,28,29,30,45,52,70,71,72,73,96]) ab (fun _:Unit=>(⟨[(0,iv n),(1,.d (.sd 2 false [])),(6,.mo 0),(27,.d (.sd 2 false [])),(28,iv 0),(29,iv 0)],[(0,.map [])],1⟩:St)) (fun _=>True) (fun _=>0) (()) ((aC.go [0,1,6,27,28,29] (by exact vT) rfl)) ?_ ?_
 ·trivial
 rintro ⟨⟩ -
 (refine' Ax r1 r2)
 refine vL (lv:=[0,1,4,5,6,8,10,11,13,14,15,22,27,28,29,30,45,52,70,71,72,73,96]) ab (fun _:Unit=>(⟨[(11,.po 0 0),(70,.d (.sd 2 false [])),(71,iv 0),(72,iv 0)],[(0,.cell [iv n,.d (.sd 2 false []),.so 1 2 0 0]),(1,.row 2 [])],2⟩:St)) (fun _=>True) (fun _=>0) (()) (aC.nilC 21 2 2<|(aC.go [11,70,71,72] (by exact vT) rfl)) ?_ ?_
 ·trivial
 rintro ⟨⟩ -
 (refine' zg)
 refine ae.frz 1 (ae.frz 0 (ae.out ?_));(refine' zg)
 all_goals rfl
abbrev JH (n:Int) (l:List Sn):D:= .pd 3 [.agg [iD n,.sd 2 false ((eV l).map bA),.sd 2 false ((iY (eV l)).map bA)]] 0 0
theorem KU (n:Int) (l:List Sn) (hn:0≤n∧n≤1099511627776) (hl2:l.length≤60) (he:e7 n [] l=0) :
 ap Tryz.prog G0 24 [iv n,.d (.sd 2 false (l.map bA))] [] 0 (.tup [.d (JH n l),iv 0]) []:=by
 rcases l with _|⟨x,t⟩
 ·exact Ot n hn
 ·obtain ⟨ys,⟨hp,hs⟩,hf⟩:=KT n (x::t) hn (by simp) hl2 he;have e:ys=eV (x::t):=H9 gH WO WJ hp hs fun a b _ _ h1 h2=>by
   unfold gH at h1 h2;exact Prod.ext (by omega) (by omega)
  rw [e] at hf;exact hf
theorem F2 (n:Int) (x:D) (H:List Sn) (hl:H.length≤100000):ap Tryz.prog G0 70 [.d (.pd 3 [.agg [iD n,x,.sd 2 false (H.map bA)]] 0 0)] [] 0 (.d (.sd 2 false (H.map bA))) []:=by
 rcases H with _|⟨y,t⟩
 ·have r1:=xh;simp only [acl];refine vF ab [0,2,4] Tryz.func70 rfl Tryz.results70 Tryz.ntmps70 ?_;(refine' lK r1)
 ·have r1:=sR (y::t) (by simp) hl;simp only [abh] at r1 ⊢;refine vF ab [0,2,4] Tryz.func70 rfl Tryz.results70 Tryz.ntmps70 ?_;(refine' Tb r1)
  refine ae.frz 28 (ae.out ?_);(refine' zg)
  all_goals (try rw [aaW (by simp)])
abbrev PA (l:List Sn):bN:= .row 2 (l.map bA)
theorem qV (es:List Sn) (x:Sn):es.map bA++[bA x]=(es++[x]).map bA:=by rw [abc];rfl
def D3 (n:Int) (l:List Sn):V:=if e7 n [] l=0 then .d (.agg [iD n,.sd 2 false ((eV l).map bA),iD 0]) else .d (.agg [iD 0,aB,iD (e7 n [] l)])
def SP (n:Int) (l:List Sn) (k:Nat):St:=
 ⟨[(0,iv n),(1,zF l),(4,.po 0 0),(5,.so 1 2 0 (eV (l.take k)).length),(25,zF l),(26,iv l.length),(27,iv k)],[(0,.cell [iv 0,.d aB,iv 0]),(1,PA (eV (l.take k)))],2⟩
def rfU (n:Int) (l:List Sn) (k:Nat) (out:List Sn) (x:Sn) (j:Nat):St:=
 ⟨[(0,iv n),(1,zF l),(4,.po 0 0),(5,.so 1 2 0 out.length),(7,.po 2 0),(25,zF l),(26,iv l.length),(27,iv k),(51,.d (.sd 2 false ((l.take k).map bA))),(52,iv k),(53,iv j)],
  [(0,.cell [iv 0,.d aB,iv 0]),(1,PA out),(2,.cell [iv x.1,iv x.2])],3⟩
def rfI (n:Int) (l:List Sn) (k:Nat) (x:Sn) (out:List Sn) (z:Nat × Bool × List Sn):St:=
 ⟨[(0,iv n),(1,zF l),(4,.po 0 0),(7,.po 1 0),(10,.so 2 2 0 z.2.2.length),(11,bv z.2.1),(25,zF l),(26,iv l.length),(27,iv k),(62,.so 3 2 0 out.length),(63,iv out.length),(64,iv z.1)],
  [(0,.cell [iv 0,.d aB,iv 0]),(1,.cell [iv x.1,iv x.2]),(2,PA z.2.2),(3,PA out)],4⟩
attribute [push_cast] SP.eq_def rfU.eq_def rfI.eq_def
structure RfP (x:Sn) (out:List Sn) (z:Nat × Bool × List Sn):Prop where
 le:z.1≤out.length
 len:z.2.2.length≤2*z.1
 fin:z.2.2++(if z.2.1=true then out.drop z.1 else mh gH x (out.drop z.1))=mh gH x out
set_option maxHeartbeats 6400000 in
theorem A6 (n:Int) (hn:0≤n∧n≤1099511627776) (l:List Sn) (hl2:l.length≤60):ap Tryz.prog G0 45 [iv n,zF l] [] 0 (D3 n l) []:=by
 refine vF ab [0,1,4,5,6,7,9,10,11,13,19,23,25,26,27,28,47,51,52,53,54,59,62,63,64,65,90,101] Tryz.func45 rfl Tryz.results45 Tryz.ntmps45 ?_;(refine' zg)
 refine vL (lv:=[0,1,4,5,6,7,9,10,11,13,19,23,25,26,27,28,47,51,52,53,54,59,62,63,64,65,90,101]) ab (SP n l) (fun k=>k≤l.length∧e7 n (l.take k) (l.drop k)=e7 n [] l) (fun k=>l.length - k) (0) (aC.nil 5 2<|(aC.go [0,1,4,5,25,26,27] (by exact vT) rfl)) ?_ ?_
 ·exact ⟨aa1 _,rfl⟩
 rintro k ⟨h1,h2⟩;have hal:(eV (l.take k)).length=k:=by rw [np gH (l.take k).reverse _ (by simp),aa7];omega
 rcases aa2 k l.length with hk|hk
 ·obtain ⟨x,hx⟩ : ∃x,l[k]? = some x:=⟨_,IO hk⟩
  rw [abI hk,(aaX.1 hx).2,e7] at h2;have hins:eV (l.take (k+1))=mh gH x (eV (l.take k)):=by rw [ao hx];exact li ..
  have hids:l.take (k+1)=l.take k++[x]:=ao hx;by_cases hw:oo n x
  ·rw [aa3 hw] at h2;obtain ⟨a,b⟩:=x;simp only [oo] at hw;(refine' zg)
   refine aF.is k _ (by omega) hx ?_;(refine' Dq)
   all_goals rw [D3,←h2,aaY (by decide)]
  ·rw [aaY hw] at h2;obtain ⟨a,b⟩:=x;simp only [oo] at hw;(refine' zg)
   refine aF.is k _ (by omega) hx ?_;(refine' JC)
   rw [←acn,show ((l.take k).map bA).length=k by rw [aa4,aa7];omega];refine vL (lv:=[0,1,4,5,6,7,9,10,11,13,19,23,25,26,27,28,47,51,52,53,54,59,62,63,64,65,90,101]) ab (rfU n l k (eV (l.take k)) (a,b)) (fun j=>j≤k ∧ ∀(q:Nat) y,q<j→l[q]? = some y→y≠(a,b)) (fun j=>k - j) (0) ((aC.go [0,1,4,5,7,25,26,27,51,52,53] (by exact vT) rfl)) ?_ ?_
   ·exact ⟨aa1 _,fun q y h=>by omega⟩
   rintro j ⟨g1,g2⟩;rcases aa2 j k with hj|hj
   ·obtain ⟨y,hy⟩ : ∃y,l[j]? = some y:=⟨_,IO (by omega)⟩
    have hy':(l.take k)[j]? = some y:=by rw [adi hj];exact hy
    obtain ⟨y1,y2⟩:=y;(refine' Tx hy')
    ·have hm:(a,b)∈l.take k:=by have:=aa0 hy';rw [show (a,b)=(y1,y2) from Prod.ext (by omega) (by omega)];exact this
     rw [aa3 hm] at h2;rw [D3,←h2,aaY (by decide)]
    ·refine aG.go (j+1) [0,1,4,5,7,25,26,27,51,52,53] (by exact vT) ?_ ?_
     ·show k - (j+1)<k - j;omega
     ·refine ⟨hj,fun q z hq hz =>?_⟩;by_cases e:q=j
      ·subst e;rw [hy] at hz;injection hz with hz;subst hz;intro e2;injection e2 with e3 e4;omega
      ·exact g2 q z (by omega) hz
   ·have hm:(a,b)∉l.take k:=fun h=>by
     obtain ⟨q,hq⟩:=ab6 h;have hqk:q<k:=by
      have:=(aaX.1 hq).1;rw [aa7] at this;omega
     rw [adi hqk] at hq;exact g2 q _ (by omega) hq rfl
    rw [aaY hm,←hids] at h2;(refine' zg)
    generalize hout:eV (l.take k)=out at *
    refine vL (lv:=[0,1,4,5,6,7,9,10,11,13,19,23,25,26,27,28,47,51,52,53,54,59,62,63,64,65,90,101]) ab (rfI n l k (a,b) out) (RfP (a,b) out) (fun z=>out.length - z.1) ((0,false,[])) (aC.nil 10 2<|(aC.go [0,1,4,7,10,11,25,26,27,62,63,64] (by exact vT) rfl)) ?_ ?_
    ·exact ⟨aa1 _,aa1 _,rfl⟩
    rintro ⟨i,p,es⟩ ⟨g1,g2,g3⟩;simp only at g1 g2 g3;rcases aa2 i out.length with hi|hi
    ·obtain ⟨y,hy⟩ : ∃y,out[i]? = some y:=⟨_,IO hi⟩
     obtain ⟨y1,y2⟩:=y;rw [m8 hy] at g3;have e1:es.map bA++[D.agg [iD y1,iD y2]]=(es++[(y1,y2)]).map bA:=qV es (y1,y2);have e0:es.map bA++[D.agg [D.lit (Value.int IntKind.i64 a),D.lit (Value.int IntKind.i64 b)]]=(es++[(a,b)]).map bA:=qV es (a,b);have e2:(es++[(a,b)]).map bA++[D.agg [iD y1,iD y2]]=(es++[(a,b)]++[(y1,y2)]).map bA:=qV _ (y1,y2);cases p with
     | true=>
      (refine' jY hy)
      rw [e1,aa4];refine aG.go ((i+1,true,es++[(y1,y2)])) [0,1,4,7,10,11,25,26,27,62,63,64] (by exact vT) ?_ ?_
      ·show out.length - (i+1)<out.length - i;omega
      ·exact ⟨hi,by simp only [Or,aa6,abt];omega,by rw [←g3];simp⟩
     | false=>
      by_cases hlt:gH (a,b) (y1,y2)
      ·have hq:a<y1∨(a=y1∧b<y2):=hlt;(refine' uN hy)
       rw [e0,e2,aa4];refine aG.go ((i+1,true,es++[(a,b)]++[(y1,y2)])) [0,1,4,7,10,11,25,26,27,62,63,64] (by exact vT) ?_ ?_
       ·show out.length - (i+1)<out.length - i;omega
       ·refine ⟨hi,by simp only [Or,aa6,abt];omega,?_⟩;rw [←g3];simp only [aa9,ab1,ab0];rw [mh,aa3 hlt];simp
      ·have hq : ¬(a<y1∨(a=y1∧b<y2)):=hlt;(refine' uN hy)
       rw [e1,aa4];refine aG.go ((i+1,false,es++[(y1,y2)])) [0,1,4,7,10,11,25,26,27,62,63,64] (by exact vT) ?_ ?_
       ·show out.length - (i+1)<out.length - i;omega
       ·refine ⟨hi,by simp only [Or,aa6,abt];omega,?_⟩;rw [←g3];simp only [aa9,ab1];rw [mh,aaY hlt];simp
    ·rw [abo hi] at g3;have e0:es.map bA++[D.agg [D.lit (Value.int IntKind.i64 a),D.lit (Value.int IntKind.i64 b)]]=(es++[(a,b)]).map bA:=qV es (a,b);cases p with
     | true=>
      (refine' zg)
      have hfin:es=eV (l.take (k+1)):=by
       rw [hins];simp only [ab0,abb] at g3;exact g3
      rw [hfin];refine aG.go (k+1) [0,1,4,5,25,26,27] (by exact vT) ?_ ?_
      ·show l.length - (k+1)<l.length - k;omega
      ·exact ⟨hk,h2⟩
     | false=>
      (refine' zg)
      have hfin:es++[(a,b)]=eV (l.take (k+1)):=by
       rw [hins];simp only [aa9,ab1,mh] at g3;exact g3
      rw [e0,hfin,aa4];refine aG.go (k+1) [0,1,4,5,25,26,27] (by exact vT) ?_ ?_
      ·show l.length - (k+1)<l.length - k;omega
      ·exact ⟨hk,h2⟩
 ·obtain rfl:k=l.length:=by omega
  rw [acY,e7] at h2;rw [SP,abC];(refine' zg)
  refine ae.frz 1 (ae.out ?_);(refine' zg)
  rw [D3,←h2,aa3 rfl];all_goals (try rw [aaW (by simp)])
theorem O3 (x y:Sn):ap Tryz.prog G0 98 [.d (bA x),.d (bA y)] [] 0 (bv (decide (x.1<y.2)&&decide (y.1<x.2))) []:=by
 refine vF ab [0,1,2,3,4] Tryz.func98 rfl Tryz.results98 Tryz.ntmps98 ?_;(refine' Dq)
def TO (x:Nat × List Sn):St:=⟨[(3,zF x.2),(4,iv x.1)],[],0⟩
attribute [push_cast] TO.eq_def
def D9 (l:List Sn) (i:Nat):List Sn:=match l.drop i with
 | []=>l.take i
 | c::r=>l.take i++nm c r
structure DhP (l:List Sn) (x:Nat × List Sn):Prop where
 le:x.1≤x.2.length
 len:x.2.length≤l.length
 so:x.2.Pairwise fun a b=>a.1≤b.1
 ne : ∀a∈x.2,a.1<a.2
 fin:D9 x.2 x.1=iY l
set_option maxHeartbeats 6400000 in
theorem KD (n e:Int) (l:List Sn) (hl:l.length≤1000) (hs:l.Pairwise fun a b=>a.1≤b.1) (hne : ∀a∈l,a.1<a.2):ap Tryz.prog G0 46 [.d (.agg [iD n,.sd 2 false (l.map bA),iD e])] [] 0 (.d (.sd 2 false ((iY l).map bA))) []:=by
 refine vF ab [0,1,2,3,4,5,6,15,26,41] Tryz.func46 rfl Tryz.results46 Tryz.ntmps46 ?_;(refine' zg)
 refine vL (lv:=[0,1,2,3,4,5,6,15,26,41]) ab TO (DhP l) (fun x=>2*x.2.length - x.1) (0,l) (aC.frz 24<|aC.go [3,4] (by (refine vR ?_);rw [aaW (by simp)]) rfl) ?_ ?_
 ·exact ⟨aa1 _,aaV _,hs,hne,by cases l<;>rfl⟩
 rintro ⟨i,q⟩ ⟨g1,g2,g3,g4,g5⟩;simp only at g1 g2 g3 g4 g5;rcases aa2 (i+1) q.length with hk|hk
 ·obtain ⟨c,hc⟩ : ∃c,q[i]? = some c:=⟨_,IO (by omega)⟩
  obtain ⟨x,hx⟩ : ∃x,q[i+1]? = some x:=⟨_,IO hk⟩
  have r1:=O3 c x;have d1:=m8 hc;have d2:=m8 hx;have hcx:=acH.1 g3 i (i+1) (by omega) hk (by omega);rw [(aaX.1 hc).2,(aaX.1 hx).2] at hcx;have hc2:=g4 c (aa0 hc);have hx2:=g4 x (aa0 hx);rw [D9,d1] at g5;simp only at g5;rw [d2,nm] at g5;obtain ⟨c1,c2⟩:=c;obtain ⟨x1,x2⟩:=x;simp only at hcx hc2 hx2 g5 r1;rw [abw (by omega:c1<x2),aef] at r1;by_cases ho:x1<c2
  ·rw [aa3 ho] at g5;rw [abw ho] at r1;have fin : ∀v:Int,v=max c2 x2→DhP l (i,q.take i++[(c1,v)]++q.drop (i+2)):=fun v hv=>by
    have hti:(q.take i).length=i:=by rw [aa7];omega
    have hsub : ∀a,a∈q.take i∨a∈q.drop (i+2)→a∈q:=fun a ha=>ha.elim abm abU
    have hsp:q=q.take i++(c1,c2)::(x1,x2)::q.drop (i+2):=by
     conv=>lhs;rw [←abf i q,d1,d2]
    have hp:=g3;rw [hsp] at hp;obtain ⟨p1,p2,p3⟩:=acK.1 hp;obtain ⟨p4,p5⟩:=abR.1 p2;obtain ⟨p6,p7⟩:=abR.1 p5;refine ⟨by simp only [Or,abk];omega,?_,?_,fun a ha =>?_,?_⟩
    ·have:=congrArg List.length hsp;simp only [Or,aa6,abt] at this ⊢;omega
    ·show ((q.take i++[(c1,v)])++q.drop (i+2)).Pairwise _;rw [aba];refine acK.2 ⟨p1,abR.2 ⟨fun a ha=>p4 a (abd _ ha),p7⟩,fun a ha b hb =>?_⟩;rcases abi.1 hb with rfl|hb
     ·exact p3 a ha (c1,c2) abj
     ·exact p3 a ha b (abd _ (abd _ hb))
    ·have ha:a∈q.take i++[(c1,v)]++q.drop (i+2):=ha;rw [aba] at ha;rcases abe.1 ha with ha|ha
     ·exact g4 a (hsub a (.inl ha))
     ·rcases abi.1 ha with rfl|ha
      ·show c1<v;omega
      ·exact g4 a (hsub a (.inr ha))
    ·show D9 (q.take i++[(c1,v)]++q.drop (i+2)) i=iY l;rw [←g5,hv,aba,D9,List.drop_left' hti,List.take_left' hti];rfl
   have el:(q.take i).map bA=List.take i (q.map bA):=acn;have er:(q.drop (i+2)).map bA=List.drop ((i:Int)+2).toNat (q.map bA):=by rw [show ((i:Int)+2).toNat=i+2 by omega];exact adj
   have em : ∀v:Int,List.take i (q.map bA)++[D.agg [iD c1,iD v]]++List.drop ((i:Int)+2).toNat (q.map bA)=(q.take i++[(c1,v)]++q.drop (i+2)).map bA:=fun v=>by
    rw [abc,abc,el,er];rfl
   have hmu : ∀v:Int,2*(q.take i++[(c1,v)]++q.drop (i+2)).length - i<2*q.length - i:=fun v=>by
    simp only [Or,aa7,abg,abk];omega
   (refine' WT r1 hc hx)
   ·rw [em];refine aG.frz 240 ?_;refine aG.go (i,q.take i++[(c1,x2)]++q.drop (i+2)) [3,4] (by (refine vR ?_);rw [aaW (by simp)]) ?_ ?_
    ·exact hmu x2
    ·exact fin x2 (by omega)
   ·rw [em];refine aG.frz 212 ?_;refine aG.go (i,q.take i++[(c1,c2)]++q.drop (i+2)) [3,4] (by (refine vR ?_);rw [aaW (by simp)]) ?_ ?_
    ·exact hmu c2
    ·exact fin c2 (by omega)
  ·rw [aaY ho] at g5;rw [abM ho] at r1;(refine' WT r1 hc hx)
   refine aG.go ((i+1,q)) [3,4] (by exact vT) ?_ ?_
   ·show 2*q.length - (i+1)<2*q.length - i;omega
   ·refine ⟨by show i+1≤q.length;omega,g2,g3,g4,?_⟩;show D9 q (i+1)=iY l;rw [←g5,D9,d2];show q.take (i+1)++nm (x1,x2) (q.drop (i+1+1))=_;rw [ao hc];simp
 ·have hq:q=iY l:=by
   rw [←g5,D9];rcases aa2 i q.length with hk2|hk2
   ·obtain ⟨c,hc⟩ : ∃c,q[i]? = some c:=⟨_,IO hk2⟩
    rw [m8 hc,abo (by omega)];show q=q.take i++[c]
    rw [←ao hc,aaW (by omega)]
   ·rw [abo hk2];show q=q.take i;rw [aaW hk2]
  subst hq;(refine' zo)
end Go.Proofs.YtkkanlcjjpoklaaGreatDoor
