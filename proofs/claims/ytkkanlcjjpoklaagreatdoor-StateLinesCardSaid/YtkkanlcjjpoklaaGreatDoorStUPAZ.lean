/- What the theorem leans on, part 26. -/
import Derived.Test.YtkkanlcjjpoklaaGreatDoorStUPAE
import Derived.Test.YtkkanlcjjpoklaaGreatDoorStUPAN
import Derived.Test.YtkkanlcjjpoklaaGreatDoorStUPAP
import Derived.Test.YtkkanlcjjpoklaaGreatDoorStUPAU
import Derived.Test.YtkkanlcjjpoklaaGreatDoorStUPAY
set_option linter.unusedSimpArgs false
set_option linter.unusedVariables false
set_option maxRecDepth 8000
namespace Go.Proofs.YtkkanlcjjpoklaaGreatDoor
def nr (n:Int) (x:Sn):Prop:=x.1<0∨x.2≤x.1∨n<x.2
instance (n:Int) (x:Sn):Decidable (nr n x):=by unfold nr;infer_instance
def ez (n:Int):List Sn→List Sn→Int
 | _,[]=>0
 | seen,x::r=>if nr n x then 1 else if x∈seen then 8 else ez n (seen++[x]) r
theorem rj (n:Int) : ∀(l seen:List Sn),ez n seen l=0→(∀x∈l,¬nr n x∧x∉seen)∧l.Nodup
 | [],_,_=>⟨(fun _ h=>by cases h),List.nodup_nil⟩
 | x::r,seen,h=>by
  rw [ez] at h;split at h
  ·cases h
  ·rename_i hb;split at h
   ·cases h
   ·rename_i hm;obtain ⟨h1,h2⟩:=rj n r _ h;refine ⟨fun y hy =>?_,List.nodup_cons.2 ⟨fun hx=>(h1 x hx).2 (by simp),h2⟩⟩;rcases List.mem_cons.1 hy with rfl|hy
    ·exact ⟨hb,hm⟩
    ·exact ⟨(h1 y hy).1,fun k=>(h1 y hy).2 (by simp [k])⟩
def f8 (x y:Sn):Prop:=x.1<y.1∨(x.1=y.1∧x.2<y.2)
instance:DecidableRel f8:=fun x y=>by unfold f8;infer_instance
theorem TX:Wk f8:=⟨fun x y h k=>by unfold f8 at *;omega,fun x y z h k l=>by unfold f8 at *;omega⟩
theorem TU (x y z:Sn) (h:f8 x y) (k:f8 z x) (n : ¬f8 z y):False:=by unfold f8 at *;omega
def mB:Sn→List Sn→List Sn
 | c,[]=>[c]
 | c,x::r=>if x.1<c.2 then mB (c.1,max c.2 x.2) r else c::mB x r
def hP:List Sn→List Sn
 | []=>[]
 | c::r=>mB c r
theorem rq : ∀(r:List Sn) (c:Sn),(mB c r).length≤r.length+1
 | [],c=>Nat.le_refl _
 | x::r,c=>by
  rw [mB];split
  ·have:=rq r (c.1,max c.2 x.2);simp only [List.length_cons];omega
  ·have:=rq r x;simp only [List.length_cons];omega
theorem Ja (l:List Sn):(hP l).length≤l.length:=by
 cases l with
 | nil=>exact Nat.le_refl _
 | cons c r=>exact rq r c
theorem rr {n:Int} : ∀(r:List Sn) (c:Sn) (last:Int),last≤c.1→c.1<c.2→c.2≤n→(∀x∈r,c.1≤x.1∧x.1<x.2∧x.2≤n)→(r.Pairwise fun x y=>x.1≤y.1)→jp n last (mB c r)=true
 | [],c,last,h1,h2,h3,_,_=>eh.2 ⟨⟨h1,h2,h3⟩,rfl⟩
 | x::r,c,last,h1,h2,h3,h4,h5=>by
  obtain ⟨p1,p2⟩:=List.pairwise_cons.1 h5;have hx:=h4 x List.mem_cons_self;rw [mB];split
  ·exact rr r _ last h1 (by show c.1<max c.2 x.2;omega) (by show max c.2 x.2≤n;omega) (fun y hy=>h4 y (List.mem_cons_of_mem _ hy)) p2
  ·exact eh.2 ⟨⟨h1,h2,h3⟩,rr r x c.2 (by omega) hx.2.1 hx.2.2 (fun y hy=>⟨p1 y hy,(h4 y (List.mem_cons_of_mem _ hy)).2⟩) p2⟩
theorem Jb {n:Int} {l:List Sn} (h : ∀x∈l,¬nr n x) (hs:l.Pairwise fun x y=>x.1≤y.1):jp n 0 (hP l)=true:=by
 cases l with
 | nil=>rfl
 | cons c r=>
  obtain ⟨p1,p2⟩:=List.pairwise_cons.1 hs;have hc:=h c List.mem_cons_self;unfold nr at hc;refine rr r c 0 (by omega) (by omega) (by omega) (fun x hx =>?_) p2;have hx':=h x (List.mem_cons_of_mem _ hx);unfold nr at hx';exact ⟨p1 x hx,by omega,by omega⟩
abbrev d6 (l:List Sn):List Sn:=zG f8 l
theorem EP (l:List Sn):(d6 l).Pairwise fun x y=>x.1≤y.1:=
 (xx f8 TX TU l.reverse l (by simp)).imp fun h=>by unfold f8 at h;omega
theorem A6 {l:List Sn} {x:Sn} : x∈d6 l↔x∈l:=(nM f8 l.reverse l (by simp)).mem_iff
theorem A5 (l:List Sn):(d6 l).length=l.length:=mC f8 l.reverse l (by simp)
theorem Eb {n:Int} {l:List Sn} (h:ez n [] l=0):jp n 0 (hP (d6 l))=true:=
 Jb (fun x hx=>((rj n l [] h).1 x (A6.1 hx)).1) (EP l)
theorem Mk (l:List Sn):(hP (d6 l)).length≤l.length:=by
 have:=Ja (d6 l);rwa [A5] at this
theorem IU (x:Sn) (n:Int) (h:0≤x.1∧x.1≤x.2∧x.2≤n):an Tryz.prog G0 64 [.d (bA x),iv n] [] 0 (bv true) []:=by
 refine vF ab [0,1,2,4] Tryz.func64 rfl Tryz.results64 Tryz.ntmps64 ?_;(refine' BD)
 rw [decide_eq_true h.1,decide_eq_true h.2.1,decide_eq_true h.2.2];rfl
theorem rM (l:List Sn) (hl:0<l.length) (hl2:l.length≤100000):an Tryz.prog G0 65 [.d (.sd 2 false (l.map bA))] [] 0 (.so 0 2 0 l.length) [(0,.row 2 (l.map bA))]:=by
 rcases l with _|⟨x,r⟩
 ·simp at hl
 simp only [List.map_cons];have hr:r.length≤100000:=by simp at hl2;omega
 refine vF ab [0,2,4] Tryz.func65 rfl Tryz.results65 Tryz.ntmps65 ?_;(refine' zg)
 refine ae.now [20] (by decide) ?_;(refine' zg)
 exact aj _
theorem Aa:an Tryz.prog G0 65 [.d aB] [] 0 (.d aB) []:=by
 refine vF ab [0,2,4] Tryz.func65 rfl Tryz.results65 Tryz.ntmps65 ?_;(refine' zo)
abbrev zE (l:List Sn):List (Value × D):=l.map fun x=>(.agg #[.int .i64 x.1,.int .i64 x.2],.agg [])
theorem Ca {a b c d:Int} : bB [.int .i64 a,.int .i64 b] [.int .i64 c,.int .i64 d]=true↔a=c∧b=d:=by
 simp [bB,q8]
theorem zj {a b:Int} : ∀ {l:List Sn},(a,b)∉l→d8 [.int .i64,.int .i64] [.int .i64 a,.int .i64 b] (zE l)=some none
 | [],_=>rfl
 | x::r,h=>by
  have ih:=zj (l:=r) (fun k=>h (List.mem_cons_of_mem _ k));have hx : ¬(a=x.1∧b=x.2):=fun e=>h (by rw [e.1,e.2];exact List.mem_cons_self)
  rw [show zE (x::r)=(.agg #[.int .i64 x.1,.int .i64 x.2],.agg [])::zE r from rfl,d8];rw [if_pos (show ey [CK.int .i64,CK.int .i64] #[Value.int .i64 x.1,Value.int .i64 x.2].toList=true from rfl),if_neg (fun h=>hx (Ca.1 h)),ih]
theorem Mw:Gt Tryz.prog 156=none:=by kernel_rfl
theorem Mv:CD Tryz.prog 156=some (151,158):=by kernel_rfl
theorem Jr:gO Tryz.prog 158 [.int .i64,.int .i64]:=gO.of2 Qr (by kernel_rfl)
attribute [push_cast] Mw Mv Jr
def UX (n:Int) (l:List Sn) (k:Nat):St:=
 ⟨[(0,iv n),(1,.d (.sd 2 false (l.map bA))),(6,.mo 0),(27,.d (.sd 2 false (l.map bA))),(28,iv l.length),(29,iv k)],[(0,.map (zE (l.take k)))],1⟩
def XT (n:Int) (ys:List Sn) (x:Nat × List Sn):St:=
 ⟨[(11,.po 0 0),(70,.so 1 2 0 ys.length),(71,iv ys.length),(72,iv x.1)],[(0,.cell [iv n,.so 1 2 0 ys.length,.so 2 2 0 x.2.length]),(1,.row 2 (ys.map bA)),(2,.row 2 (x.2.map bA))],3⟩
attribute [push_cast] UX.eq_def XT.eq_def
def Jd (h r:List Sn):List Sn:=match h.getLast? with
 | none=>hP r
 | some c=>h.dropLast++mB c r
theorem Je (r:List Sn):Jd [] r=hP r:=rfl
theorem km (h:List Sn) (c:Sn) (r:List Sn):Jd (h++[c]) r=h++mB c r:=by simp [Jd]
theorem mi {α:Type} {l:List α} {k:Nat} {x:α} (h:l[k]? = some x):l.drop k=x::l.drop (k+1):=by
 obtain ⟨h1,rfl⟩:=List.getElem?_eq_some_iff.1 h;exact List.drop_eq_getElem_cons h1
theorem oW (F:D→D) (x y:Sn) (h:F (bA x)=bA y) : ∀q:List Sn,((q++[x]).map bA).modify q.length F=(q++[y]).map bA
 | []=>by simp [h]
 | z::r=>by rw [List.cons_append,List.map_cons,List.length_cons,List.modify_succ_cons,oW F x y h r];rfl
set_option maxHeartbeats 6400000 in
theorem IP (n:Int) (l:List Sn) (hn:0≤n∧n≤1099511627776) (hl:0<l.length) (hl2:l.length≤60) (he:ez n [] l=0) :
 ∃ys:List Sn,(ys.Perm l∧cI f8 0 l.length ys)∧an Tryz.prog G0 24 [iv n,.d (.sd 2 false (l.map bA))] [] 0 (.tup [.d (.pd 3 [.agg [iD n,.sd 2 false (ys.map bA),.sd 2 false ((hP ys).map bA)]] 0 0),iv 0]) []:=by
 have hS : ∃ys,(ys.Perm l∧cI f8 0 l.length ys)∧an Tryz.prog G0 66 [.so 0 2 0 l.length,.d (.fn 67 [])] [(0,.row 2 (l.map bA))] 1 (.tup []) [(0,.row 2 (ys.map bA))]:=by
  obtain ⟨ys,⟨h1,h2⟩,hf⟩:=SrtSn.sort_ex l l.length rfl (by omega);exact ⟨ys,⟨h1,fun p q x y a b c d e k=>h2 p q x y a b c d e ((SrtSn.cB_lt y x).2 k)⟩,hf⟩
 obtain ⟨ys,⟨hp,hsr⟩,hf⟩:=hS;refine ⟨ys,⟨hp,hsr⟩,?_⟩;have hyl:ys.length=l.length:=hp.length_eq;have hc:=rM l hl (by omega);refine vF ab [0,1,4,5,6,8,10,11,13,14,15,22,27,28,29,30,45,52,70,71,72,73,96] Tryz.func24 rfl Tryz.results24 Tryz.ntmps24 ?_;(refine' zg)
 refine vL (lv:=[0,1,4,5,6,8,10,11,13,14,15,22,27,28,29,30,45,52,70,71,72,73,96]) ab (UX n l) (fun k=>k≤l.length∧ez n (l.take k) (l.drop k)=0) (fun k=>l.length - k) (0) ((aC.go [0,1,6,27,28,29] (by exact vT) rfl)) ?_ ?_
 ·exact ⟨Nat.zero_le _,he⟩
 rintro k ⟨h1,h2⟩;rcases Nat.lt_or_ge k l.length with hk|hk
 ·obtain ⟨x,hx⟩ : ∃x,l[k]? = some x:=⟨_,List.getElem?_eq_getElem hk⟩
  rw [List.drop_eq_getElem_cons hk,(List.getElem?_eq_some_iff.1 hx).2,ez] at h2;have hw : ¬nr n x:=fun h=>by rw [if_pos h] at h2;cases h2
  rw [if_neg hw] at h2;have hm:x∉l.take k:=fun h=>by rw [if_pos h] at h2;cases h2
  rw [if_neg hm] at h2;obtain ⟨a,b⟩:=x;simp only [nr] at hw;have hfe:=zj hm;have r1:=IU (a,b) n ⟨by omega,by omega,by omega⟩;(refine' zg)
  refine aI.is k _ (by omega) hx ?_;(refine' K8 r1)
  rw [hfe];(refine' zg)
  rw [hfe];(refine' zg)
  have e2:zE (l.take k)++[(Value.agg #[Value.int IntKind.i64 a,Value.int IntKind.i64 b],D.agg [])]=zE (l.take (k+1)):=by
   rw [ax hx,zE,zE,List.map_append];rfl
  rw [e2];refine aG.go (k+1) [0,1,6,27,28,29] (by exact vT) ?_ ?_
  ·show l.length - (k+1)<l.length - k;omega
  ·refine ⟨hk,?_⟩;rw [ax hx];exact h2
 ·obtain rfl:k=l.length:=by omega
  rw [UX,List.take_length];(refine' Qx hc)
  refine au.put 13 hf (by kernel_rfl) rfl rfl rfl ?_;(refine' zg)
  rw [←hyl];refine vL (lv:=[0,1,4,5,6,8,10,11,13,14,15,22,27,28,29,30,45,52,70,71,72,73,96]) ab (XT n ys) (fun x=>x.1≤ys.length∧x.2.length≤x.1∧Jd x.2 (ys.drop x.1)=hP ys) (fun x=>ys.length - x.1) ((0,[])) (aC.nilC 21 2 2<|(aC.go [11,70,71,72] (by exact vT) rfl)) ?_ ?_
  ·exact ⟨Nat.zero_le _,Nat.le_refl _,rfl⟩
  rintro ⟨k,h⟩ ⟨g1,g2,g3⟩;simp only at g1 g2 g3;rcases Nat.lt_or_ge k ys.length with hk|hk
  ·obtain ⟨x,hx⟩ : ∃x,ys[k]? = some x:=⟨_,List.getElem?_eq_getElem hk⟩
   rw [mi hx] at g3;rcases List.eq_nil_or_concat h with rfl|⟨D0,c,rfl⟩
   ·rw [Je,hP] at g3;obtain ⟨a,b⟩:=x;have e1:[D.agg [iD a,iD b]]=([(a,b)]:List Sn).map bA:=rfl;(refine' pR hx)
    rw [e1];refine aG.go ((k+1,[(a,b)])) [11,70,71,72] (by exact vT) ?_ ?_
    ·show ys.length - (k+1)<ys.length - k;omega
    ·exact ⟨hk,by show 1≤k+1;omega,g3⟩
   ·obtain ⟨a,b⟩:=x;obtain ⟨c1,c2⟩:=c;rw [List.concat_eq_append] at g2 g3 ⊢;rw [km,mB] at g3;have hcl:(D0++[(c1,c2)])[D0.length]? = some (c1,c2):=by simp
    have hql:(D0++[(c1,c2)]).length=D0.length+1:=by rw [List.length_append,List.length_singleton]
    have e2 : ∀v,(D0++[(c1,c2)]).set D0.length v=D0++[v]:=fun v=>by simp
    by_cases hlt:a<c2
    ·rw [if_pos hlt] at g3;generalize hq:D0++[(c1,c2)]=q at *
     (refine' uJ hx hcl)
     first|rw [show ((q.length:Int) - 1).toNat=D0.length by omega]|rw [show q.length - 1=D0.length by omega]
     rw [←hq,oW _ (c1,c2) (c1,max c2 b) rfl,show (D0++[(c1,c2)]).length=(D0++[(c1,max c2 b)]).length by simp];refine aG.go ((k+1,D0++[(c1,max c2 b)])) [11,70,71,72] (by exact vT) ?_ ?_
     ·show ys.length - (k+1)<ys.length - k;omega
     ·refine ⟨hk,?_,?_⟩
      ·simp only [List.length_append,List.length_singleton] at hql g2 ⊢;omega
      ·rw [km];exact g3
    ·rw [if_neg hlt] at g3;have e3:(D0++[(c1,c2)]).map bA++[D.agg [iD a,iD b]]=(D0++[(c1,c2)]++[(a,b)]).map bA:=(List.map_append (l₁:=D0++[(c1,c2)]) (l₂:=[(a,b)])).symm;have e4:Jd (D0++[(c1,c2)]++[(a,b)]) (ys.drop (k+1))=hP ys:=by rw [km,List.append_assoc];exact g3
     have e5:(D0++[(c1,c2)]++[(a,b)]).length≤k+1:=by simp only [List.length_append,List.length_singleton] at g2 ⊢;omega
     generalize hq:D0++[(c1,c2)]=q at *
     (refine' uJ hx hcl)
     rw [e3,List.length_map];refine aG.go ((k+1,q++[(a,b)])) [11,70,71,72] (by exact vT) ?_ ?_
     ·show ys.length - (k+1)<ys.length - k;omega
     ·exact ⟨hk,e5,e4⟩
  ·have hh:h=hP ys:=by
    rw [List.drop_of_length_le hk] at g3;rcases List.eq_nil_or_concat h with rfl|⟨D0,c,rfl⟩
    ·exact g3
    ·rw [List.concat_eq_append,km,mB] at g3;rw [List.concat_eq_append];exact g3
   (refine' zg)
   refine ae.frz 2 (ae.frz 1 (ae.frz 0 (ae.out ?_)));(refine' zg)
   all_goals (try rw [List.take_of_length_le (by simp)])
   all_goals (try rw [List.take_of_length_le (by simp)])
   all_goals (try rw [hh])
theorem CH:an Tryz.prog G0 65 [.d (.ne 2)] [] 0 (.d (.sd 2 false [])) []:=by
 refine vF ab [0,2,4] Tryz.func65 rfl Tryz.results65 Tryz.ntmps65 ?_;(refine' zg)
 refine ae.frz 20 (ae.out ?_);(refine' zg)
theorem vA:an Tryz.prog G0 65 [.d (.sd 2 false [])] [] 0 (.d (.sd 2 false [])) []:=an.nilOr 2 false (an.nil 2 false Aa) CH
theorem JL:an Tryz.prog G0 66 [.d (.sd 2 false []),.d (.fn 67 [])] [] 0 (.tup []) []:=vj G0 M0 300 (by kernel_rfl)
theorem L8 (n:Int) (hn:0≤n∧n≤1099511627776):an Tryz.prog G0 24 [iv n,.d (.sd 2 false [])] [] 0 (.tup [.d (.pd 3 [.agg [iD n,.sd 2 false [],.sd 2 false []]] 0 0),iv 0]) []:=by
 have r1:=vA;have r2:=JL;refine vF ab [0,1,4,5,6,8,10,11,13,14,15,22,27,28,29,30,45,52,70,71,72,73,96] Tryz.func24 rfl Tryz.results24 Tryz.ntmps24 ?_;(refine' BC r1 r2)
 refine vL (lv:=[0,1,4,5,6,8,10,11,13,14,15,22,27,28,29,30,45,52,70,71,72,73,96]) ab (fun _:Unit=>(⟨[(0,iv n),(1,.d (.sd 2 false [])),(6,.mo 0),(27,.d (.sd 2 false [])),(28,iv 0),(29,iv 0)],[(0,.map [])],1⟩:St)) (fun _=>True) (fun _=>0) (()) ((aC.go [0,1,6,27,28,29] (by exact vT) rfl)) ?_ ?_
 ·trivial
 rintro ⟨⟩ -
 (refine' BC r1 r2)
 refine vL (lv:=[0,1,4,5,6,8,10,11,13,14,15,22,27,28,29,30,45,52,70,71,72,73,96]) ab (fun _:Unit=>(⟨[(11,.po 0 0),(70,.d (.sd 2 false [])),(71,iv 0),(72,iv 0)],[(0,.cell [iv n,.d (.sd 2 false []),.so 1 2 0 0]),(1,.row 2 [])],2⟩:St)) (fun _=>True) (fun _=>0) (()) (aC.nilC 21 2 2<|(aC.go [11,70,71,72] (by exact vT) rfl)) ?_ ?_
 ·trivial
 rintro ⟨⟩ -
 (refine' zg)
 refine ae.frz 1 (ae.frz 0 (ae.out ?_));(refine' zg)
 all_goals rfl
abbrev HG (n:Int) (l:List Sn):D:= .pd 3 [.agg [iD n,.sd 2 false ((d6 l).map bA),.sd 2 false ((hP (d6 l)).map bA)]] 0 0
theorem IQ (n:Int) (l:List Sn) (hn:0≤n∧n≤1099511627776) (hl2:l.length≤60) (he:ez n [] l=0) :
 an Tryz.prog G0 24 [iv n,.d (.sd 2 false (l.map bA))] [] 0 (.tup [.d (HG n l),iv 0]) []:=by
 rcases l with _|⟨x,t⟩
 ·exact L8 n hn
 ·obtain ⟨ys,⟨hp,hs⟩,hf⟩:=IP n (x::t) hn (by simp) hl2 he;have e:ys=d6 (x::t):=Ga f8 TX TU hp hs fun a b _ _ h1 h2=>by
   unfold f8 at h1 h2;exact Prod.ext (by omega) (by omega)
  rw [e] at hf;exact hf
theorem D4 (n:Int) (x:D) (H:List Sn) (hl:H.length≤100000):an Tryz.prog G0 70 [.d (.pd 3 [.agg [iD n,x,.sd 2 false (H.map bA)]] 0 0)] [] 0 (.d (.sd 2 false (H.map bA))) []:=by
 rcases H with _|⟨y,t⟩
 ·have r1:=vA;simp only [List.map_nil];refine vF ab [0,2,4] Tryz.func70 rfl Tryz.results70 Tryz.ntmps70 ?_;(refine' kW r1)
 ·have r1:=rM (y::t) (by simp) hl;simp only [List.map_cons] at r1 ⊢;refine vF ab [0,2,4] Tryz.func70 rfl Tryz.results70 Tryz.ntmps70 ?_;(refine' Qx r1)
  refine ae.frz 28 (ae.out ?_);(refine' zg)
  all_goals (try rw [List.take_of_length_le (by simp)])
abbrev M6 (l:List Sn):bF:= .row 2 (l.map bA)
theorem qi (es:List Sn) (x:Sn):es.map bA++[bA x]=(es++[x]).map bA:=by rw [List.map_append];rfl
def Ce (n:Int) (l:List Sn):V:=if ez n [] l=0 then .d (.agg [iD n,.sd 2 false ((d6 l).map bA),iD 0]) else .d (.agg [iD 0,aB,iD (ez n [] l)])
def Qe (n:Int) (l:List Sn) (k:Nat):St:=
 ⟨[(0,iv n),(1,xX l),(4,.po 0 0),(5,.so 1 2 0 (d6 (l.take k)).length),(25,xX l),(26,iv l.length),(27,iv k)],[(0,.cell [iv 0,.d aB,iv 0]),(1,M6 (d6 (l.take k)))],2⟩
def Yh (n:Int) (l:List Sn) (k:Nat) (out:List Sn) (x:Sn) (j:Nat):St:=
 ⟨[(0,iv n),(1,xX l),(4,.po 0 0),(5,.so 1 2 0 out.length),(7,.po 2 0),(25,xX l),(26,iv l.length),(27,iv k),(51,.d (.sd 2 false ((l.take k).map bA))),(52,iv k),(53,iv j)],
  [(0,.cell [iv 0,.d aB,iv 0]),(1,M6 out),(2,.cell [iv x.1,iv x.2])],3⟩
def Yg (n:Int) (l:List Sn) (k:Nat) (x:Sn) (out:List Sn) (z:Nat × Bool × List Sn):St:=
 ⟨[(0,iv n),(1,xX l),(4,.po 0 0),(7,.po 1 0),(10,.so 2 2 0 z.2.2.length),(11,bv z.2.1),(25,xX l),(26,iv l.length),(27,iv k),(62,.so 3 2 0 out.length),(63,iv out.length),(64,iv z.1)],
  [(0,.cell [iv 0,.d aB,iv 0]),(1,.cell [iv x.1,iv x.2]),(2,M6 z.2.2),(3,M6 out)],4⟩
attribute [push_cast] Qe.eq_def Yh.eq_def Yg.eq_def
structure ZQ (x:Sn) (out:List Sn) (z:Nat × Bool × List Sn):Prop where
 le:z.1≤out.length
 len:z.2.2.length≤2*z.1
 fin:z.2.2++(if z.2.1=true then out.drop z.1 else lw f8 x (out.drop z.1))=lw f8 x out
set_option maxHeartbeats 6400000 in
theorem za (n:Int) (hn:0≤n∧n≤1099511627776) (l:List Sn) (hl2:l.length≤60):an Tryz.prog G0 45 [iv n,xX l] [] 0 (Ce n l) []:=by
 refine vF ab [0,1,4,5,6,7,9,10,11,13,19,23,25,26,27,28,47,51,52,53,54,59,62,63,64,65,90,101] Tryz.func45 rfl Tryz.results45 Tryz.ntmps45 ?_;(refine' zg)
 refine vL (lv:=[0,1,4,5,6,7,9,10,11,13,19,23,25,26,27,28,47,51,52,53,54,59,62,63,64,65,90,101]) ab (Qe n l) (fun k=>k≤l.length∧ez n (l.take k) (l.drop k)=ez n [] l) (fun k=>l.length - k) (0) (aC.nil 5 2<|(aC.go [0,1,4,5,25,26,27] (by exact vT) rfl)) ?_ ?_
 ·exact ⟨Nat.zero_le _,rfl⟩
 rintro k ⟨h1,h2⟩;have hal:(d6 (l.take k)).length=k:=by rw [mC f8 (l.take k).reverse _ (by simp),List.length_take];omega
 rcases Nat.lt_or_ge k l.length with hk|hk
 ·obtain ⟨x,hx⟩ : ∃x,l[k]? = some x:=⟨_,List.getElem?_eq_getElem hk⟩
  rw [List.drop_eq_getElem_cons hk,(List.getElem?_eq_some_iff.1 hx).2,ez] at h2;have hins:d6 (l.take (k+1))=lw f8 x (d6 (l.take k)):=by rw [ax hx];exact ku ..
  have hids:l.take (k+1)=l.take k++[x]:=ax hx;by_cases hw:nr n x
  ·rw [if_pos hw] at h2;obtain ⟨a,b⟩:=x;simp only [nr] at hw;(refine' zg)
   refine aI.is k _ (by omega) hx ?_;(refine' BD)
   all_goals rw [Ce,←h2,if_neg (by decide)]
  ·rw [if_neg hw] at h2;obtain ⟨a,b⟩:=x;simp only [nr] at hw;(refine' zg)
   refine aI.is k _ (by omega) hx ?_;(refine' HC)
   rw [←List.map_take,show ((l.take k).map bA).length=k by rw [List.length_map,List.length_take];omega];refine vL (lv:=[0,1,4,5,6,7,9,10,11,13,19,23,25,26,27,28,47,51,52,53,54,59,62,63,64,65,90,101]) ab (Yh n l k (d6 (l.take k)) (a,b)) (fun j=>j≤k ∧ ∀(q:Nat) y,q<j→l[q]? = some y→y≠(a,b)) (fun j=>k - j) (0) ((aC.go [0,1,4,5,7,25,26,27,51,52,53] (by exact vT) rfl)) ?_ ?_
   ·exact ⟨Nat.zero_le _,fun q y h=>by omega⟩
   rintro j ⟨g1,g2⟩;rcases Nat.lt_or_ge j k with hj|hj
   ·obtain ⟨y,hy⟩ : ∃y,l[j]? = some y:=⟨_,List.getElem?_eq_getElem (by omega)⟩
    have hy':(l.take k)[j]? = some y:=by rw [List.getElem?_take_of_lt hj];exact hy
    obtain ⟨y1,y2⟩:=y;(refine' QA hy')
    ·have hm:(a,b)∈l.take k:=by have:=List.mem_of_getElem? hy';rw [show (a,b)=(y1,y2) from Prod.ext (by omega) (by omega)];exact this
     rw [if_pos hm] at h2;rw [Ce,←h2,if_neg (by decide)]
    ·refine aG.go (j+1) [0,1,4,5,7,25,26,27,51,52,53] (by exact vT) ?_ ?_
     ·show k - (j+1)<k - j;omega
     ·refine ⟨hj,fun q z hq hz =>?_⟩;by_cases e:q=j
      ·subst e;rw [hy] at hz;injection hz with hz;subst hz;intro e2;injection e2 with e3 e4;omega
      ·exact g2 q z (by omega) hz
   ·have hm:(a,b)∉l.take k:=fun h=>by
     obtain ⟨q,hq⟩:=List.getElem?_of_mem h;have hqk:q<k:=by
      have:=(List.getElem?_eq_some_iff.1 hq).1;rw [List.length_take] at this;omega
     rw [List.getElem?_take_of_lt hqk] at hq;exact g2 q _ (by omega) hq rfl
    rw [if_neg hm,←hids] at h2;(refine' zg)
    generalize hout:d6 (l.take k)=out at *
    refine vL (lv:=[0,1,4,5,6,7,9,10,11,13,19,23,25,26,27,28,47,51,52,53,54,59,62,63,64,65,90,101]) ab (Yg n l k (a,b) out) (ZQ (a,b) out) (fun z=>out.length - z.1) ((0,false,[])) (aC.nil 10 2<|(aC.go [0,1,4,7,10,11,25,26,27,62,63,64] (by exact vT) rfl)) ?_ ?_
    ·exact ⟨Nat.zero_le _,Nat.zero_le _,rfl⟩
    rintro ⟨i,p,es⟩ ⟨g1,g2,g3⟩;simp only at g1 g2 g3;rcases Nat.lt_or_ge i out.length with hi|hi
    ·obtain ⟨y,hy⟩ : ∃y,out[i]? = some y:=⟨_,List.getElem?_eq_getElem hi⟩
     obtain ⟨y1,y2⟩:=y;rw [mi hy] at g3;have e1:es.map bA++[D.agg [iD y1,iD y2]]=(es++[(y1,y2)]).map bA:=qi es (y1,y2);have e0:es.map bA++[D.agg [D.lit (Value.int IntKind.i64 a),D.lit (Value.int IntKind.i64 b)]]=(es++[(a,b)]).map bA:=qi es (a,b);have e2:(es++[(a,b)]).map bA++[D.agg [iD y1,iD y2]]=(es++[(a,b)]++[(y1,y2)]).map bA:=qi _ (y1,y2);cases p with
     | true=>
      (refine' pp hy)
      rw [e1,List.length_map];refine aG.go ((i+1,true,es++[(y1,y2)])) [0,1,4,7,10,11,25,26,27,62,63,64] (by exact vT) ?_ ?_
      ·show out.length - (i+1)<out.length - i;omega
      ·exact ⟨hi,by simp only [List.length_append,List.length_cons,List.length_nil];omega,by rw [←g3];simp⟩
     | false=>
      by_cases hlt:f8 (a,b) (y1,y2)
      ·have hq:a<y1∨(a=y1∧b<y2):=hlt;(refine' pR hy)
       rw [e0,e2,List.length_map];refine aG.go ((i+1,true,es++[(a,b)]++[(y1,y2)])) [0,1,4,7,10,11,25,26,27,62,63,64] (by exact vT) ?_ ?_
       ·show out.length - (i+1)<out.length - i;omega
       ·refine ⟨hi,by simp only [List.length_append,List.length_cons,List.length_nil];omega,?_⟩;rw [←g3];simp only [Bool.false_eq_true,if_false,if_true];rw [lw,if_pos hlt];simp
      ·have hq : ¬(a<y1∨(a=y1∧b<y2)):=hlt;(refine' pR hy)
       rw [e1,List.length_map];refine aG.go ((i+1,false,es++[(y1,y2)])) [0,1,4,7,10,11,25,26,27,62,63,64] (by exact vT) ?_ ?_
       ·show out.length - (i+1)<out.length - i;omega
       ·refine ⟨hi,by simp only [List.length_append,List.length_cons,List.length_nil];omega,?_⟩;rw [←g3];simp only [Bool.false_eq_true,if_false];rw [lw,if_neg hlt];simp
    ·rw [List.drop_of_length_le hi] at g3;have e0:es.map bA++[D.agg [D.lit (Value.int IntKind.i64 a),D.lit (Value.int IntKind.i64 b)]]=(es++[(a,b)]).map bA:=qi es (a,b);cases p with
     | true=>
      (refine' zg)
      have hfin:es=d6 (l.take (k+1)):=by
       rw [hins];simp only [if_true,List.append_nil] at g3;exact g3
      rw [hfin];refine aG.go (k+1) [0,1,4,5,25,26,27] (by exact vT) ?_ ?_
      ·show l.length - (k+1)<l.length - k;omega
      ·exact ⟨hk,h2⟩
     | false=>
      (refine' zg)
      have hfin:es++[(a,b)]=d6 (l.take (k+1)):=by
       rw [hins];simp only [Bool.false_eq_true,if_false,lw] at g3;exact g3
      rw [e0,hfin,List.length_map];refine aG.go (k+1) [0,1,4,5,25,26,27] (by exact vT) ?_ ?_
      ·show l.length - (k+1)<l.length - k;omega
      ·exact ⟨hk,h2⟩
 ·obtain rfl:k=l.length:=by omega
  rw [List.drop_length,ez] at h2;rw [Qe,List.take_length];(refine' zg)
  refine ae.frz 1 (ae.out ?_);(refine' zg)
  rw [Ce,←h2,if_pos rfl];all_goals (try rw [List.take_of_length_le (by simp)])
theorem MH (x y:Sn):an Tryz.prog G0 98 [.d (bA x),.d (bA y)] [] 0 (bv (decide (x.1<y.2)&&decide (y.1<x.2))) []:=by
 refine vF ab [0,1,2,3,4] Tryz.func98 rfl Tryz.results98 Tryz.ntmps98 ?_;(refine' BD)
def Rf (x:Nat × List Sn):St:=⟨[(3,xX x.2),(4,iv x.1)],[],0⟩
attribute [push_cast] Rf.eq_def
def Cj (l:List Sn) (i:Nat):List Sn:=match l.drop i with
 | []=>l.take i
 | c::r=>l.take i++mB c r
structure XA (l:List Sn) (x:Nat × List Sn):Prop where
 le:x.1≤x.2.length
 len:x.2.length≤l.length
 so:x.2.Pairwise fun a b=>a.1≤b.1
 ne : ∀a∈x.2,a.1<a.2
 fin:Cj x.2 x.1=hP l
set_option maxHeartbeats 6400000 in
theorem Iw (n e:Int) (l:List Sn) (hl:l.length≤1000) (hs:l.Pairwise fun a b=>a.1≤b.1) (hne : ∀a∈l,a.1<a.2):an Tryz.prog G0 46 [.d (.agg [iD n,.sd 2 false (l.map bA),iD e])] [] 0 (.d (.sd 2 false ((hP l).map bA))) []:=by
 refine vF ab [0,1,2,3,4,5,6,15,26,41] Tryz.func46 rfl Tryz.results46 Tryz.ntmps46 ?_;(refine' zg)
 refine vL (lv:=[0,1,2,3,4,5,6,15,26,41]) ab Rf (XA l) (fun x=>2*x.2.length - x.1) (0,l) (aC.frz 24<|aC.go [3,4] (by (refine vR ?_);rw [List.take_of_length_le (by simp)]) rfl) ?_ ?_
 ·exact ⟨Nat.zero_le _,Nat.le_refl _,hs,hne,by cases l<;>rfl⟩
 rintro ⟨i,q⟩ ⟨g1,g2,g3,g4,g5⟩;simp only at g1 g2 g3 g4 g5;rcases Nat.lt_or_ge (i+1) q.length with hk|hk
 ·obtain ⟨c,hc⟩ : ∃c,q[i]? = some c:=⟨_,List.getElem?_eq_getElem (by omega)⟩
  obtain ⟨x,hx⟩ : ∃x,q[i+1]? = some x:=⟨_,List.getElem?_eq_getElem hk⟩
  have r1:=MH c x;have d1:=mi hc;have d2:=mi hx;have hcx:=List.pairwise_iff_getElem.1 g3 i (i+1) (by omega) hk (by omega);rw [(List.getElem?_eq_some_iff.1 hc).2,(List.getElem?_eq_some_iff.1 hx).2] at hcx;have hc2:=g4 c (List.mem_of_getElem? hc);have hx2:=g4 x (List.mem_of_getElem? hx);rw [Cj,d1] at g5;simp only at g5;rw [d2,mB] at g5;obtain ⟨c1,c2⟩:=c;obtain ⟨x1,x2⟩:=x;simp only at hcx hc2 hx2 g5 r1;rw [decide_eq_true (by omega:c1<x2),Bool.true_and] at r1;by_cases ho:x1<c2
  ·rw [if_pos ho] at g5;rw [decide_eq_true ho] at r1;have fin : ∀v:Int,v=max c2 x2→XA l (i,q.take i++[(c1,v)]++q.drop (i+2)):=fun v hv=>by
    have hti:(q.take i).length=i:=by rw [List.length_take];omega
    have hsub : ∀a,a∈q.take i∨a∈q.drop (i+2)→a∈q:=fun a ha=>ha.elim List.mem_of_mem_take List.mem_of_mem_drop
    have hsp:q=q.take i++(c1,c2)::(x1,x2)::q.drop (i+2):=by
     conv=>lhs;rw [←List.take_append_drop i q,d1,d2]
    have hp:=g3;rw [hsp] at hp;obtain ⟨p1,p2,p3⟩:=List.pairwise_append.1 hp;obtain ⟨p4,p5⟩:=List.pairwise_cons.1 p2;obtain ⟨p6,p7⟩:=List.pairwise_cons.1 p5;refine ⟨by simp only [List.length_append,List.length_singleton];omega,?_,?_,fun a ha =>?_,?_⟩
    ·have:=congrArg List.length hsp;simp only [List.length_append,List.length_cons,List.length_nil] at this ⊢;omega
    ·show ((q.take i++[(c1,v)])++q.drop (i+2)).Pairwise _;rw [List.append_assoc];refine List.pairwise_append.2 ⟨p1,List.pairwise_cons.2 ⟨fun a ha=>p4 a (List.mem_cons_of_mem _ ha),p7⟩,fun a ha b hb =>?_⟩;rcases List.mem_cons.1 hb with rfl|hb
     ·exact p3 a ha (c1,c2) List.mem_cons_self
     ·exact p3 a ha b (List.mem_cons_of_mem _ (List.mem_cons_of_mem _ hb))
    ·have ha:a∈q.take i++[(c1,v)]++q.drop (i+2):=ha;rw [List.append_assoc] at ha;rcases List.mem_append.1 ha with ha|ha
     ·exact g4 a (hsub a (.inl ha))
     ·rcases List.mem_cons.1 ha with rfl|ha
      ·show c1<v;omega
      ·exact g4 a (hsub a (.inr ha))
    ·show Cj (q.take i++[(c1,v)]++q.drop (i+2)) i=hP l;rw [←g5,hv,List.append_assoc,Cj,List.drop_left' hti,List.take_left' hti];rfl
   have el:(q.take i).map bA=List.take i (q.map bA):=List.map_take;have er:(q.drop (i+2)).map bA=List.drop ((i:Int)+2).toNat (q.map bA):=by rw [show ((i:Int)+2).toNat=i+2 by omega];exact List.map_drop
   have em : ∀v:Int,List.take i (q.map bA)++[D.agg [iD c1,iD v]]++List.drop ((i:Int)+2).toNat (q.map bA)=(q.take i++[(c1,v)]++q.drop (i+2)).map bA:=fun v=>by
    rw [List.map_append,List.map_append,el,er];rfl
   have hmu : ∀v:Int,2*(q.take i++[(c1,v)]++q.drop (i+2)).length - i<2*q.length - i:=fun v=>by
    simp only [List.length_append,List.length_take,List.length_drop,List.length_singleton];omega
   (refine' T1 r1 hc hx)
   ·rw [em];refine aG.frz 240 ?_;refine aG.go (i,q.take i++[(c1,x2)]++q.drop (i+2)) [3,4] (by (refine vR ?_);rw [List.take_of_length_le (by simp)]) ?_ ?_
    ·exact hmu x2
    ·exact fin x2 (by omega)
   ·rw [em];refine aG.frz 212 ?_;refine aG.go (i,q.take i++[(c1,c2)]++q.drop (i+2)) [3,4] (by (refine vR ?_);rw [List.take_of_length_le (by simp)]) ?_ ?_
    ·exact hmu c2
    ·exact fin c2 (by omega)
  ·rw [if_neg ho] at g5;rw [decide_eq_false ho] at r1;(refine' T1 r1 hc hx)
   refine aG.go ((i+1,q)) [3,4] (by exact vT) ?_ ?_
   ·show 2*q.length - (i+1)<2*q.length - i;omega
   ·refine ⟨by show i+1≤q.length;omega,g2,g3,g4,?_⟩;show Cj q (i+1)=hP l;rw [←g5,Cj,d2];show q.take (i+1)++mB (x1,x2) (q.drop (i+1+1))=_;rw [ax hc];simp
 ·have hq:q=hP l:=by
   rw [←g5,Cj];rcases Nat.lt_or_ge i q.length with hk2|hk2
   ·obtain ⟨c,hc⟩ : ∃c,q[i]? = some c:=⟨_,List.getElem?_eq_getElem hk2⟩
    rw [mi hc,List.drop_of_length_le (by omega)];show q=q.take i++[c]
    rw [←ax hc,List.take_of_length_le (by omega)]
   ·rw [List.drop_of_length_le hk2];show q=q.take i;rw [List.take_of_length_le hk2]
  subst hq;(refine' zo)
end Go.Proofs.YtkkanlcjjpoklaaGreatDoor
