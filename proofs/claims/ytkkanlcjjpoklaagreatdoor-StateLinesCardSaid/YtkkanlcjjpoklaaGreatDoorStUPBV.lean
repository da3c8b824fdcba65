/- What the theorem leans on, part 48. -/
import Derived.Test.YtkkanlcjjpoklaaGreatDoorStUPBR
import Derived.Test.YtkkanlcjjpoklaaGreatDoorStUPBS
import Derived.Test.YtkkanlcjjpoklaaGreatDoorStUPBT
set_option linter.unusedSimpArgs false
set_option linter.unusedVariables false
set_option maxRecDepth 8000
namespace Go.Proofs.YtkkanlcjjpoklaaGreatDoor
def U6 (fs:List Fl) (i:Nat):St:=⟨[(3,.so 0 4 0 i),(6,.d (.sd 4 false (fs.map gm))),(7,iv fs.length),(8,iv i)],[(0,.row 4 ((fs.take i).map gm))],1⟩
def XP (fs gs:List Fl) (i:Nat):St:=⟨[(0,.d (.sd 4 false (fs.map gm))),(1,.d (.sd 4 false (gs.map gm))),(7,iv fs.length),(8,iv i)],[],0⟩
attribute [push_cast] U6.eq_def XP.eq_def
theorem CA (fs:List Fl) (hl:fs.length≤100000):an Tryz.prog G0 20 [.d (.sd 4 false (fs.map gm))] [] 0 (.d (.sd 4 false (fs.map gm))) []:=by
 refine vF ab [0,2,3,5,6,7,8,9] Tryz.func20 rfl Tryz.results20 Tryz.ntmps20 ?_;(refine' zg)
 refine vL (lv:=[0,2,3,5,6,7,8,9]) ab (U6 fs) (fun i=>i≤fs.length) (fun i=>fs.length - i) (0) (aC.nil 3 4<|(aC.go [3,6,7,8] (by exact vT) rfl)) ?_ ?_
 ·exact Nat.zero_le _
 intro i hi;rcases Nat.lt_or_ge i fs.length with hlt|hge
 ·obtain ⟨x,hx⟩ : ∃x,fs[i]? = some x:=⟨_,List.getElem?_eq_getElem hlt⟩
  have e:(fs.take (i+1)).map gm=(fs.take i).map gm++[gm x]:=by rw [ax hx,List.map_append];rfl
  obtain ⟨a,b,c,d⟩:=x;simp only [gm] at e;(refine' pp hx)
  rw [←e,show ((fs.take (i+1)).map gm).length=i+1 by simp;omega];refine aG.go (i+1) [3,6,7,8] (by exact vT) ?_ ?_
  ·show fs.length - (i+1)<fs.length - i;omega
  ·show i+1≤fs.length;omega
 ·obtain rfl:i=fs.length:=by omega
  rw [U6,List.take_length];(refine' zg)
  refine ae.frz 0 (ae.out ?_);(refine' zg)
  all_goals (try rw [List.take_of_length_le (by simp)])
theorem Km (fs gs:List Fl) (hl:fs.length≤100000∧gs.length≤100000):an Tryz.prog G0 19 [.d (.sd 4 false (fs.map gm)),.d (.sd 4 false (gs.map gm))] [] 0 (bv (decide (fs=gs))) []:=by
 refine vF ab [0,1,4,5,7,8,9,25] Tryz.func19 rfl Tryz.results19 Tryz.ntmps19 ?_;(refine' zg)
 refine vL (lv:=[0,1,4,5,7,8,9,25]) ab (XP fs gs) (fun i=>i≤fs.length∧i≤gs.length∧fs.take i=gs.take i) (fun i=>fs.length - i) (0) ((aC.go [0,1,7,8] (by exact vT) rfl)) ?_ ?_
 ·exact ⟨Nat.zero_le _,Nat.zero_le _,rfl⟩
 rintro i ⟨hi,hj,he⟩;rcases Nat.lt_or_ge i fs.length with hlt|hge
 ·obtain ⟨x,hx⟩ : ∃x,fs[i]? = some x:=⟨_,List.getElem?_eq_getElem hlt⟩
  rcases Nat.lt_or_ge i gs.length with hlt2|hge2
  ·obtain ⟨y,hy⟩ : ∃y,gs[i]? = some y:=⟨_,List.getElem?_eq_getElem hlt2⟩
   by_cases hxy:x=y
   ·subst hxy;have e2:fs.take (i+1)=gs.take (i+1):=by rw [ax hx,ax hy,he]
    obtain ⟨a,b,c,d⟩:=x;(repeat' (first|(with_reducible first|exact True.intro|refine vD ?_|refine vG ?_|refine vE ?_)|(with_reducible refine aI.is i _ (by omega) hx ?_)|(with_reducible refine aI.is i _ (by omega) hy ?_)|(refine jh ?_)|refine vR ?_|refine v6 ?_|with_reducible refine vN ?_|((with_reducible first|refine vB (fun h =>?_) (fun h =>?_)|refine vM (fun h =>?_) (fun h =>?_))<;>(first|(exfalso;omega)|skip))))
    refine aG.go (i+1) [0,1,7,8] (by exact vT) ?_ ?_
    ·show fs.length - (i+1)<fs.length - i;omega
    ·exact ⟨hlt,hlt2,e2⟩
   ·rw [decide_eq_false (show ¬fs=gs from fun e=>hxy (by subst e;rw [hx] at hy;injection hy))];obtain ⟨a,b,c,d⟩:=x;obtain ⟨a',b',c',d'⟩:=y;(repeat' (first|(with_reducible first|exact True.intro|refine vD ?_|refine vG ?_|refine vE ?_)|(with_reducible refine aI.is i _ (by omega) hx ?_)|(with_reducible refine aI.is i _ (by omega) hy ?_)|(refine jh ?_)|with_reducible refine ae.out ?_|refine vR ?_|refine v6 ?_|with_reducible refine vN ?_|((with_reducible first|refine vB (fun h =>?_) (fun h =>?_)|refine vM (fun h =>?_) (fun h =>?_))<;>(first|(exfalso;omega)|skip))))
    all_goals (exfalso;exact hxy (by rw [h.1,h.2.1,h.2.2.1,h.2.2.2]))
  ·rw [decide_eq_false (show ¬fs=gs from fun e=>by subst e;omega)];(repeat' (first|(with_reducible first|exact True.intro|refine vD ?_|refine vG ?_|refine vE ?_)|(with_reducible refine aI.is i _ (by omega) hx ?_)|(refine jh ?_)|with_reducible refine ae.out ?_|refine vR ?_|refine v6 ?_|with_reducible refine vN ?_|((with_reducible first|refine vB (fun h =>?_) (fun h =>?_)|refine vM (fun h =>?_) (fun h =>?_))<;>(first|(exfalso;omega)|skip))))
 ·obtain rfl:i=fs.length:=by omega
  rw [List.take_length] at he;by_cases hg:fs.length=gs.length
  ·rw [hg,List.take_length] at he;rw [decide_eq_true he];(refine' zo)
   all_goals rw [show ((fs.length:Int)==gs.length)=true by rw [beq_iff_eq];omega]
  ·rw [decide_eq_false (show ¬fs=gs from fun e=>hg (by rw [e]))];(refine' zo)
   all_goals rw [show ((fs.length:Int)==gs.length)=false by rw [beq_eq_false_iff_ne];omega]
section
variable {s:ByteArray} {L:List Iy} {F:List Sn} {tab:Int} {wd:Int}
theorem zN (a b:Int) (hn:an Tryz.prog G0 9 [tL s L F tab wd,iv 200] [] 0 (bv false) []) (h3:an Tryz.prog G0 10 [] [] 0 (bv true) []):an Tryz.prog G0 4 [tL s L F tab wd,iv a,iv b] [] 0 (bv true) []:=by
 refine vF ab [0,1,2,3,6,7,8,9,10,11,12,13,15,18,33,34,35,36,42,47,64] Tryz.func4 rfl Tryz.results4 Tryz.ntmps4 ?_;(refine' tJ hn h3)
def CF:Option (List Fl)→D × Int
 | some fs=>(.sd 4 false (fs.map gm),0)
 | none=>(aB,1)
def Ym (V:bF) (Q:D × Int) (l:List Int) (M:List Iy) (H:List Sn) (Ls:List (Nat × Nat)) (a b:Int) (x:Nat × Bool × Bool × List Fl):St:=
 ⟨[(1,iv a),(2,iv b),(8,.po 0 0),(9,.d Q.1),(10,iv Q.2),(11,.so 1 4 0 x.2.2.2.length),(12,bv x.2.1),(13,bv x.2.2.1),(33,.d (.sd 3 false (Ls.map (nS l M H)))),(34,iv Ls.length),(35,iv x.1)],[(0,V),(1,.row 4 (x.2.2.2.map gm))],2⟩
attribute [push_cast] Ym.eq_def
set_option maxHeartbeats 6400000 in
theorem Cy {st d1 d2 d3 d4 tb:D} {y5 y6:Int} {l:List Int} {M:List Iy} {H:List Sn} {Ls:List (Nat × Nat)} (W:Nat × Nat→Fl) (hL:Ls.length≤1000) (a b:Int) (O:Option (List Fl)) (hO:(O=none∧((pF W a b Ls false false []).1=false∨(pF W a b Ls false false []).2.1=false))∨(∃fs,O=some fs∧pF W a b Ls false false []=(true,true,fs)))
 (hs:an Tryz.prog G0 9 [tL s L F tab wd,iv 200] [] 0 (bv true) []) (h3:an Tryz.prog G0 10 [] [] 0 (bv true) [])
 (r1:an Tryz.prog G0 11 [tL s L F tab wd] [] 0 (.d st) []) (r2:an Tryz.prog G0 12 [tL s L F tab wd] [] 0 (.d (.agg [.sd 1 false (l.map dy),d1,d2,d3,d4,tb,iD y5,iD y6])) [])
 (r3:an Tryz.prog G0 17 [.d (.agg [.sd 1 false (l.map dy),d1,d2,d3,d4])] [] 0 (.d (.sd 3 false (Ls.map (nS l M H)))) [])
 (r4:an Tryz.prog G0 16 [.d st,iv a,iv b] [] 0 (.tup [.d (CF O).1,iv (CF O).2]) [])
 (r5 : ∀x∈Ls,an Tryz.prog G0 18 [.d (.agg [.sd 1 false (l.map dy),d1,d2,d3,d4,tb,iD y5,iD y6]),.d (nS l M H x)] [] 0 (.d (gm (W x))) []) :
 an Tryz.prog G0 4 [tL s L F tab wd,iv a,iv b] [] 0 (bv true) []:=by
 refine vF ab [0,1,2,3,6,7,8,9,10,11,12,13,15,18,33,34,35,36,42,47,64] Tryz.func4 rfl Tryz.results4 Tryz.ntmps4 ?_;(repeat' (first|(with_reducible first|exact True.intro|refine vD ?_|refine vG ?_|refine vE ?_)|with_reducible refine vC (hs) ?_|with_reducible refine vC (r1) ?_|with_reducible refine vC (r2) ?_|with_reducible refine vC (r4) ?_|with_reducible refine vC (r3) ?_|(refine jh ?_)|refine vR ?_|refine v6 ?_|with_reducible refine vN ?_|((with_reducible first|refine vB (fun h =>?_) (fun h =>?_)|refine vM (fun h =>?_) (fun h =>?_))<;>(first|(exfalso;omega)|skip))))
 refine vL (lv:=[0,1,2,3,6,7,8,9,10,11,12,13,15,18,33,34,35,36,42,47,64]) ab (Ym (Ny l d1 d2 d3 d4 tb y5 y6) (CF O) l M H Ls a b) (fun x=>x.1≤Ls.length∧x.2.2.2.length≤x.1∧pF W a b (Ls.drop x.1) x.2.1 x.2.2.1 x.2.2.2=pF W a b Ls false false []) (fun x=>Ls.length - x.1) ((0,false,false,[])) (aC.nil 11 4<|(aC.go [1,2,8,9,10,11,12,13,33,34,35] (by exact vT) rfl)) ?_ ?_
 ·exact ⟨Nat.zero_le _,Nat.le_refl _,rfl⟩
 rintro ⟨i,bg,en,w⟩ ⟨hi,hw,he⟩;simp only at hi hw he;rcases Nat.lt_or_ge i Ls.length with hlt|hge
 ·obtain ⟨x,hx⟩ : ∃x,Ls[i]? = some x:=⟨_,List.getElem?_eq_getElem hlt⟩
  have r6:=r5 x (List.mem_of_getElem? hx);rw [mh hx,pF] at he;have hD:nS l M H x = .agg [.sd 3 false ((b4 l M x.2 x.1 H).map fF),iD x.1,iD x.2]:=rfl;rw [hD] at r6;generalize hq:W x=q at *
  have hfd:gm q = .agg [iD q.1,iD q.2.1,iD q.2.2.1,iD q.2.2.2]:=rfl;rw [hfd] at r6;have ga:((bg||decide ((x.1:Int)=a)) && !en)=true∨((bg||decide ((x.1:Int)=a)) && !en)=false:=by cases ((bg||decide ((x.1:Int)=a)) && !en)<;>simp
  rcases ga with ga|ga
  ·rw [ga,if_pos rfl] at he;by_cases hf:(x.1:Int)=a;all_goals cases bg
   all_goals cases en
   all_goals first|(exfalso;simp [hf] at ga;done)|skip
   all_goals
    (repeat' (first|(with_reducible first|exact True.intro|refine vD ?_|refine vG ?_|refine vE ?_)|(with_reducible refine aI.is i _ (by omega) hx ?_)|with_reducible refine vC (r6) ?_|(refine jh ?_)|refine vR ?_|refine v6 ?_|with_reducible refine vN ?_|((with_reducible first|refine vB (fun h =>?_) (fun h =>?_)|refine vM (fun h =>?_) (fun h =>?_))<;>(first|(exfalso;omega)|skip))))
    rw [xZ];refine aG.go ((i+1,true,(x.2:Int)==b,w++[q])) [1,2,8,9,10,11,12,13,33,34,35] (by exact vT) ?_ ?_
    ·show Ls.length - (i+1)<Ls.length - i;omega
    ·exact ⟨hlt,by simp only [List.length_append,List.length_cons,List.length_nil];omega,he⟩
  ·rw [ga,if_neg (by simp)] at he;by_cases hf:(x.1:Int)=a
   ·rw [decide_eq_true hf,Bool.or_true] at he ga;cases en
    ·simp at ga
    cases bg;all_goals
     (repeat' (first|(with_reducible first|exact True.intro|refine vD ?_|refine vG ?_|refine vE ?_)|(with_reducible refine aI.is i _ (by omega) hx ?_)|with_reducible refine vC (r6) ?_|(refine jh ?_)|refine vR ?_|refine v6 ?_|with_reducible refine vN ?_|((with_reducible first|refine vB (fun h =>?_) (fun h =>?_)|refine vM (fun h =>?_) (fun h =>?_))<;>(first|(exfalso;omega)|skip))))
     refine aG.go ((i+1,true,true,w)) [1,2,8,9,10,11,12,13,33,34,35] (by exact vT) ?_ ?_
     ·show Ls.length - (i+1)<Ls.length - i;omega
     ·exact ⟨hlt,by simp only;omega,he⟩
   ·rw [decide_eq_false hf,Bool.or_false] at he ga;cases bg
    ·cases en;all_goals
      (repeat' (first|(with_reducible first|exact True.intro|refine vD ?_|refine vG ?_|refine vE ?_)|(with_reducible refine aI.is i _ (by omega) hx ?_)|with_reducible refine vC (r6) ?_|(refine jh ?_)|refine vR ?_|refine v6 ?_|with_reducible refine vN ?_|((with_reducible first|refine vB (fun h =>?_) (fun h =>?_)|refine vM (fun h =>?_) (fun h =>?_))<;>(first|(exfalso;omega)|skip))))
      refine aG.go ((i+1,false,_,w)) [1,2,8,9,10,11,12,13,33,34,35] (by exact vT) ?_ ?_
      ·show Ls.length - (i+1)<Ls.length - i;omega
      ·exact ⟨hlt,by simp only;omega,he⟩
    ·cases en
     ·simp at ga
     (repeat' (first|(with_reducible first|exact True.intro|refine vD ?_|refine vG ?_|refine vE ?_)|(with_reducible refine aI.is i _ (by omega) hx ?_)|with_reducible refine vC (r6) ?_|(refine jh ?_)|refine vR ?_|refine v6 ?_|with_reducible refine vN ?_|((with_reducible first|refine vB (fun h =>?_) (fun h =>?_)|refine vM (fun h =>?_) (fun h =>?_))<;>(first|(exfalso;omega)|skip))))
     refine aG.go ((i+1,true,true,w)) [1,2,8,9,10,11,12,13,33,34,35] (by exact vT) ?_ ?_
     ·show Ls.length - (i+1)<Ls.length - i;omega
     ·exact ⟨hlt,by simp only;omega,he⟩
 ·rw [List.drop_of_length_le hge,pF] at he;rcases hO with ⟨h1,h2⟩|⟨fs,h1,h2⟩
  ·subst h1;rw [←he] at h2;simp only at h2;simp only [CF];cases bg;all_goals cases en
   all_goals first|(exfalso;simp at h2;done)|skip
   all_goals
    (repeat' (first|(with_reducible first|exact True.intro|refine vD ?_|refine vG ?_|refine vE ?_)|with_reducible refine vC (h3) ?_|with_reducible refine vQ (h3) ?_|(refine jh ?_)|with_reducible refine ae.out ?_|refine vR ?_|refine v6 ?_|with_reducible refine vN ?_|((with_reducible first|refine vB (fun h =>?_) (fun h =>?_)|refine vM (fun h =>?_) (fun h =>?_))<;>(first|(exfalso;omega)|skip))))
  ·subst h1;rw [←he] at h2;injection h2 with h2 h4;injection h4 with h4 h5;subst h2 h4 h5;have r7:=CA w (by omega);have r8:=Km w w (by omega);rw [decide_eq_true rfl] at r8;simp only [CF];(repeat' (first|(with_reducible first|exact True.intro|refine vD ?_|refine vG ?_|refine vE ?_)|with_reducible refine vC (r7) ?_|with_reducible refine vQ (r7) ?_|(refine jh ?_)|refine vR ?_|refine v6 ?_|with_reducible refine vN ?_|((with_reducible first|refine vB (fun h =>?_) (fun h =>?_)|refine vM (fun h =>?_) (fun h =>?_))<;>(first|(exfalso;omega)|skip))))
   refine au.frz 1 rfl ?_;(repeat' (first|(with_reducible first|exact True.intro|refine vD ?_|refine vG ?_|refine vE ?_)|with_reducible refine vC (r8) ?_|with_reducible refine vQ (r8) ?_|with_reducible refine vC (h3) ?_|with_reducible refine vQ (h3) ?_|(refine jh ?_)|with_reducible refine ae.out ?_|refine vR ?_|refine v6 ?_|with_reducible refine vN ?_|((with_reducible first|refine vB (fun h =>?_) (fun h =>?_)|refine vM (fun h =>?_) (fun h =>?_))<;>(first|(exfalso;omega)|skip))))
end
section
variable {s:ByteArray} {L:List Iy} {F:List Sn} {tab:Nat} {wd:Int} {ps:List (List Int)} {t:Option T}
abbrev Ob (s:ByteArray) (L:List Iy) (F:List Sn) (tab:Nat) (wd:Int):Nat × Nat→Fl:=MD zT wT tab wd (aa s 0) (aS L) (aD F)
theorem Ix (h:gM s L F tab wd) (x:Nat × Nat) (hx:x∈aW (aa s 0) (aD F) 0):an Tryz.prog G0 18 [Ue s L F tab wd,.d (nS (aa s 0) (aS L) (aD F) x)] [] 0 (.d (gm (Ob s L F tab wd x))) []:=by
 have hr:=(gy h.okT).1;have hrs:=h.rs;have ht:=h.tab0;have hg:=h.gd;obtain ⟨h1,h2,h3⟩:=fE (aa s 0) (aD F) _ 0 (Nat.le_refl _) (Nat.zero_le _) (.inl rfl) x hx;obtain ⟨c1,c2⟩:=mR hg (by omega) hr h1 h3;rw [←h2] at c1 c2;have he:=bU (aa s 0) (aD F) h1;rw [←h2] at he;have hc2:((aS L).length+1)*((aa s 0).length+1)≤61*301:=Nat.mul_le_mul (by have:=hg.len;omega) (by omega);have g:=h.lines x hx;exact C7 (aa s 0) (by omega) _ _ _ _ _ tab wd _ (by omega) c1 x.1 x.2 he _ g.q (fun r hr=>(g.s r hr).2.2) (Bu (aa s 0) (by omega) _ _ _ _ _ tab wd _ x.1 x.2 _ _ g.q (AD zT wT (by decide) (by decide) tab (by omega) _ g.pz g.fl) (AF _ g.ok wd h.wd0) g.s)
theorem Ms (h:gM s L F tab wd) (R:Rp (aa s 0) ps t) (a b:Int) : ∃O:Option (List Fl),an Tryz.prog G0 71 [Dx s L F tab wd t,iv a,iv b] [] 0 (Jz O) [] ∧
 ((O=none∧((pF (Ob s L F tab wd) a b (aW (aa s 0) (aD F) 0) false false []).1=false∨(pF (Ob s L F tab wd) a b (aW (aa s 0) (aD F) 0) false false []).2.1=false))∨(∃fs,O=some fs∧pF (Ob s L F tab wd) a b (aW (aa s 0) (aD F) 0) false false []=(true,true,fs))):=by
 by_cases hc : ∃c:Nat,a=c∧c≤(aa s 0).length∧(c=0∨eY (aa s 0) (aD F) (c - 1)=true)
 ·obtain ⟨c,rfl,hcl,hcb⟩:=hc;refine ⟨_,sH h R b c hcl hcb,?_⟩;have e:=zZ (aa s 0) (aD F) (Ob s L F tab wd) (from':=c) (to:=b) c rfl hcl hcb _ 0 (Nat.le_refl _) (Nat.zero_le _);have g:=JC (aa s 0) (aD F) (Ob s L F tab wd) (from':=c) (to:=b) _ c [] (Nat.le_refl _) hcl;rw [←e] at g;cases hO:pC (aa s 0) (aD F) (Ob s L F tab wd) b c with
  | none=>
   rw [hO] at g;exact .inl ⟨rfl,.inr g⟩
  | some fs=>
   rw [hO] at g;exact .inr ⟨fs,rfl,by simpa [U8] using g⟩
 ·have hf:=h.hl;have hbeg:an Tryz.prog G0 105 [wF t (aa s 0).length (bO (aS L)) (aD F),iv a] [] 0 (bv false) []:=by
   by_cases ho:a≤0∨((aa s 0).length:Int)<a
   ·have:=k9 R (aa s 0).length (bO (aS L)) (aD F) a ho;rwa [show (a==0)=false by
     rw [beq_eq_false_iff_ne];exact fun e=>hc ⟨0,e,Nat.zero_le _,.inl rfl⟩] at this
   ·obtain ⟨c,rfl⟩ : ∃c:Nat,a=c:=⟨a.toNat,by omega⟩
    have:=uO R (aa s 0).length (bO (aS L)) (aD F) (by omega) c (by omega) (by omega);cases hs:eY (aa s 0) (aD F) (c - 1) with
    | false=>rwa [hs] at this
    | true=>exact (hc ⟨c,rfl,by omega,.inr hs⟩).elim
  refine ⟨none,Hb h R a b hbeg,.inl ⟨rfl,.inl ?_⟩⟩;rw [JD];intro x hx e;obtain ⟨h1,h2,h3⟩:=fE (aa s 0) (aD F) _ 0 (Nat.le_refl _) (Nat.zero_le _) (.inl rfl) x hx;exact hc ⟨x.1,e.symm,h1,h3⟩
end
end Go.Proofs.YtkkanlcjjpoklaaGreatDoor
