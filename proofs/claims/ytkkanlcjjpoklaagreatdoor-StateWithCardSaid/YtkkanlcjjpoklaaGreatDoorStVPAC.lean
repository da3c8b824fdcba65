/- What the theorem leans on, part 3. -/
import Derived.Test.YtkkanlcjjpoklaaGreatDoorStVPAB
set_option linter.unusedSimpArgs false
set_option linter.unusedVariables false
namespace Go.Proofs.YtkkanlcjjpoklaaGreatDoor
section
variable {P:Program} {G:Gl}
theorem kx {σ τ:ak} (he : ∀j,τ.get j=σ.get j) {β:co} {b:Nat} : bK σ β b↔bK τ β b:=by
 constructor
 ·rintro ⟨id,blk,c,h1,h2⟩;exact ⟨id,blk,c,by rw [he];exact h1,h2⟩
 ·rintro ⟨id,blk,c,h1,h2⟩;exact ⟨id,blk,c,by rw [←he];exact h1,h2⟩
theorem ap.congr {f:Nat} {args:List V} {σ τ:ak} {m:Nat} {r:V} {σ':ak} (h:ap P G f args σ m r σ') (he : ∀j,τ.get j=σ.get j):ap P G f args τ m r σ':=by
 intro w I β vals hm hG hd;have hm':de w I β σ m:=⟨fun id blk hb=>hm.own id blk (by rw [he];exact hb),fun i j b b' k c c' h1 h2=>hm.inj i j b b' k c c' (by rw [he];exact h1) (by rw [he];exact h2),hm.free,hm.lt⟩
 refine (h w I β vals hm' hG hd).mono ?_;rintro e w' ⟨u,I',β',h1,h2,h3⟩;exact ⟨u,I',β',h1,h2,{ h3 with
  block:=fun b hb ho=>h3.block b hb fun h=>ho ((kx he).1 h)
  immn:=fun b hb=>by
   rcases h3.immn b hb with h|h|h
   ·exact .inl h
   ·exact .inr (.inl ((kx he).1 h))
   ·exact .inr (.inr h)
  own':=fun b hb=>by
   rcases h3.own' b hb with h|h
   ·exact .inl ((kx he).1 h)
   ·exact .inr h }⟩
theorem XY {i j k:Nat} (h:fw [i] j=some k):j=i∧k=0:=by
 obtain ⟨h1,h2⟩:=lb h;simp at h2;subst h2;simp at h1;exact ⟨h1.symm,rfl⟩
theorem K2 (i:Nat):fw [i] i=some 0:=by simp [fw,Lf]
theorem J6 (i id:Nat):bk [i] id 0=some i:=by simp [bk]
theorem OA {σ:ak} {i:Nat} {b:bN} (hg:σ.get i=some b) (j:Nat):(σ.sel (fw [i])).get j=ak.get [(0,b.sel (fw [i]))] j:=by
 have hinj : ∀a a' j,fw [i] a=some j→fw [i] a'=some j→a=a':=fun a a' j h1 h2=>by rw [(XY h1).1,(XY h2).1]
 by_cases h0:j=0
 ·subst h0;rw [ak.get_sel' hinj (K2 i) σ b hg];rfl
 ·cases hs:(σ.sel (fw [i])).get j with
  | none=>simp [ak.get,acx h0]
  | some c=>
   obtain ⟨a,c',h1,_,_⟩:=ak.get_sel hinj σ j c hs;exact (h0 (XY h1).2).elim
theorem wL {f:Nat} {args args':List V} {σ:ak} {id i:Nat} {b b0 b':bN} {r:V} (hg:σ.get i=some b) (hi:i<id) (ha:args.map (V.sel (fw [i]))=args') (hb:b.sel (fw [i])=b0) (h:ap P G f args' [(0,b0)] 1 r [(0,b')]) :
 uS P G f args σ id (r.sel (bk [i] id)) (σ.set i (b'.sel (bk [i] id))):=by
 have hl:JI [i] id σ=true:=by simp [JI,hi,hg]
 have h1:ap P G f (args.map (V.sel (fw [i]))) (σ.sel (fw [i])) [i].length r [(0,b')]:=by
  rw [ha];subst hb;exact h.congr (OA hg)
 have h2:=yB [i] hl h1;intro w I β nx vals hm hG hf hnx hd;refine (h2 w I β nx vals hm hG hf hnx hd).mono ?_;rintro e w' ⟨u,I',β',g1,g2,g3,g4⟩;refine ⟨u,I',β',g1,g2,g3.congr fun j =>?_,g4⟩;rw [ak.get_set (by rw [hg];rfl),b8,sx];have es:ak.sel (bk [i] id) [(0,b')]=[(i,b'.sel (bk [i] id))]:=by simp [ak.sel,J6]
 rw [es];by_cases hj:j=i
 ·subst hj;simp [ak.get]
 ·simp only [abK,hj,ab1];cases σ.get j with
  | some x=>rfl
  | none=>simp [ak.get,acx hj]
theorem vO {f:Nat} {rest rest':List V} {σ:ak} {id:Nat} {K:V→ak→Prop} {i:Nat} {b b0 b':bN} {r:V} (h:ap P G f (.po 0 0::rest') [(0,b0)] 1 r [(0,b')]) (hK:K (r.sel (bk [i] id)) (σ.set i (b'.sel (bk [i] id))))
 (hg:σ.get i=some b:=by with_unfolding_all rfl) (hb:b.sel (fw [i])=b0:=by with_unfolding_all rfl) (ha:(V.po i 0::rest).map (V.sel (fw [i])) = .po 0 0::rest':=by with_unfolding_all rfl) (he:cK P f=true:=by kernel_rfl) (hi:i<id:=by with_unfolding_all decide):au P G f (.po i 0::rest) σ id K:=
 ⟨_,_,hK,.inl ⟨he,wL hg hi ha hb h⟩⟩
theorem yC {f:Nat} {args args':List V} {σ:ak} {id i:Nat} {b b0 b':bN} {r r':V} (hg:σ.get i=some b) (hi:i<id) (ha:args.map (V.sel (fw [i]))=args') (hb:b.sel (fw [i])=b0) (hb':b'.sel (bk [i] id)=b) (hr:r.sel (bk [i] id)=r') (h:ap P G f args' [(0,b0)] 1 r [(0,b')]) :
 uS P G f args σ id r' σ:=by
 have h2:=wL hg hi ha hb h;rw [hr,hb'] at h2;intro w I β nx vals hm hG hf hnx hd;refine (h2 w I β nx vals hm hG hf hnx hd).mono ?_;rintro e w' ⟨u,I',β',g1,g2,g3,g4⟩;refine ⟨u,I',β',g1,g2,g3.congr fun j =>?_,g4⟩;rw [ak.get_set (by rw [hg];rfl)];by_cases hj:j=i
 ·subst hj;rw [aa3 rfl];exact hg
 ·rw [aaY hj]
theorem M3 {f:Nat} {rest rest':List V} {σ:ak} {id:Nat} {K:V→ak→Prop} {i:Nat} {b b0 b':bN} {r r':V} (h:ap P G f (.po 0 0::rest') [(0,b0)] 1 r [(0,b')]) (hK:K r' σ)
 (hg:σ.get i=some b:=by with_unfolding_all rfl) (hb:b.sel (fw [i])=b0:=by with_unfolding_all rfl) (ha:(V.po i 0::rest).map (V.sel (fw [i])) = .po 0 0::rest':=by with_unfolding_all rfl) (hb':b'.sel (bk [i] id)=b:=by with_unfolding_all rfl) (hr:r.sel (bk [i] id)=r':=by with_unfolding_all rfl) (he:cK P f=true:=by kernel_rfl) (hi:i<id:=by with_unfolding_all decide):au P G f (.po i 0::rest) σ id K:=
 ⟨_,_,hK,.inl ⟨he,yC hg hi ha hb hb' hr h⟩⟩
theorem vOq {lo:List Nat} {ops:Array Oper} {n f:Nat} {rest rest':List V} {σ acc:ak} {id:Nat} {K L:V→ak→Prop} {i:Nat} {b b0 b':bN} {r r':V} (h:ap P G f (.po 0 0::rest') [(0,b0)] 1 r [(0,b')]) (hK:K r' [])
 (hg:σ.get i=some b:=by with_unfolding_all rfl) (hb:b.sel (fw [i])=b0:=by with_unfolding_all rfl) (ha:(V.po i 0::rest).map (V.sel (fw [i])) = .po 0 0::rest':=by with_unfolding_all rfl) (hb':b'.sel (bk [i] id)=b:=by with_unfolding_all rfl) (hr:r.sel (bk [i] id)=r':=by with_unfolding_all rfl) (he:cK P f=true:=by kernel_rfl) (hi:i<id:=by with_unfolding_all decide):eW P G lo ops n f (.po i 0::rest) σ acc id K L:=
 .inl ⟨_,_,hK,.inl ⟨he,dF id,fun σ' hs=>by rw [abb];exact yC (hs i b hg) hi ha hb hb' hr h⟩⟩
theorem vK {f:Nat} {args:List V} {σ:ak} {id:Nat} {K:V→ak→Prop} {r:V} {σ1:ak} (h:ap P G f args [] 0 r σ1) (hK:K (r.sel (bk [] id)) (σ++σ1.sel (bk [] id))) (he:cK P f=true:=by kernel_rfl) (ha:args.map (V.sel (fw []))=args:=by with_unfolding_all rfl):au P G f args σ id K:=
 au.of [] he (by rw [ha,tG];exact h) rfl (by simpa [l4] using hK)
end
theorem vX {P:Program} {G:Gl} {f:Nat} {args:List V} {σ:ak} {id:Nat} {K:V→ak→Prop} (v:V) (hK:K v σ) (h:si P f args=some v:=by kernel_rfl):au P G f args σ id K:=⟨v,σ,hK,.inr ⟨h,rfl⟩⟩
theorem au.two {P:Program} {G:Gl} {f:Nat} {args args':List V} {σ:ak} {id:Nat} {K:V→ak→Prop} {r:V} {b b' c c':bN} (i j:Nat) (h:ap P G f args' [(0,b),(1,c)] 2 r [(0,b'),(1,c')])
 (hK:K (r.sel (bk [i,j] id)) (l4 σ [i,j]++ak.sel (bk [i,j] id) [(0,b'),(1,c')])) (he:cK P f=true:=by kernel_rfl) (ha:args.map (V.sel (fw [i,j]))=args':=by rfl) (hs:σ.sel (fw [i,j])=[(0,b),(1,c)]:=by rfl) (hl:JI [i,j] id σ=true:=by rfl):au P G f args σ id K:=
 au.of [i,j] he (by rw [ha,hs];exact h) hl hK
theorem au.twoN {P:Program} {G:Gl} {f:Nat} {args args':List V} {σ σ1:ak} {id:Nat} {K:V→ak→Prop} {r:V} {b c:bN} (i j:Nat) (h:ap P G f args' [(0,b),(1,c)] 2 r σ1)
 (hK:K (r.sel (bk [i,j] id)) (l4 σ [i,j]++ak.sel (bk [i,j] id) σ1)) (he:cK P f=true:=by kernel_rfl) (ha:args.map (V.sel (fw [i,j]))=args':=by rfl) (hs:σ.sel (fw [i,j])=[(0,b),(1,c)]:=by rfl) (hl:JI [i,j] id σ=true:=by rfl):au P G f args σ id K:=
 au.of [i,j] he (by rw [ha,hs];exact h) hl hK
theorem au.oneN {P:Program} {G:Gl} {f:Nat} {args args':List V} {σ σ1:ak} {id:Nat} {K:V→ak→Prop} {r:V} {b:bN} (i:Nat) (h:ap P G f args' [(0,b)] 1 r σ1)
 (hK:K (r.sel (bk [i] id)) (l4 σ [i]++ak.sel (bk [i] id) σ1)) (he:cK P f=true:=by kernel_rfl) (ha:args.map (V.sel (fw [i]))=args':=by rfl) (hs:σ.sel (fw [i])=[(0,b)]:=by rfl) (hl:JI [i] id σ=true:=by rfl):au P G f args σ id K:=
 au.of [i] he (by rw [ha,hs];exact h) hl hK
theorem au.ofN {P:Program} {G:Gl} {f n:Nat} {args args':List V} {σ σ0 σ1:ak} {id:Nat} {K:V→ak→Prop} {r:V} (l:List Nat) (h:ap P G f args' σ0 n r σ1)
 (hK:K (r.sel (bk l id)) (l4 σ l++σ1.sel (bk l id))) (he:cK P f=true:=by kernel_rfl) (hn:l.length=n:=by rfl) (ha:args.map (V.sel (fw l))=args':=by rfl) (hs:σ.sel (fw l)=σ0:=by rfl) (hl:JI l id σ=true:=by rfl):au P G f args σ id K:=
 au.of l he (by rw [ha,hs,hn];exact h) hl hK
theorem S7 {P:Program} {G:Gl} {f:Nat} {args args':List V} {σ:ak} {id:Nat} {K:V→ak→Prop} (i:Nat) {b b0 b':bN} {r r':V} (h:ap P G f args' [(0,b0)] 1 r [(0,b')]) (hK:K r' σ)
 (hg:σ.get i=some b:=by with_unfolding_all rfl) (hb:b.sel (fw [i])=b0:=by with_unfolding_all rfl) (ha:args.map (V.sel (fw [i]))=args':=by with_unfolding_all rfl) (hb':b'.sel (bk [i] id)=b:=by with_unfolding_all rfl) (hr:r.sel (bk [i] id)=r':=by with_unfolding_all rfl) (he:cK P f=true:=by kernel_rfl) (hi:i<id:=by with_unfolding_all decide):au P G f args σ id K:=
 ⟨_,_,hK,.inl ⟨he,yC hg hi ha hb hb' hr h⟩⟩
theorem ap.nil {P:Program} {G:Gl} {f:Nat} {args:List V} {σ:ak} {m:Nat} {σ':ak} (k:Nat) (b:Bool) (h:ap P G f args σ m (.d (.lit (.slice none 0 0))) σ'):ap P G f args σ m (.d (.sd k b [])) σ':=by
 intro w I β vals hm hG hd;refine (h w I β vals hm hG hd).mono ?_;rintro e w' ⟨u,I',β',h1,h2,h3⟩;refine ⟨u,I',β',h1,?_,h3⟩;cases h2 with
 | lit v=>exact .sd0 k b none
theorem ap.nilOr {P:Program} {G:Gl} {f:Nat} {σ:ak} {m:Nat} {r:V} {σ':ak} (k:Nat) (b:Bool) (h1:ap P G f [.d (.lit (.slice none 0 0))] σ m r σ') (h2:ap P G f [.d (.ne k)] σ m r σ'):ap P G f [.d (.sd k b [])] σ m r σ':=by
 intro w I β vals hm hG hd;obtain ⟨hl,hd⟩:=hd;match vals,hl with
 | [v],_=>
  have hv:ax w I (.sd k b []) v:=hd 0 _ v rfl rfl;have one : ∀x:V,aL w I β x v→cU w I β [x] [v]:=fun x hx=>⟨rfl,fun i c y hc hy=>by
   match i,hc,hy with
   | 0,hc,hy=>
    simp only [abq,aa5] at hc hy;subst hc hy;exact hx
   | i+1,hc,hy=>simp at hc⟩
  cases hv with
  | sd _ _ _ b o cap=>exact h2 w I β [_] hm hG (one _ (ax.ne k _ _))
  | sd0 _ _ a=>
   cases a with
   | none=>exact h1 w I β [_] hm hG (one _ (ax.lit _))
   | some a=>exact h2 w I β [_] hm hG (one _ (ax.ne k _ _))
theorem vRS {p q:Prop} (h:q) (e:p=q:=by simp -implicitDefEqProofs -dsimp (maxSteps:=3000000) only [push_cast,↓RR,↓SS,↓pi,↓reduceIte,Nat.reduceMul,Nat.reduceAdd,Nat.reduceSub,Nat.reduceEqDiff,Nat.reduceBeqDiff,Nat.reduceLeDiff,Nat.reduceLT,reduceCtorEq,Int.reduceToNat];exact rfl):p:=e▸h
theorem zg {p:Prop} (h:p:=by (repeat' (first|(with_reducible first|exact True.intro|refine vD ?_|refine vG ?_|refine vE ?_)|refine vR ?_|refine v6 ?_|with_reducible refine vN ?_|((with_reducible first|refine vB (fun h =>?_) (fun h =>?_)|refine vM (fun h =>?_) (fun h =>?_))<;>(first|(exfalso;omega)|skip))));all_goals (refine iF.g ?_;apply_rules (newGoals:= .nonDependentOnly) only [je,iC.i])):p:=h
theorem zo {p:Prop} (h:p:=by (repeat' (first|(with_reducible first|exact True.intro|refine vD ?_|refine vG ?_|refine vE ?_)|with_reducible refine ae.out ?_|refine vR ?_|refine v6 ?_|with_reducible refine vN ?_|((with_reducible first|refine vB (fun h =>?_) (fun h =>?_)|refine vM (fun h =>?_) (fun h =>?_))<;>(first|(exfalso;omega)|skip))));all_goals (refine iF.g ?_;apply_rules (newGoals:= .nonDependentOnly) only [je,iC.i])):p:=h
theorem fq {p q0:Prop} (c0:q0) (h:q0→p:=by intro zc0;(repeat' (first|(with_reducible first|exact True.intro|refine vD ?_|refine vG ?_|refine vE ?_)|with_reducible refine vC zc0 ?_|with_reducible refine vQ zc0 ?_|refine vR ?_|refine v6 ?_|with_reducible refine vN ?_|((with_reducible first|refine vB (fun h =>?_) (fun h =>?_)|refine vM (fun h =>?_) (fun h =>?_))<;>(first|(exfalso;omega)|skip))));all_goals (clear zc0;refine iF.g ?_;apply_rules (newGoals:= .nonDependentOnly) only [je,iC.i])):p:=h c0
theorem lK {p q0:Prop} (c0:q0) (h:q0→p:=by intro zc0;(repeat' (first|(with_reducible first|exact True.intro|refine vD ?_|refine vG ?_|refine vE ?_)|with_reducible refine ae.out ?_|with_reducible refine vC zc0 ?_|with_reducible refine vQ zc0 ?_|refine vR ?_|refine v6 ?_|with_reducible refine vN ?_|((with_reducible first|refine vB (fun h =>?_) (fun h =>?_)|refine vM (fun h =>?_) (fun h =>?_))<;>(first|(exfalso;omega)|skip))));all_goals (clear zc0;refine iF.g ?_;apply_rules (newGoals:= .nonDependentOnly) only [je,iC.i])):p:=h c0
theorem Ax {p q0 q1:Prop} (c0:q0) (c1:q1) (h:q0→q1→p:=by intro zc0 zc1;(repeat' (first|(with_reducible first|exact True.intro|refine vD ?_|refine vG ?_|refine vE ?_)|with_reducible refine vC zc0 ?_|with_reducible refine vQ zc0 ?_|with_reducible refine vC zc1 ?_|with_reducible refine vQ zc1 ?_|refine vR ?_|refine v6 ?_|with_reducible refine vN ?_|((with_reducible first|refine vB (fun h =>?_) (fun h =>?_)|refine vM (fun h =>?_) (fun h =>?_))<;>(first|(exfalso;omega)|skip))));all_goals (clear zc0;clear zc1;refine iF.g ?_;apply_rules (newGoals:= .nonDependentOnly) only [je,iC.i])):p:=h c0 c1
theorem uR {p q0 q1:Prop} (c0:q0) (c1:q1) (h:q0→q1→p:=by intro zc0 zc1;(repeat' (first|(with_reducible first|exact True.intro|refine vD ?_|refine vG ?_|refine vE ?_)|with_reducible refine ae.out ?_|with_reducible refine vC zc0 ?_|with_reducible refine vQ zc0 ?_|with_reducible refine vC zc1 ?_|with_reducible refine vQ zc1 ?_|refine vR ?_|refine v6 ?_|with_reducible refine vN ?_|((with_reducible first|refine vB (fun h =>?_) (fun h =>?_)|refine vM (fun h =>?_) (fun h =>?_))<;>(first|(exfalso;omega)|skip))));all_goals (clear zc0;clear zc1;refine iF.g ?_;apply_rules (newGoals:= .nonDependentOnly) only [je,iC.i])):p:=h c0 c1
theorem WR {p q0 q1 q2:Prop} (c0:q0) (c1:q1) (c2:q2) (h:q0→q1→q2→p:=by intro zc0 zc1 zc2;(repeat' (first|(with_reducible first|exact True.intro|refine vD ?_|refine vG ?_|refine vE ?_)|with_reducible refine vC zc0 ?_|with_reducible refine vQ zc0 ?_|with_reducible refine vC zc1 ?_|with_reducible refine vQ zc1 ?_|with_reducible refine vC zc2 ?_|with_reducible refine vQ zc2 ?_|refine vR ?_|refine v6 ?_|with_reducible refine vN ?_|((with_reducible first|refine vB (fun h =>?_) (fun h =>?_)|refine vM (fun h =>?_) (fun h =>?_))<;>(first|(exfalso;omega)|skip))));all_goals (clear zc0;clear zc1;clear zc2;refine iF.g ?_;apply_rules (newGoals:= .nonDependentOnly) only [je,iC.i])):p:=h c0 c1 c2
theorem Td {p q0 q1 q2:Prop} (c0:q0) (c1:q1) (c2:q2) (h:q0→q1→q2→p:=by intro zc0 zc1 zc2;(repeat' (first|(with_reducible first|exact True.intro|refine vD ?_|refine vG ?_|refine vE ?_)|with_reducible refine ae.out ?_|with_reducible refine vC zc0 ?_|with_reducible refine vQ zc0 ?_|with_reducible refine vC zc1 ?_|with_reducible refine vQ zc1 ?_|with_reducible refine vC zc2 ?_|with_reducible refine vQ zc2 ?_|refine vR ?_|refine v6 ?_|with_reducible refine vN ?_|((with_reducible first|refine vB (fun h =>?_) (fun h =>?_)|refine vM (fun h =>?_) (fun h =>?_))<;>(first|(exfalso;omega)|skip))));all_goals (clear zc0;clear zc1;clear zc2;refine iF.g ?_;apply_rules (newGoals:= .nonDependentOnly) only [je,iC.i])):p:=h c0 c1 c2
theorem zg4 {p q0 q1 q2 q3:Prop} (c0:q0) (c1:q1) (c2:q2) (c3:q3) (h:q0→q1→q2→q3→p:=by intro zc0 zc1 zc2 zc3;(repeat' (first|(with_reducible first|exact True.intro|refine vD ?_|refine vG ?_|refine vE ?_)|with_reducible refine vC zc0 ?_|with_reducible refine vQ zc0 ?_|with_reducible refine vC zc1 ?_|with_reducible refine vQ zc1 ?_|with_reducible refine vC zc2 ?_|with_reducible refine vQ zc2 ?_|with_reducible refine vC zc3 ?_|with_reducible refine vQ zc3 ?_|refine vR ?_|refine v6 ?_|with_reducible refine vN ?_|((with_reducible first|refine vB (fun h =>?_) (fun h =>?_)|refine vM (fun h =>?_) (fun h =>?_))<;>(first|(exfalso;omega)|skip))));all_goals (clear zc0;clear zc1;clear zc2;clear zc3;refine iF.g ?_;apply_rules (newGoals:= .nonDependentOnly) only [je,iC.i])):p:=h c0 c1 c2 c3
theorem Tw {p q0 q1 q2 q3:Prop} (c0:q0) (c1:q1) (c2:q2) (c3:q3) (h:q0→q1→q2→q3→p:=by intro zc0 zc1 zc2 zc3;(repeat' (first|(with_reducible first|exact True.intro|refine vD ?_|refine vG ?_|refine vE ?_)|with_reducible refine ae.out ?_|with_reducible refine vC zc0 ?_|with_reducible refine vQ zc0 ?_|with_reducible refine vC zc1 ?_|with_reducible refine vQ zc1 ?_|with_reducible refine vC zc2 ?_|with_reducible refine vQ zc2 ?_|with_reducible refine vC zc3 ?_|with_reducible refine vQ zc3 ?_|refine vR ?_|refine v6 ?_|with_reducible refine vN ?_|((with_reducible first|refine vB (fun h =>?_) (fun h =>?_)|refine vM (fun h =>?_) (fun h =>?_))<;>(first|(exfalso;omega)|skip))));all_goals (clear zc0;clear zc1;clear zc2;clear zc3;refine iF.g ?_;apply_rules (newGoals:= .nonDependentOnly) only [je,iC.i])):p:=h c0 c1 c2 c3
theorem zg5 {p q0 q1 q2 q3 q4:Prop} (c0:q0) (c1:q1) (c2:q2) (c3:q3) (c4:q4) (h:q0→q1→q2→q3→q4→p:=by intro zc0 zc1 zc2 zc3 zc4;(repeat' (first|(with_reducible first|exact True.intro|refine vD ?_|refine vG ?_|refine vE ?_)|with_reducible refine vC zc0 ?_|with_reducible refine vQ zc0 ?_|with_reducible refine vC zc1 ?_|with_reducible refine vQ zc1 ?_|with_reducible refine vC zc2 ?_|with_reducible refine vQ zc2 ?_|with_reducible refine vC zc3 ?_|with_reducible refine vQ zc3 ?_|with_reducible refine vC zc4 ?_|with_reducible refine vQ zc4 ?_|refine vR ?_|refine v6 ?_|with_reducible refine vN ?_|((with_reducible first|refine vB (fun h =>?_) (fun h =>?_)|refine vM (fun h =>?_) (fun h =>?_))<;>(first|(exfalso;omega)|skip))));all_goals (clear zc0;clear zc1;clear zc2;clear zc3;clear zc4;refine iF.g ?_;apply_rules (newGoals:= .nonDependentOnly) only [je,iC.i])):p:=h c0 c1 c2 c3 c4
theorem zo5 {p q0 q1 q2 q3 q4:Prop} (c0:q0) (c1:q1) (c2:q2) (c3:q3) (c4:q4) (h:q0→q1→q2→q3→q4→p:=by intro zc0 zc1 zc2 zc3 zc4;(repeat' (first|(with_reducible first|exact True.intro|refine vD ?_|refine vG ?_|refine vE ?_)|with_reducible refine ae.out ?_|with_reducible refine vC zc0 ?_|with_reducible refine vQ zc0 ?_|with_reducible refine vC zc1 ?_|with_reducible refine vQ zc1 ?_|with_reducible refine vC zc2 ?_|with_reducible refine vQ zc2 ?_|with_reducible refine vC zc3 ?_|with_reducible refine vQ zc3 ?_|with_reducible refine vC zc4 ?_|with_reducible refine vQ zc4 ?_|refine vR ?_|refine v6 ?_|with_reducible refine vN ?_|((with_reducible first|refine vB (fun h =>?_) (fun h =>?_)|refine vM (fun h =>?_) (fun h =>?_))<;>(first|(exfalso;omega)|skip))));all_goals (clear zc0;clear zc1;clear zc2;clear zc3;clear zc4;refine iF.g ?_;apply_rules (newGoals:= .nonDependentOnly) only [je,iC.i])):p:=h c0 c1 c2 c3 c4
theorem zg8 {p q0 q1 q2 q3 q4 q5 q6 q7:Prop} (c0:q0) (c1:q1) (c2:q2) (c3:q3) (c4:q4) (c5:q5) (c6:q6) (c7:q7) (h:q0→q1→q2→q3→q4→q5→q6→q7→p:=by intro zc0 zc1 zc2 zc3 zc4 zc5 zc6 zc7;(repeat' (first|(with_reducible first|exact True.intro|refine vD ?_|refine vG ?_|refine vE ?_)|with_reducible refine vC zc0 ?_|with_reducible refine vQ zc0 ?_|with_reducible refine vC zc1 ?_|with_reducible refine vQ zc1 ?_|with_reducible refine vC zc2 ?_|with_reducible refine vQ zc2 ?_|with_reducible refine vC zc3 ?_|with_reducible refine vQ zc3 ?_|with_reducible refine vC zc4 ?_|with_reducible refine vQ zc4 ?_|with_reducible refine vC zc5 ?_|with_reducible refine vQ zc5 ?_|with_reducible refine vC zc6 ?_|with_reducible refine vQ zc6 ?_|with_reducible refine vC zc7 ?_|with_reducible refine vQ zc7 ?_|refine vR ?_|refine v6 ?_|with_reducible refine vN ?_|((with_reducible first|refine vB (fun h =>?_) (fun h =>?_)|refine vM (fun h =>?_) (fun h =>?_))<;>(first|(exfalso;omega)|skip))));all_goals (clear zc0;clear zc1;clear zc2;clear zc3;clear zc4;clear zc5;clear zc6;clear zc7;refine iF.g ?_;apply_rules (newGoals:= .nonDependentOnly) only [je,iC.i])):p:=h c0 c1 c2 c3 c4 c5 c6 c7
theorem Tb {p q0:Prop} (c0:q0) (h:q0→p:=by intro zc0;(repeat' (first|(with_reducible first|exact True.intro|refine vD ?_|refine vG ?_|refine vE ?_)|with_reducible refine vK zc0 ?_|refine vR ?_|refine v6 ?_|with_reducible refine vN ?_|((with_reducible first|refine vB (fun h =>?_) (fun h =>?_)|refine vM (fun h =>?_) (fun h =>?_))<;>(first|(exfalso;omega)|skip))));all_goals (clear zc0;refine iF.g ?_;apply_rules (newGoals:= .nonDependentOnly) only [je,iC.i])):p:=h c0
theorem zgO {p q0:Prop} (c0:q0) (h:q0→p:=by intro zc0;(repeat' (first|(with_reducible first|exact True.intro|refine vD ?_|refine vG ?_|refine vE ?_)|with_reducible refine vO zc0 ?_|refine vR ?_|refine v6 ?_|with_reducible refine vN ?_|((with_reducible first|refine vB (fun h =>?_) (fun h =>?_)|refine vM (fun h =>?_) (fun h =>?_))<;>(first|(exfalso;omega)|skip))));all_goals (clear zc0;refine iF.g ?_;apply_rules (newGoals:= .nonDependentOnly) only [je,iC.i])):p:=h c0
theorem zgR {p q0:Prop} (c0:q0) (h:q0→p:=by intro zc0;(repeat' (first|(with_reducible first|exact True.intro|refine vD ?_|refine vG ?_|refine vE ?_)|with_reducible refine M3 zc0 ?_|refine vR ?_|refine v6 ?_|with_reducible refine vN ?_|((with_reducible first|refine vB (fun h =>?_) (fun h =>?_)|refine vM (fun h =>?_) (fun h =>?_))<;>(first|(exfalso;omega)|skip))));all_goals (clear zc0;refine iF.g ?_;apply_rules (newGoals:= .nonDependentOnly) only [je,iC.i])):p:=h c0
theorem jY {p q0:Prop} (c0:q0) (h:q0→p:=by intro zc0;(repeat' (first|(with_reducible first|exact True.intro|refine vD ?_|refine vG ?_|refine vE ?_)|with_reducible refine aF.is _ _ (by omega) zc0 ?_|refine vR ?_|refine v6 ?_|with_reducible refine vN ?_|((with_reducible first|refine vB (fun h =>?_) (fun h =>?_)|refine vM (fun h =>?_) (fun h =>?_))<;>(first|(exfalso;omega)|skip))));all_goals (clear zc0;refine iF.g ?_;apply_rules (newGoals:= .nonDependentOnly) only [je,iC.i])):p:=h c0
theorem Tx {p q0:Prop} (c0:q0) (h:q0→p:=by intro zc0;(repeat' (first|(with_reducible first|exact True.intro|refine vD ?_|refine vG ?_|refine vE ?_)|with_reducible refine ae.out ?_|with_reducible refine aF.is _ _ (by omega) zc0 ?_|refine vR ?_|refine v6 ?_|with_reducible refine vN ?_|((with_reducible first|refine vB (fun h =>?_) (fun h =>?_)|refine vM (fun h =>?_) (fun h =>?_))<;>(first|(exfalso;omega)|skip))));all_goals (clear zc0;refine iF.g ?_;apply_rules (newGoals:= .nonDependentOnly) only [je,iC.i])):p:=h c0
end Go.Proofs.YtkkanlcjjpoklaaGreatDoor
