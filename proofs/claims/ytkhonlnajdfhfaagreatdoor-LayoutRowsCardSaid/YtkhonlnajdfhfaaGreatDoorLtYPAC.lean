/- What the theorem leans on, part 3. -/
import Derived.Test.YtkhonlnajdfhfaaGreatDoorLtYPAB
set_option linter.defProp false
set_option linter.unusedSimpArgs false
set_option linter.unusedVariables false
set_option maxRecDepth 8000
namespace Go.Proofs.YtkhonlnajdfhfaaGreatDoor
def RR :=@And.intro _ _ @ndW_true <| @And.intro _ _ @brM_true <| @And.intro _ _ @brM_false <| @And.intro _ _ @dstL_zero <| @And.intro _ _ @dstL_succ <| @And.intro _ _ @brW_true <| @And.intro _ _ @brW_false <| @And.intro _ _ @optW_some <| @And.intro _ _ @elW_zero <| @And.intro _ _ @elW_succ <| @And.intro _ _ @elW_map <| @And.intro _ _ @boolW_lit <| @And.intro _ _ @grdW_lit <| @And.intro _ _ @grdW_skip <| @And.intro _ _ @condW_lit <| @And.intro _ _ @pickW_lit <| @And.intro _ _ @calleeW_fn <| @And.intro _ _ @calleeW_d <| @And.intro _ _ @calleeW_bf <| @And.intro _ _ @cellW_cell <| @And.intro _ _ @rowW_row <| @And.intro _ _ @iterW_iter <| @And.intro _ _ @seqK_normal <| @And.intro _ _ @seqK_exit <| @And.intro _ _ @seqK_ret <| @And.intro _ _ @blockK_normal <| @And.intro _ _ @blockK_ret <| @And.intro _ _ @blockK_exit <| @And.intro _ _ @scopeK_normal <| @And.intro _ _ @scopeK_exit <| @And.intro _ _ @scopeK_ret <| @And.intro _ _ @retK_normal <| @And.intro _ _ @retK_ret <| @And.intro _ _ @loadV_pd <| @And.intro _ _ @loadV_po <| @And.intro _ _ @loadV_pe <| @And.intro _ _ @elemW.eq_1 <| @And.intro _ _ @evF_tmp <| @And.intro _ _ @evF_const <| @And.intro _ _ @evF_func <| @And.intro _ _ @guard_none <| @And.intro _ _ @guard_true <| @And.intro _ _ @guard_false <| @And.intro _ _ @codeW.eq_1 <| @And.intro _ _ @codeW.eq_2 <| @And.intro _ _ @codeW.eq_3 <| @And.intro _ _ @codeW.eq_4 <| @And.intro _ _ @codeW.eq_5 <| @And.intro _ _ @codeW.eq_6 <| @And.intro _ _ @codeW.eq_7 <| @And.intro _ _ @codeW.eq_8 <| @And.intro _ _ @codeW.eq_9 <| @And.intro _ _ @codeW.eq_10 <| @And.intro _ _ @codeE.eq_1 <| @And.intro _ _ @codeE.eq_2 <| @And.intro _ _ @codeE.eq_3 <| @And.intro _ _ @codeE.eq_4 <| @And.intro _ _ @codeE.eq_5 <| @And.intro _ _ @codeE.eq_6 <| @And.intro _ _ @codeE.eq_7 <| @And.intro _ _ @codeE.eq_8 <| @And.intro _ _ @codeE.eq_9 <| @And.intro _ _ @codeE.eq_10 <| @And.intro _ _ @regW_false <| @And.intro _ _ @opsW_nil <| @And.intro _ _ @opsW_cons <| @And.intro _ _ @opsD_nil <| @And.intro _ _ @opsD_cons <| @And.intro _ _ @pvW_some <| @And.intro _ _ @pvsW_some @vcallD_call
def SS :=@And.intro _ _ @stepW_move <| @And.intro _ _ @stepW_assign <| @And.intro _ _ @stepW_binOp <| @And.intro _ _ @stepW_unOp <| @And.intro _ _ @stepW_fieldAddr <| @And.intro _ _ @stepW_field <| @And.intro _ _ @stepW_load <| @And.intro _ _ @stepW_pick <| @And.intro _ _ @stepW_len <| @And.intro _ _ @stepW_indexAddr <| @And.intro _ _ @quietW_move <| @And.intro _ _ @quietW_assign <| @And.intro _ _ @quietW_binOp <| @And.intro _ _ @quietW_unOp <| @And.intro _ _ @quietW_fieldAddr <| @And.intro _ _ @quietW_field <| @And.intro _ _ @quietW_load <| @And.intro _ _ @quietW_pick <| @And.intro _ _ @quietW_len <| @quietW_indexAddr
theorem sig_get_c (k t:Nat) (b:Blk) (r:Sig):Sig.get ((k,b)::r) t=if k=t then some b else Sig.get r t:=by rw [Sig.get]
def W6 :=@And.intro _ _ @w64 <| @And.intro _ _ @wu64 <| @And.intro _ _ @half64 @half64'
theorem w32 (n:Int) (h1 : -2147483648≤n) (h2:n≤2147483647):IntKind.i32.wrap n=n:=by
 rw [IntKind.wrap_i32];omega
theorem wu8 (n:Int) (h1:0≤n) (h2:n≤255):IntKind.u8.wrap n=n:=by
 rw [IntKind.wrap_u8];omega
theorem tdivE (a b:Int) (h:0≤a):a.tdiv b=a / b:=Int.tdiv_eq_ediv_of_nonneg h
theorem tmodE (a b:Int) (h:0≤a):a.tmod b=a % b:=Int.tmod_eq_emod_of_nonneg h
def W3 :=@And.intro _ _ @W6 <| @And.intro _ _ @w32 <| @And.intro _ _ @wu8 <| @And.intro _ _ @tdivE @tmodE
instance BrC.cond {a b c:Bool} {p q r p' q' r':Prop} [h:BrC a p p'] [k:BrC b q q'] [l:BrC c r r']:BrC (cond a b c) ((p∧q)∨(p'∧r)) (¬((p∧q)∨(p'∧r))):=BrC.mk' (by rw [←h.says,←h.nots,←k.says,←l.says];cases a<;>simp)
theorem vR {p q:Prop} (h:q) (e:p=q:=by simp -implicitDefEqProofs -dsimp only [push_cast,↓RR,↓SS,↓sig_get_c,↓reduceIte,Nat.reduceMul,Nat.reduceAdd,Nat.reduceSub,Nat.reduceEqDiff,Nat.reduceBeqDiff,Nat.reduceLeDiff,Nat.reduceLT,reduceCtorEq,Int.reduceToNat];exact rfl):p:=e▸h
theorem v6 {p q:Prop} (h:q) (e:p=q:=by simp -implicitDefEqProofs -dsimp (disch:=omega) only [W6];exact rfl):p:=e▸h
theorem v3 {p q:Prop} (h:q) (e:p=q:=by simp -implicitDefEqProofs -dsimp (disch:=omega) only [W3];exact rfl):p:=e▸h
theorem vD {P:Program} {G:Gl} {m:Nat} {lv:List Nat} {ops:Array Oper} {K:St→Prop} {st:St} (h:opsD P G ops st.nx 0 ops.toList st.env st.sg [] fun e σ=>endW K ⟨Env.keep lv e,σ,st.nx+4*ops.size⟩) (hd:drawOk [] ops=true:=by decide +kernel):GhW G m (regW P G lv ops true K) st:=GhW.dr hd h
theorem vG {G:Gl} {m:Nat} {K:St→Prop} {st:St} (h:K st):GhW G m K st:=GhW.now h
theorem vE {K:St→Prop} {st:St} (h:K st):endW K st:=h
theorem vN {p q:Prop} (h2:q) (h1:p:=by first|omega|(simp [allFit,Fit,appFits,V.cellOk,Value.oneCell',D.cells,isByte];done)|(simp [allFit,Fit,appFits,V.cellOk,Value.oneCell',D.cells,isByte];omega)):ndW p q:=⟨h1,h2⟩
theorem vB {b:Bool} {p p':Prop} [h:BrC b p p'] {q r:Prop} (h1:p→q) (h2:p'→r):brW b q r:=brW.of h1 h2
theorem vM {b:Bool} {p p':Prop} [h:BrC b p p'] {q r:Prop} (h1:p→q) (h2:p'→r):brM b q r:=brM.of h1 h2
section
variable {P:Program} {G:Gl}
theorem vC {f:Nat} {args:List V} {σ:Sig} {id:Nat} {K:V→Sig→Prop} {r:V} (h:OFn P G f args [] 0 r []) (hK:K r σ) (he:entT P f=true:=by kernel_rfl) (ha:args.map (V.sel (fw []))=args:=by with_unfolding_all rfl) (hr:r.sel (bk [] id)=r:=by with_unfolding_all rfl):CallW P G f args σ id K:=CallW.d h he ha hr hK
theorem vQ {lo:List Nat} {ops:Array Oper} {i f:Nat} {args:List V} {σ acc:Sig} {id:Nat} {K L:V→Sig→Prop} {r:V} (h:OFn P G f args [] 0 r []) (hK:K r []) (he:entT P f=true:=by kernel_rfl) (ha:args.map (V.sel (fw []))=args:=by with_unfolding_all rfl) (hr:r.sel (bk [] id)=r:=by with_unfolding_all rfl):callD P G lo ops i f args σ acc id K L:=callD.d h he ha hr hK
class CallL (p:Prop) (P:outParam Program) (G:outParam Gl) (f:outParam Nat) (args:outParam (List V)) (id:outParam Nat) (K:outParam (V→Prop)):Prop where
 of : ∀r,OFn P G f args [] 0 r []→entT P f=true→args.map (V.sel (fw []))=args→r.sel (bk [] id)=r→K r→p
instance {f:Nat} {args:List V} {σ:Sig} {id:Nat} {K:V→Sig→Prop} : CallL (CallW P G f args σ id K) P G f args id (fun r=>K r σ):=⟨fun _ h he ha hr hK=>CallW.d h he ha hr hK⟩
instance {lo:List Nat} {ops:Array Oper} {i f:Nat} {args:List V} {σ acc:Sig} {id:Nat} {K L:V→Sig→Prop} : CallL (callD P G lo ops i f args σ acc id K L) P G f args id (fun r=>K r []):=⟨fun _ h he ha hr hK=>callD.d h he ha hr hK⟩
theorem vY (ho:P.follows .mixedOrders=true) (lv:List Nat) {i:Nat} {args:List V} {σ:Sig} {id:Nat} {K:V→Sig→Prop} {y:Yd} {e:Env} (v:V) (σ':Sig)
 (h:codeW P G y.n id lv y.asg ⟨fillE y.ps.toList (args.map (V.sel (ltG id))) (e.sel (ltG id)),(σ.del i).sel (ltG id),id⟩ (seqK (fun st=>codeW P G y.n id lv y.body st (rndK G σ id i y e v σ')) (fun _ _=>False))) (hK:K v σ') (hg:σ.get i=some (.rc y none e):=by rfl) (hi:i<id:=by decide) (hps:y.ps.toList.all (fun p=>decide (p<y.n))=true:=by kernel_rfl) (hl:args.length=y.ps.size:=by rfl)
 (hn1:noR y.asg=true:=by kernel_rfl) (hn2:noR y.body=true:=by kernel_rfl) (ho1:codeOk y.n y.asg=true:=by kernel_rfl) (ho2:codeOk y.n y.body=true:=by kernel_rfl):YieldW P G i args σ id K:=
 YieldW.of ho lv hg hi hps hl hn1 hn2 ho1 ho2 h hK
theorem vRn (ho:P.follows .mixedOrders=true) {n m:Nat} {g:Operand} {ps:Array Nat} {asg body:Code} {st:St} {Q:Exit→St→Prop} {k:Nat} {caps:List V} {fn:Func} {c:Code} (lv:List Nat) (hf:P.funcs[k]? = some fn) (hb:fn.body=some c)
 (h:codeW P G fn.ntmps (st.nx+1) lv c ⟨argE 0 (.yl st.nx::caps),(st.nx,.rc ⟨n,ps,asg,body⟩ none st.env)::st.sg,st.nx+1⟩ (rngK G st Q)) (hg:evF G st.env.get g = .fn k caps:=by rfl) (he:entT P k=true:=by kernel_rfl) (hrs:fn.results = #[]:=by rfl) (hlen:caps.length+1≤fn.ntmps:=by decide) (hok:codeOk fn.ntmps c=true:=by kernel_rfl):RangeW P G n m g ps asg body st Q:=
 range_aw (fun _ _ _ _ hd=>callee_fn (hg▸hd)) he hf hb hrs hlen (codeW_sound ho c _ _ hok h)
theorem vF (ho:P.follows .mixedOrders=true) {f:Nat} {fn:Func} {c:Code} {rs:List ResultVar} {n:Nat} (lv:List Nat) (hf:P.funcs[f]? = some fn) (hb:fn.body=some c) (hrs:fn.results=rs.toArray) (hn:fn.ntmps=n)
 {args:List V} {σ:Sig} {m:Nat} {r:V} {σ':Sig} (h:codeW P G n m lv c ⟨argE 0 args,σ,m⟩ (retK (DoneW P G m rs r σ'))) (hok:codeOk n c=true:=by kernel_rfl) (hlen:args.length≤n:=by simp):OFn P G f args σ m r σ':=OFn.of_code ho lv hf hb hrs hn hok hlen h
theorem vL {n m:Nat} {lv:List Nat} (ho:P.follows .mixedOrders=true) {c:Code} {st:St} {Q:Exit→St→Prop} {α:Type} (S:α→St) (pre:α→Prop) (mu:α→Nat) (x0:α) (h0:GhW G m (fun st'=>st'=S x0) st) (hp:pre x0)
 (hr : ∀x,pre x→codeW P G n m lv c (S x) (seqK (fun st=>AgW G m S pre mu x st) Q)) (hok:codeOk n c=true:=by kernel_rfl):LoopW P G n m c st Q:=loopW_go ho hok S pre mu x0 h0 hp hr
theorem vFE (ho:P.follows .mixedOrders=true) {f:Nat} {fn:Func} {c:Code} {rs:List ResultVar} {n:Nat} (lv:List Nat) (hf:P.funcs[f]? = some fn) (hb:fn.body=some c) (hrs:fn.results=rs.toArray) (hn:fn.ntmps=n)
 {args:List V} {σ:Sig} {m:Nat} {ρ:Type} {R:ρ→Prop} {r:ρ→V} {σ':ρ→Sig} (h:codeE P G n m c lv ⟨argE 0 args,σ,m⟩ (retK (DoneE P G m rs R r σ'))) (hok:codeOk n c=true:=by kernel_rfl) (hlen:args.length≤n:=by simp) : ∃x,R x∧OFn P G f args σ m (r x) (σ' x):=OFn.ex ho lv hf hb hrs hn h hok hlen
theorem vLE {n m:Nat} {c:Code} {st:St} {Q:Exit→St→Prop} {α:Type} (lv:List Nat) (S:α→St) (pre:α→Prop) (mu:α→Nat) (x0:α) (h0:GhW G m (fun st'=>st'=S x0) st) (hp:pre x0)
 (hr : ∀x,pre x→codeE P G n m c lv (S x) (seqK (fun st=>AgW G m S pre mu x st) Q)):LoopE G m (fun lv st Q=>codeE P G n m c lv st Q) st Q:=⟨α,S,pre,mu,x0,lv,h0,hp,hr⟩
end
theorem vS {α:Sort _} {a b:α} (h:a=b:=by first|rfl|(refine vR ?_;first|done|exact True.intro|rfl|(refine v6 ?_;first|exact True.intro|(refine vR ?_;exact True.intro))|((try refine v6 ?_);simp only [St.mk.injEq,List.cons.injEq,Prod.mk.injEq,V.d.injEq,D.lit.injEq,Value.int.injEq,true_and,and_true];omega))):a=b:=h
theorem vT {α:Sort _} {a b:α} (h:a=b:=by (refine vR ?_;first|done|exact True.intro|rfl|(refine v6 ?_;first|exact True.intro|(refine vR ?_;exact True.intro))|((try refine v6 ?_);simp only [St.mk.injEq,List.cons.injEq,Prod.mk.injEq,V.d.injEq,D.lit.injEq,Value.int.injEq,true_and,and_true];omega))):a=b:=h
section
variable {P:Program} {G:Gl}
theorem owned_congr {σ τ:Sig} (he : ∀j,τ.get j=σ.get j) {β:Bet} {b:Nat} : owned σ β b↔owned τ β b:=by
 constructor
 ·rintro ⟨id,blk,c,h1,h2⟩;exact ⟨id,blk,c,by rw [he];exact h1,h2⟩
 ·rintro ⟨id,blk,c,h1,h2⟩;exact ⟨id,blk,c,by rw [←he];exact h1,h2⟩
theorem OFn.congr {f:Nat} {args:List V} {σ τ:Sig} {m:Nat} {r:V} {σ':Sig} (h:OFn P G f args σ m r σ') (he : ∀j,τ.get j=σ.get j):OFn P G f args τ m r σ':=by
 intro w I β vals hm hG hd
 have hm':Mem w I β σ m:=⟨fun id blk hb=>hm.own id blk (by rw [he];exact hb),fun i j b b' k c c' h1 h2=>hm.inj i j b b' k c c' (by rw [he];exact h1) (by rw [he];exact h2),hm.free,hm.lt⟩
 refine (h w I β vals hm' hG hd).mono ?_
 rintro e w' ⟨u,I',β',h1,h2,h3⟩
 exact ⟨u,I',β',h1,h2,{ h3 with
  block:=fun b hb ho=>h3.block b hb fun h=>ho ((owned_congr he).1 h)
  immn:=fun b hb=>by
   rcases h3.immn b hb with h|h|h
   ·exact .inl h
   ·exact .inr (.inl ((owned_congr he).1 h))
   ·exact .inr (.inr h)
  own':=fun b hb=>by
   rcases h3.own' b hb with h|h
   ·exact .inl ((owned_congr he).1 h)
   ·exact .inr h }⟩
theorem fw1 {i j k:Nat} (h:fw [i] j=some k):j=i∧k=0:=by
 obtain ⟨h1,h2⟩:=fw_spec h
 simp at h2
 subst h2
 simp at h1
 exact ⟨h1.symm,rfl⟩
theorem fw1_self (i:Nat):fw [i] i=some 0:=by simp [fw,idx]
theorem bk1_self (i id:Nat):bk [i] id 0=some i:=by simp [bk]
theorem get_fw1 {σ:Sig} {i:Nat} {b:Blk} (hg:σ.get i=some b) (j:Nat):(σ.sel (fw [i])).get j=Sig.get [(0,b.sel (fw [i]))] j:=by
 have hinj : ∀a a' j,fw [i] a=some j→fw [i] a'=some j→a=a':=fun a a' j h1 h2=>by rw [(fw1 h1).1,(fw1 h2).1]
 by_cases h0:j=0
 ·subst h0
  rw [Sig.get_sel' hinj (fw1_self i) σ b hg]
  rfl
 ·cases hs:(σ.sel (fw [i])).get j with
  | none=>simp [Sig.get,Ne.symm h0]
  | some c=>
   obtain ⟨a,c',h1,_,_⟩:=Sig.get_sel hinj σ j c hs
   exact (h0 (fw1 h1).2).elim
theorem does_own1 {f:Nat} {args args':List V} {σ:Sig} {id i:Nat} {b b0 b':Blk} {r:V} (hg:σ.get i=some b) (hi:i<id) (ha:args.map (V.sel (fw [i]))=args') (hb:b.sel (fw [i])=b0) (h:OFn P G f args' [(0,b0)] 1 r [(0,b')]) :
 Does P G f args σ id (r.sel (bk [i] id)) (σ.set i (b'.sel (bk [i] id))):=by
 have hl:okL [i] id σ=true:=by simp [okL,hi,hg]
 have h1:OFn P G f (args.map (V.sel (fw [i]))) (σ.sel (fw [i])) [i].length r [(0,b')]:=by
  rw [ha];subst hb
  exact h.congr (get_fw1 hg)
 have h2:=does_of [i] hl h1
 intro w I β nx vals hm hG hf hnx hd
 refine (h2 w I β nx vals hm hG hf hnx hd).mono ?_
 rintro e w' ⟨u,I',β',g1,g2,g3,g4⟩
 refine ⟨u,I',β',g1,g2,g3.congr fun j =>?_,g4⟩
 rw [Sig.get_set (by rw [hg];rfl),get_append,get_delL]
 have es:Sig.sel (bk [i] id) [(0,b')]=[(i,b'.sel (bk [i] id))]:=by simp [Sig.sel,bk1_self]
 rw [es]
 by_cases hj:j=i
 ·subst hj;simp [Sig.get]
 ·simp only [List.mem_singleton,hj,if_false]
  cases σ.get j with
  | some x=>rfl
  | none=>simp [Sig.get,Ne.symm hj]
theorem vO {f:Nat} {rest rest':List V} {σ:Sig} {id:Nat} {K:V→Sig→Prop} {i:Nat} {b b0 b':Blk} {r:V} (h:OFn P G f (.po 0 0::rest') [(0,b0)] 1 r [(0,b')]) (hK:K (r.sel (bk [i] id)) (σ.set i (b'.sel (bk [i] id))))
 (hg:σ.get i=some b:=by with_unfolding_all rfl) (hb:b.sel (fw [i])=b0:=by with_unfolding_all rfl) (ha:(V.po i 0::rest).map (V.sel (fw [i])) = .po 0 0::rest':=by with_unfolding_all rfl) (he:entT P f=true:=by kernel_rfl) (hi:i<id:=by with_unfolding_all decide):CallW P G f (.po i 0::rest) σ id K:=
 ⟨_,_,hK,.inl ⟨he,does_own1 hg hi ha hb h⟩⟩
theorem does_rd {f:Nat} {args args':List V} {σ:Sig} {id i:Nat} {b b0 b':Blk} {r r':V} (hg:σ.get i=some b) (hi:i<id) (ha:args.map (V.sel (fw [i]))=args') (hb:b.sel (fw [i])=b0) (hb':b'.sel (bk [i] id)=b) (hr:r.sel (bk [i] id)=r') (h:OFn P G f args' [(0,b0)] 1 r [(0,b')]) :
 Does P G f args σ id r' σ:=by
 have h2:=does_own1 hg hi ha hb h
 rw [hr,hb'] at h2
 intro w I β nx vals hm hG hf hnx hd
 refine (h2 w I β nx vals hm hG hf hnx hd).mono ?_
 rintro e w' ⟨u,I',β',g1,g2,g3,g4⟩
 refine ⟨u,I',β',g1,g2,g3.congr fun j =>?_,g4⟩
 rw [Sig.get_set (by rw [hg];rfl)]
 by_cases hj:j=i
 ·subst hj;rw [if_pos rfl];exact hg
 ·rw [if_neg hj]
theorem vOr {f:Nat} {rest rest':List V} {σ:Sig} {id:Nat} {K:V→Sig→Prop} {i:Nat} {b b0 b':Blk} {r r':V} (h:OFn P G f (.po 0 0::rest') [(0,b0)] 1 r [(0,b')]) (hK:K r' σ)
 (hg:σ.get i=some b:=by with_unfolding_all rfl) (hb:b.sel (fw [i])=b0:=by with_unfolding_all rfl) (ha:(V.po i 0::rest).map (V.sel (fw [i])) = .po 0 0::rest':=by with_unfolding_all rfl) (hb':b'.sel (bk [i] id)=b:=by with_unfolding_all rfl) (hr:r.sel (bk [i] id)=r':=by with_unfolding_all rfl) (he:entT P f=true:=by kernel_rfl) (hi:i<id:=by with_unfolding_all decide):CallW P G f (.po i 0::rest) σ id K:=
 ⟨_,_,hK,.inl ⟨he,does_rd hg hi ha hb hb' hr h⟩⟩
theorem vOq {lo:List Nat} {ops:Array Oper} {n f:Nat} {rest rest':List V} {σ acc:Sig} {id:Nat} {K L:V→Sig→Prop} {i:Nat} {b b0 b':Blk} {r r':V} (h:OFn P G f (.po 0 0::rest') [(0,b0)] 1 r [(0,b')]) (hK:K r' [])
 (hg:σ.get i=some b:=by with_unfolding_all rfl) (hb:b.sel (fw [i])=b0:=by with_unfolding_all rfl) (ha:(V.po i 0::rest).map (V.sel (fw [i])) = .po 0 0::rest':=by with_unfolding_all rfl) (hb':b'.sel (bk [i] id)=b:=by with_unfolding_all rfl) (hr:r.sel (bk [i] id)=r':=by with_unfolding_all rfl) (he:entT P f=true:=by kernel_rfl) (hi:i<id:=by with_unfolding_all decide):callD P G lo ops n f (.po i 0::rest) σ acc id K L:=
 .inl ⟨_,_,hK,.inl ⟨he,newIn_nil id,fun σ' hs=>by rw [List.append_nil];exact does_rd (hs i b hg) hi ha hb hb' hr h⟩⟩
theorem vK {f:Nat} {args:List V} {σ:Sig} {id:Nat} {K:V→Sig→Prop} {r:V} {σ1:Sig} (h:OFn P G f args [] 0 r σ1) (hK:K (r.sel (bk [] id)) (σ++σ1.sel (bk [] id))) (he:entT P f=true:=by kernel_rfl) (ha:args.map (V.sel (fw []))=args:=by with_unfolding_all rfl):CallW P G f args σ id K:=
 CallW.of [] he (by rw [ha,sel_none];exact h) rfl (by simpa [delL] using hK)
end
theorem vX {P:Program} {G:Gl} {f:Nat} {args:List V} {σ:Sig} {id:Nat} {K:V→Sig→Prop} (v:V) (hK:K v σ) (h:extV P f args=some v:=by kernel_rfl):CallW P G f args σ id K:=⟨v,σ,hK,.inr ⟨h,rfl⟩⟩
theorem CallW.two {P:Program} {G:Gl} {f:Nat} {args args':List V} {σ:Sig} {id:Nat} {K:V→Sig→Prop} {r:V} {b b' c c':Blk} (i j:Nat) (h:OFn P G f args' [(0,b),(1,c)] 2 r [(0,b'),(1,c')])
 (hK:K (r.sel (bk [i,j] id)) (delL σ [i,j]++Sig.sel (bk [i,j] id) [(0,b'),(1,c')])) (he:entT P f=true:=by kernel_rfl) (ha:args.map (V.sel (fw [i,j]))=args':=by rfl) (hs:σ.sel (fw [i,j])=[(0,b),(1,c)]:=by rfl) (hl:okL [i,j] id σ=true:=by rfl):CallW P G f args σ id K:=
 CallW.of [i,j] he (by rw [ha,hs];exact h) hl hK
theorem CallW.twoN {P:Program} {G:Gl} {f:Nat} {args args':List V} {σ σ1:Sig} {id:Nat} {K:V→Sig→Prop} {r:V} {b c:Blk} (i j:Nat) (h:OFn P G f args' [(0,b),(1,c)] 2 r σ1)
 (hK:K (r.sel (bk [i,j] id)) (delL σ [i,j]++Sig.sel (bk [i,j] id) σ1)) (he:entT P f=true:=by kernel_rfl) (ha:args.map (V.sel (fw [i,j]))=args':=by rfl) (hs:σ.sel (fw [i,j])=[(0,b),(1,c)]:=by rfl) (hl:okL [i,j] id σ=true:=by rfl):CallW P G f args σ id K:=
 CallW.of [i,j] he (by rw [ha,hs];exact h) hl hK
theorem CallW.oneN {P:Program} {G:Gl} {f:Nat} {args args':List V} {σ σ1:Sig} {id:Nat} {K:V→Sig→Prop} {r:V} {b:Blk} (i:Nat) (h:OFn P G f args' [(0,b)] 1 r σ1)
 (hK:K (r.sel (bk [i] id)) (delL σ [i]++Sig.sel (bk [i] id) σ1)) (he:entT P f=true:=by kernel_rfl) (ha:args.map (V.sel (fw [i]))=args':=by rfl) (hs:σ.sel (fw [i])=[(0,b)]:=by rfl) (hl:okL [i] id σ=true:=by rfl):CallW P G f args σ id K:=
 CallW.of [i] he (by rw [ha,hs];exact h) hl hK
theorem CallW.ofN {P:Program} {G:Gl} {f n:Nat} {args args':List V} {σ σ0 σ1:Sig} {id:Nat} {K:V→Sig→Prop} {r:V} (l:List Nat) (h:OFn P G f args' σ0 n r σ1)
 (hK:K (r.sel (bk l id)) (delL σ l++σ1.sel (bk l id))) (he:entT P f=true:=by kernel_rfl) (hn:l.length=n:=by rfl) (ha:args.map (V.sel (fw l))=args':=by rfl) (hs:σ.sel (fw l)=σ0:=by rfl) (hl:okL l id σ=true:=by rfl):CallW P G f args σ id K:=
 CallW.of l he (by rw [ha,hs,hn];exact h) hl hK
theorem vOd {P:Program} {G:Gl} {f:Nat} {args args':List V} {σ:Sig} {id:Nat} {K:V→Sig→Prop} (i:Nat) {b b0 b':Blk} {r r':V} (h:OFn P G f args' [(0,b0)] 1 r [(0,b')]) (hK:K r' σ)
 (hg:σ.get i=some b:=by with_unfolding_all rfl) (hb:b.sel (fw [i])=b0:=by with_unfolding_all rfl) (ha:args.map (V.sel (fw [i]))=args':=by with_unfolding_all rfl) (hb':b'.sel (bk [i] id)=b:=by with_unfolding_all rfl) (hr:r.sel (bk [i] id)=r':=by with_unfolding_all rfl) (he:entT P f=true:=by kernel_rfl) (hi:i<id:=by with_unfolding_all decide):CallW P G f args σ id K:=
 ⟨_,_,hK,.inl ⟨he,does_rd hg hi ha hb hb' hr h⟩⟩
theorem OFn.nil {P:Program} {G:Gl} {f:Nat} {args:List V} {σ:Sig} {m:Nat} {σ':Sig} (k:Nat) (b:Bool) (h:OFn P G f args σ m (.d (.lit (.slice none 0 0))) σ'):OFn P G f args σ m (.d (.sd k b [])) σ':=by
 intro w I β vals hm hG hd
 refine (h w I β vals hm hG hd).mono ?_
 rintro e w' ⟨u,I',β',h1,h2,h3⟩
 refine ⟨u,I',β',h1,?_,h3⟩
 cases h2 with
 | lit v=>exact .sd0 k b none
theorem OFn.nilOr {P:Program} {G:Gl} {f:Nat} {σ:Sig} {m:Nat} {r:V} {σ':Sig} (k:Nat) (b:Bool) (h1:OFn P G f [.d (.lit (.slice none 0 0))] σ m r σ') (h2:OFn P G f [.d (.ne k)] σ m r σ'):OFn P G f [.d (.sd k b [])] σ m r σ':=by
 intro w I β vals hm hG hd
 obtain ⟨hl,hd⟩:=hd
 match vals,hl with
 | [v],_=>
  have hv:DenD w I (.sd k b []) v:=hd 0 _ v rfl rfl
  have one : ∀x:V,Den w I β x v→DenL w I β [x] [v]:=fun x hx=>⟨rfl,fun i c y hc hy=>by
   match i,hc,hy with
   | 0,hc,hy=>
    simp only [List.getElem?_cons_zero,Option.some.injEq] at hc hy
    subst hc hy;exact hx
   | i+1,hc,hy=>simp at hc⟩
  cases hv with
  | sd _ _ _ b o cap=>exact h2 w I β [_] hm hG (one _ (DenD.ne k _ _))
  | sd0 _ _ a=>
   cases a with
   | none=>exact h1 w I β [_] hm hG (one _ (DenD.lit _))
   | some a=>exact h2 w I β [_] hm hG (one _ (DenD.ne k _ _))
theorem vRS {p q:Prop} (h:q) (e:p=q:=by simp -implicitDefEqProofs -dsimp (maxSteps:=3000000) only [push_cast,↓RR,↓SS,↓sig_get_c,↓reduceIte,Nat.reduceMul,Nat.reduceAdd,Nat.reduceSub,Nat.reduceEqDiff,Nat.reduceBeqDiff,Nat.reduceLeDiff,Nat.reduceLT,reduceCtorEq,Int.reduceToNat];exact rfl):p:=e▸h
inductive UsD {G:Prop} : G→Prop|i (h:G):UsD h
structure HdD (G:Prop):Prop where g:G
theorem hdD {G:Prop} (h:G) (_:UsD h):HdD G:=⟨h⟩
theorem zg {p:Prop} (h:p:=by (repeat' (first|(with_reducible first|exact True.intro|refine vD ?_|refine vG ?_|refine vE ?_)|refine vR ?_|refine v6 ?_|with_reducible refine vN ?_|((with_reducible first|refine vB (fun h =>?_) (fun h =>?_)|refine vM (fun h =>?_) (fun h =>?_))<;>(first|(exfalso;omega)|skip))));all_goals (refine HdD.g ?_;apply_rules (newGoals:= .nonDependentOnly) only [hdD,UsD.i])):p:=h
theorem zo {p:Prop} (h:p:=by (repeat' (first|(with_reducible first|exact True.intro|refine vD ?_|refine vG ?_|refine vE ?_)|with_reducible refine DoneW.out ?_|refine vR ?_|refine v6 ?_|with_reducible refine vN ?_|((with_reducible first|refine vB (fun h =>?_) (fun h =>?_)|refine vM (fun h =>?_) (fun h =>?_))<;>(first|(exfalso;omega)|skip))));all_goals (refine HdD.g ?_;apply_rules (newGoals:= .nonDependentOnly) only [hdD,UsD.i])):p:=h
theorem zg1 {p q0:Prop} (c0:q0) (h:q0→p:=by intro zc0;(repeat' (first|(with_reducible first|exact True.intro|refine vD ?_|refine vG ?_|refine vE ?_)|with_reducible refine vC zc0 ?_|with_reducible refine vQ zc0 ?_|refine vR ?_|refine v6 ?_|with_reducible refine vN ?_|((with_reducible first|refine vB (fun h =>?_) (fun h =>?_)|refine vM (fun h =>?_) (fun h =>?_))<;>(first|(exfalso;omega)|skip))));all_goals (clear zc0;refine HdD.g ?_;apply_rules (newGoals:= .nonDependentOnly) only [hdD,UsD.i])):p:=h c0
theorem zo1 {p q0:Prop} (c0:q0) (h:q0→p:=by intro zc0;(repeat' (first|(with_reducible first|exact True.intro|refine vD ?_|refine vG ?_|refine vE ?_)|with_reducible refine DoneW.out ?_|with_reducible refine vC zc0 ?_|with_reducible refine vQ zc0 ?_|refine vR ?_|refine v6 ?_|with_reducible refine vN ?_|((with_reducible first|refine vB (fun h =>?_) (fun h =>?_)|refine vM (fun h =>?_) (fun h =>?_))<;>(first|(exfalso;omega)|skip))));all_goals (clear zc0;refine HdD.g ?_;apply_rules (newGoals:= .nonDependentOnly) only [hdD,UsD.i])):p:=h c0
theorem zg2 {p q0 q1:Prop} (c0:q0) (c1:q1) (h:q0→q1→p:=by intro zc0 zc1;(repeat' (first|(with_reducible first|exact True.intro|refine vD ?_|refine vG ?_|refine vE ?_)|with_reducible refine vC zc0 ?_|with_reducible refine vQ zc0 ?_|with_reducible refine vC zc1 ?_|with_reducible refine vQ zc1 ?_|refine vR ?_|refine v6 ?_|with_reducible refine vN ?_|((with_reducible first|refine vB (fun h =>?_) (fun h =>?_)|refine vM (fun h =>?_) (fun h =>?_))<;>(first|(exfalso;omega)|skip))));all_goals (clear zc0;clear zc1;refine HdD.g ?_;apply_rules (newGoals:= .nonDependentOnly) only [hdD,UsD.i])):p:=h c0 c1
theorem zo2 {p q0 q1:Prop} (c0:q0) (c1:q1) (h:q0→q1→p:=by intro zc0 zc1;(repeat' (first|(with_reducible first|exact True.intro|refine vD ?_|refine vG ?_|refine vE ?_)|with_reducible refine DoneW.out ?_|with_reducible refine vC zc0 ?_|with_reducible refine vQ zc0 ?_|with_reducible refine vC zc1 ?_|with_reducible refine vQ zc1 ?_|refine vR ?_|refine v6 ?_|with_reducible refine vN ?_|((with_reducible first|refine vB (fun h =>?_) (fun h =>?_)|refine vM (fun h =>?_) (fun h =>?_))<;>(first|(exfalso;omega)|skip))));all_goals (clear zc0;clear zc1;refine HdD.g ?_;apply_rules (newGoals:= .nonDependentOnly) only [hdD,UsD.i])):p:=h c0 c1
theorem zg3 {p q0 q1 q2:Prop} (c0:q0) (c1:q1) (c2:q2) (h:q0→q1→q2→p:=by intro zc0 zc1 zc2;(repeat' (first|(with_reducible first|exact True.intro|refine vD ?_|refine vG ?_|refine vE ?_)|with_reducible refine vC zc0 ?_|with_reducible refine vQ zc0 ?_|with_reducible refine vC zc1 ?_|with_reducible refine vQ zc1 ?_|with_reducible refine vC zc2 ?_|with_reducible refine vQ zc2 ?_|refine vR ?_|refine v6 ?_|with_reducible refine vN ?_|((with_reducible first|refine vB (fun h =>?_) (fun h =>?_)|refine vM (fun h =>?_) (fun h =>?_))<;>(first|(exfalso;omega)|skip))));all_goals (clear zc0;clear zc1;clear zc2;refine HdD.g ?_;apply_rules (newGoals:= .nonDependentOnly) only [hdD,UsD.i])):p:=h c0 c1 c2
theorem zo3 {p q0 q1 q2:Prop} (c0:q0) (c1:q1) (c2:q2) (h:q0→q1→q2→p:=by intro zc0 zc1 zc2;(repeat' (first|(with_reducible first|exact True.intro|refine vD ?_|refine vG ?_|refine vE ?_)|with_reducible refine DoneW.out ?_|with_reducible refine vC zc0 ?_|with_reducible refine vQ zc0 ?_|with_reducible refine vC zc1 ?_|with_reducible refine vQ zc1 ?_|with_reducible refine vC zc2 ?_|with_reducible refine vQ zc2 ?_|refine vR ?_|refine v6 ?_|with_reducible refine vN ?_|((with_reducible first|refine vB (fun h =>?_) (fun h =>?_)|refine vM (fun h =>?_) (fun h =>?_))<;>(first|(exfalso;omega)|skip))));all_goals (clear zc0;clear zc1;clear zc2;refine HdD.g ?_;apply_rules (newGoals:= .nonDependentOnly) only [hdD,UsD.i])):p:=h c0 c1 c2
theorem zo4 {p q0 q1 q2 q3:Prop} (c0:q0) (c1:q1) (c2:q2) (c3:q3) (h:q0→q1→q2→q3→p:=by intro zc0 zc1 zc2 zc3;(repeat' (first|(with_reducible first|exact True.intro|refine vD ?_|refine vG ?_|refine vE ?_)|with_reducible refine DoneW.out ?_|with_reducible refine vC zc0 ?_|with_reducible refine vQ zc0 ?_|with_reducible refine vC zc1 ?_|with_reducible refine vQ zc1 ?_|with_reducible refine vC zc2 ?_|with_reducible refine vQ zc2 ?_|with_reducible refine vC zc3 ?_|with_reducible refine vQ zc3 ?_|refine vR ?_|refine v6 ?_|with_reducible refine vN ?_|((with_reducible first|refine vB (fun h =>?_) (fun h =>?_)|refine vM (fun h =>?_) (fun h =>?_))<;>(first|(exfalso;omega)|skip))));all_goals (clear zc0;clear zc1;clear zc2;clear zc3;refine HdD.g ?_;apply_rules (newGoals:= .nonDependentOnly) only [hdD,UsD.i])):p:=h c0 c1 c2 c3
theorem zo5 {p q0 q1 q2 q3 q4:Prop} (c0:q0) (c1:q1) (c2:q2) (c3:q3) (c4:q4) (h:q0→q1→q2→q3→q4→p:=by intro zc0 zc1 zc2 zc3 zc4;(repeat' (first|(with_reducible first|exact True.intro|refine vD ?_|refine vG ?_|refine vE ?_)|with_reducible refine DoneW.out ?_|with_reducible refine vC zc0 ?_|with_reducible refine vQ zc0 ?_|with_reducible refine vC zc1 ?_|with_reducible refine vQ zc1 ?_|with_reducible refine vC zc2 ?_|with_reducible refine vQ zc2 ?_|with_reducible refine vC zc3 ?_|with_reducible refine vQ zc3 ?_|with_reducible refine vC zc4 ?_|with_reducible refine vQ zc4 ?_|refine vR ?_|refine v6 ?_|with_reducible refine vN ?_|((with_reducible first|refine vB (fun h =>?_) (fun h =>?_)|refine vM (fun h =>?_) (fun h =>?_))<;>(first|(exfalso;omega)|skip))));all_goals (clear zc0;clear zc1;clear zc2;clear zc3;clear zc4;refine HdD.g ?_;apply_rules (newGoals:= .nonDependentOnly) only [hdD,UsD.i])):p:=h c0 c1 c2 c3 c4
theorem zgK {p q0:Prop} (c0:q0) (h:q0→p:=by intro zc0;(repeat' (first|(with_reducible first|exact True.intro|refine vD ?_|refine vG ?_|refine vE ?_)|with_reducible refine vK zc0 ?_|refine vR ?_|refine v6 ?_|with_reducible refine vN ?_|((with_reducible first|refine vB (fun h =>?_) (fun h =>?_)|refine vM (fun h =>?_) (fun h =>?_))<;>(first|(exfalso;omega)|skip))));all_goals (clear zc0;refine HdD.g ?_;apply_rules (newGoals:= .nonDependentOnly) only [hdD,UsD.i])):p:=h c0
theorem zgO {p q0:Prop} (c0:q0) (h:q0→p:=by intro zc0;(repeat' (first|(with_reducible first|exact True.intro|refine vD ?_|refine vG ?_|refine vE ?_)|with_reducible refine vO zc0 ?_|refine vR ?_|refine v6 ?_|with_reducible refine vN ?_|((with_reducible first|refine vB (fun h =>?_) (fun h =>?_)|refine vM (fun h =>?_) (fun h =>?_))<;>(first|(exfalso;omega)|skip))));all_goals (clear zc0;refine HdD.g ?_;apply_rules (newGoals:= .nonDependentOnly) only [hdD,UsD.i])):p:=h c0
theorem zgR {p q0:Prop} (c0:q0) (h:q0→p:=by intro zc0;(repeat' (first|(with_reducible first|exact True.intro|refine vD ?_|refine vG ?_|refine vE ?_)|with_reducible refine vOr zc0 ?_|refine vR ?_|refine v6 ?_|with_reducible refine vN ?_|((with_reducible first|refine vB (fun h =>?_) (fun h =>?_)|refine vM (fun h =>?_) (fun h =>?_))<;>(first|(exfalso;omega)|skip))));all_goals (clear zc0;refine HdD.g ?_;apply_rules (newGoals:= .nonDependentOnly) only [hdD,UsD.i])):p:=h c0
theorem zgE {p q0:Prop} (c0:q0) (h:q0→p:=by intro zc0;(repeat' (first|(with_reducible first|exact True.intro|refine vD ?_|refine vG ?_|refine vE ?_)|with_reducible refine elX.is _ _ (by omega) zc0 ?_|refine vR ?_|refine v6 ?_|with_reducible refine vN ?_|((with_reducible first|refine vB (fun h =>?_) (fun h =>?_)|refine vM (fun h =>?_) (fun h =>?_))<;>(first|(exfalso;omega)|skip))));all_goals (clear zc0;refine HdD.g ?_;apply_rules (newGoals:= .nonDependentOnly) only [hdD,UsD.i])):p:=h c0
theorem zoE {p q0:Prop} (c0:q0) (h:q0→p:=by intro zc0;(repeat' (first|(with_reducible first|exact True.intro|refine vD ?_|refine vG ?_|refine vE ?_)|with_reducible refine DoneW.out ?_|with_reducible refine elX.is _ _ (by omega) zc0 ?_|refine vR ?_|refine v6 ?_|with_reducible refine vN ?_|((with_reducible first|refine vB (fun h =>?_) (fun h =>?_)|refine vM (fun h =>?_) (fun h =>?_))<;>(first|(exfalso;omega)|skip))));all_goals (clear zc0;refine HdD.g ?_;apply_rules (newGoals:= .nonDependentOnly) only [hdD,UsD.i])):p:=h c0
end Go.Proofs.YtkhonlnajdfhfaaGreatDoor
