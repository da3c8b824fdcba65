/- What the theorem leans on, part 5. -/
import Derived.Test.YtkhonlnajdfhfaaDoorStTPAD
set_option linter.unusedVariables false
namespace Go.Proofs.YtkhonlnajdfhfaaDoor
abbrev BQ:=Nat→List V→aa→Nat→Option (V × aa)
structure Gg where
 call:BQ
 rnd:BQ
def DA:Value→Value→Bool
 | .int k n,.int k' n'=>decide (k=k')&&decide (n=n')
 | .bool a,.bool b=>a==b
 | .string a,.string b=>a.data.toList==b.data.toList
 | .pointer none,.pointer none=>true
 | .slice none 0 0,.slice none 0 0=>true
 | .nilIface,.nilIface=>true
 | _,_=>false
mutual
def Dz:D→D→Bool
 | .lit a,.lit b=>DA a b
 | .agg a,.agg b=>tT a b
 | .sd k f a,.sd k' f' b=>k==k'&&f==f'&&tT a b
 | .pd k a i j,.pd k' b i' j'=>k==k'&&i==i'&&j==j'&&tT a b
 | .fn f a,.fn g b=>f==g&&tT a b
 | .ifc t a,.ifc u b=>t==u&&Dz a b
 | .bf f a,.bf g b=>f==g&&tT a b
 | _,_=>false
def tT:List D→List D→Bool
 | [],[]=>true
 | x::xs,y::ys=>Dz x y&&tT xs ys
 | _,_=>false
end
def EB:List V→List D→Bool
 | [],[]=>true
 | .d x::xs,y::ys=>Dz x y&&EB xs ys
 | _,_=>false
abbrev CU:=List (Nat × List D × V)
def orc:CU→Nat→List V→Option V
 | [],_,_=>none
 | (g,az,r)::t,f,args=>match Nat.beq g f with
  | true=>(match EB args az with
   | true=>some r
   | false=>orc t f args)
  | false=>orc t f args
structure Dv where
 fn:Nat→Bool
 trim:Bool:=false
 orc:CU:=[]
instance:CoeFun Dv (fun _=>Nat→Bool):=⟨Dv.fn⟩
def keepM:Nat→aF→aF
 | _,[]=>[]
 | m,(k,v)::r=>if Nat.testBit m k=true then (k,v)::keepM (m ^^^ 2 ^ k) r else keepM m r
abbrev rT:=Nat→Nat→Code→St→Option (Exit × St)
end Go.Proofs.YtkhonlnajdfhfaaDoor
set_option linter.unusedSimpArgs false
set_option linter.unusedVariables false
set_option maxRecDepth 8000
namespace Go.Proofs.YtkhonlnajdfhfaaDoor
section
variable {P:Program} {g:Operand→V} {σ:aa} {id:Nat}
end
section
variable {P:Program} {G:Gl} {run:Gg} {g:Operand→V} {σ:aa} {id:Nat}
end
theorem i7 : ∀(e:aF) (m j:Nat),Nat.testBit m j=false→(keepM m e).get j = .unk
 | [],m,j,_=>by simp [keepM,aF.get]
 | (k,v)::r,m,j,h=>by
  unfold keepM;split
  ·rename_i hk;have hne:k≠j:=by rintro rfl;rw [h] at hk;cases hk
   show (if k=j then v else (keepM _ r).get j) = .unk;rw [if_neg hne];exact i7 r _ j (by rw [Nat.testBit_xor,h,Nat.testBit_two_pow_of_ne hne];rfl)
  ·exact i7 r m j h
theorem i4 : ∀(e:aF) (m j:Nat),(keepM m e).get j=e.get j∨(keepM m e).get j = .unk
 | [],m,j=>by simp [keepM]
 | (k,v)::r,m,j=>by
  unfold keepM;split
  ·show (if k=j then v else (keepM _ r).get j)=(if k=j then v else aF.get r j)∨(if k=j then v else (keepM _ r).get j) = .unk;split
   ·exact .inl rfl
   ·exact i4 r _ j
  ·rename_i hk;by_cases hj:k=j
   ·subst hj;exact .inr (i7 r m k (by simpa using hk))
   ·show _=(if k=j then v else aF.get r j)∨_;rw [if_neg hj];exact i4 r m j
section
variable {P:Program} {G:Gl} {M:Dv}
theorem dg.keepM {C:mA} {e:aF} {σ:aa} {nx lim:Nat} {a:Act} {w:World} (h:dg C G e σ nx lim a w) (lm:Nat):dg C G (keepM lm e) σ nx lim a w:=by
 obtain ⟨I,β,h1,h2,h3,h4⟩:=h;refine ⟨I,β,h1,h2,fun t =>?_,h4⟩;rcases i4 e lm t with h|h
 ·rw [h];exact h3 t
 ·rw [h];trivial
theorem al.weak {w w':World} {I I':Nat→Prop} {β β':bF} {σ σ' σ'':aa} {nx nx':Nat} (h:al w I β σ nx w' I' β' σ' nx') (he : ∀j b,σ''.get j=some b → ∃c,σ'.get j=some c∧(iU w' I' β' j c→iU w' I' β' j b)):al w I β σ nx w' I' β' σ'' nx':=
 { h with
  mem:=⟨fun id b hb=>by obtain ⟨c,h1,h2⟩:=he id b hb;exact h2 (h.mem.own id c h1),fun i j b b' k c c' h1 h2=>by
   obtain ⟨x,h3,_⟩:=he _ _ h1;obtain ⟨y,h4,_⟩:=he _ _ h2;exact h.mem.inj i j x y k c c' h3 h4,h.mem.free,h.mem.lt⟩
  own':=fun b ⟨id,blk,c,h1,h2⟩=>by obtain ⟨x,h3,_⟩:=he _ _ h1;exact h.own' b ⟨id,x,c,h3,h2⟩ }
theorem iU.take {w:World} {I:Nat→Prop} {β:bF} {id k:Nat} {es:List D} {ty:Option Nat} (m:Nat) (h:iU w I β id (.row k es ty)):iU w I β id (.row k (es.take m) ty):=by
 rcases h with ⟨h1,h2⟩|⟨b,cap,cur,t,h1,h2,h3,h4,h5,h6⟩
 ·exact .inl ⟨h1,by rw [h2];simp⟩
 ·refine .inr ⟨b,cap,cur,t,h1,h2,h3,by simp;omega,h5,fun i e hi=>h6 i e ?_⟩;rw [List.getElem?_take] at hi;split at hi
  ·exact hi
  ·cases hi
abbrev te (e:Exit) (st:St):Exit→St→Prop:=fun e' s'=>e'=e∧s'=st
theorem AW.le {n m:Nat} {c:Code} {st st':St} {Q:Exit→St→Prop} (hle:cS G m st st') (h:AW P G n m c st' Q):AW P G n m c st Q:=
 fun fr hfr C a w hn hm hr=>h fr hfr C a w hn hm (hle C a w hm hr)
theorem n8 (fr:Option Nat) (k:Nat):(Fr fr).room k:=fun _ h=>by cases h
def AL (P:Program) (G:Gl) (n m:Nat) (c:Code) (st:St) (Q:Exit→St→Prop):Prop:=
 ∀fr,(fr=none∨pu c=true) → ∀(C:mA) a w,C.n=n→C.nx=m→ou C G st a w → ∀(b:Frame) kk cs,b.roundOf=fr → ∃e a' w',(∃st',Q e st'∧ou C G st' a' w')∧ArrivesIn (Machine.fenced P (Fr fr)) P (lone (b.atR a (.code c :: .inLoop c::kk)) cs w) b kk cs e a' w'
theorem AL.aw {n m:Nat} {c:Code} {st:St} {Q:Exit→St→Prop} (h:AL P G n m c st Q):AW P G n m (.loop c) st Q:=fun fr hfr C a w hn hm hr b kk cs hro hb hroom=>by
 obtain ⟨e,a',w',hq,harr⟩:=h fr hfr C a w hn hm hr b kk cs hro;exact ⟨e,a',w',hq,.of_steps (.one (fenced_calm hb hroom rfl) stepR_loop) harr⟩
theorem AL.round {n m:Nat} {c:Code} {st xC:St} {Q:Exit→St→Prop} (h:AW P G n m c st (te .normal xC)) (k:AL P G n m c xC Q):AL P G n m c st Q:=fun fr hfr C a w hn hm hr b kk cs hro=>by
 obtain ⟨e,a',w',⟨st',⟨rfl,rfl⟩,hr2⟩,harr⟩:=h fr hfr C a w hn hm hr b (.inLoop c::kk) cs hro trivial (n8 fr _);obtain ⟨e2,a2,w2,hq2,harr2⟩:=k fr hfr C a' w' hn hm hr2 b kk cs hro;exact ⟨e2,a2,w2,hq2,.of_steps (StepsIn.trans harr (.one (fenced_calm (n:=0) trivial (n8 fr _) rfl) stepR_inLoop)) harr2⟩
theorem AL.out {n m:Nat} {c:Code} {st xC:St} {e1:Exit} (hne:e1 ≠ .normal) (h:AW P G n m c st (te e1 xC)):AL P G n m c st (te e1 xC):=fun fr hfr C a w hn hm hr b kk cs hro=>by
 obtain ⟨e,a',w',⟨st',⟨rfl,rfl⟩,hr2⟩,harr⟩:=h fr hfr C a w hn hm hr b (.inLoop c::kk) cs hro trivial (n8 fr _);exact ⟨_,a',w',⟨st',⟨rfl,rfl⟩,hr2⟩,.pass (x:= .inLoop c) rfl (fun _ _=> .inl hne) harr⟩
def va (P:Program) (G:Gl) (code:rT):Prop:= ∀n lm c st e st',code n lm c st=some (e,st') → ∀m,aT n c=true→AW P G n m c st (te e st') ∧ ∀c',c = .loop c'→AL P G n m c' st (te e st')
theorem va.aw {code:rT} (h:va P G code) {lm:Nat} {c:Code} {st st':St} {e:Exit} {n:Nat} (hc:code n lm c st=some (e,st')) (hok:aT n c=true) (m:Nat):AW P G n m c st (te e st'):=(h n lm c st e st' hc m hok).1
def oz (P:Program) (G:Gl) (T:CU):Prop:= ∀x∈T,aG P G x.1 (x.2.1.map V.d) [] 0 x.2.2 []
theorem oz.nil:oz P G []:=fun x h=>by cases h
theorem oz.cons {f:Nat} {az:List D} {r:V} {T:CU} (h:aG P G f (az.map V.d) [] 0 r []) (k:oz P G T):oz P G ((f,az,r)::T):=fun x hx=>by
 rcases List.mem_cons.1 hx with rfl|hx
 ·exact h
 ·exact k x hx
end
abbrev Cg (r:Int):D:= .lit (.int .i32 r)

end Go.Proofs.YtkhonlnajdfhfaaDoor
