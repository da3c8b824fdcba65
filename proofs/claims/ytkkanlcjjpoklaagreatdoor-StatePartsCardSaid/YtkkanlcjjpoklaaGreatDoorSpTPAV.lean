/- What the theorem leans on, part 22. -/
import Derived.Test.YtkkanlcjjpoklaaGreatDoorSpTPAD
set_option linter.unusedSimpArgs false
set_option linter.unusedVariables false
namespace Go.Proofs.YtkkanlcjjpoklaaGreatDoor
section
variable {P:Program} {G:Gl} {g:Operand→V} {σ:ae} {id:Nat} {K:V→ae→Prop}
theorem qF (t:Nat):aG P G (.makeMap t none) g σ id K=K (.mo id) (σ++[(id,.map [])]):=by
 simp [aG,cz,aW,bD,gU,aR,eR,d5,mr]
end
attribute [push_cast] qF K8.eq_def K5.eq_def K9.eq_def K6.eq_def
theorem gR.two {P:Program} {k:Nat} {f g:Field} {a b:IntKind} (h:ue P k [.int a,.int b]) (hu:P.underlying k=some (.struct #[f,g])) (hf:cW P f.type=some (1,false)) (hg:cW P g.type=some (1,false)) (hfu:P.underlying f.type=some (.int a)) (hgu:P.underlying g.type=some (.int b)) (ho:f.offset=0) (hp:g.offset=1):gR P k [.int a,.int b]:=by
 refine ⟨h,fun e vs w hv =>?_⟩;obtain ⟨x,y,rfl⟩ : ∃x y,vs=[x,y]:=by
  match vs,hv with
  | [x,y],_=>exact ⟨x,y,rfl⟩
  | [],hv=>exact hv.elim
  | [_],hv=>exact hv.2.elim
  | _::_::_::_,hv=>exact hv.2.2.elim
 obtain ⟨⟨n,rfl⟩,⟨m,rfl⟩,-⟩:=hv;have k1 : ∀z,(Instr.checkKey e (z+1) f.type (.int a n)).run P w = .ok () w:=fun z=>by simp [Instr.checkKey,run_underlying hfu]
 have k2 : ∀z,(Instr.checkKey e (z+1) g.type (.int b m)).run P w = .ok () w:=fun z=>by simp [Instr.checkKey,run_underlying hgu]
 have p1:(part f.type #[.int a n,.int b m] 0).run P w = .ok (.int a n) w:=by rw [pj hf];rfl
 have p2:(part g.type #[.int a n,.int b m] 1).run P w = .ok (.int b m) w:=by rw [pj hg];rfl
 show (Instr.checkKey e (9998+1+1) k _).run P w=_;rw [Instr.checkKey];simp only [Sem.run_bind,run_underlying hu,Result.andThen_ok];by_cases hn:f.name = "_" <;> by_cases hm:g.name = "_" <;> simp [hn,hm,ho,hp,p1,p2,k1,k2]
def K3 (P:Program) (k:Nat) (a b:IntKind):Bool:=match P.underlying k with
 | some (.struct fs)=>match fs with
  | ⟨[f,g]⟩=>decide (cW P f.type=some (1,false))&&decide (cW P g.type=some (1,false))&&(match P.underlying f.type with|some (.int a')=>a'==a|_=>false)&&(match P.underlying g.type with|some (.int b')=>b'==b|_=>false)&&decide (f.offset=0)&&decide (g.offset=1)
  | _=>false
 | _=>false
theorem gR.of2 {P:Program} {k:Nat} {a b:IntKind} (h:ue P k [.int a,.int b]) (hk:K3 P k a b=true):gR P k [.int a,.int b]:=by
 unfold K3 at hk;split at hk
 ·rename_i fs hu;split at hk
  ·rename_i f g;simp only [Bool.and_eq_true,decide_eq_true_eq] at hk;obtain ⟨⟨⟨⟨⟨h1,h2⟩,h3⟩,h4⟩,h5⟩,h6⟩:=hk;refine gR.two h hu h1 h2 ?_ ?_ h5 h6
   ·split at h3
    ·rename_i a' e;rw [e,eq_of_beq h3]
    ·cases h3
   ·split at h4
    ·rename_i a' e;rw [e,eq_of_beq h4]
    ·cases h4
  ·cases hk
 ·cases hk
end Go.Proofs.YtkkanlcjjpoklaaGreatDoor
