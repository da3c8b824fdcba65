/- What the theorem leans on, part 21. -/
import Derived.Test.YtkkanlcjjpoklaaGreatDoorStUPAD
set_option linter.unusedSimpArgs false
set_option linter.unusedVariables false
namespace Go.Proofs.YtkkanlcjjpoklaaGreatDoor
section
variable {P:Program} {G:Gl} {g:Operand→V} {σ:ak} {id:Nat} {K:V→ak→Prop}
theorem pO (t:Nat) (m k x:Operand):aQ P G (.mapUpdate t m k x) g σ id K=dd (PC P t (g m) (g k) (g x) σ) K:=by
 simp only [aQ,cX,a8,bX,gU,aR,eR,eV];cases PC P t (g m) (g k) (g x) σ with
 | none=>rfl
 | some x=>obtain ⟨p,v,s⟩:=x;simp [dd,cp]
theorem yn (t:Nat) (m k:Operand) (ok:Bool):aQ P G (.lookup t m k ok) g σ id K=dd (Px P t (g m) (g k) ok σ) K:=by
 simp only [aQ,cX,a8,bX,gU,aR,eR,eV];cases Px P t (g m) (g k) ok σ with
 | none=>rfl
 | some x=>obtain ⟨p,v,s⟩:=x;simp [dd,cp]
theorem uH (t:Nat):aQ P G (.makeMap t none) g σ id K=K (.mo id) (σ++[(id,.map [])]):=by
 simp [aQ,cX,a8,bX,gU,aR,eR,eV,oX]
end
attribute [push_cast] pO yn uH PC.eq_def Px.eq_def RK.eq_def RJ.eq_def
theorem gO.two {P:Program} {k:Nat} {f g:Field} {a b:IntKind} (h:lV P k [.int a,.int b]) (hu:P.underlying k=some (.struct #[f,g])) (hf:cF P f.type=some (1,false)) (hg:cF P g.type=some (1,false)) (hfu:P.underlying f.type=some (.int a)) (hgu:P.underlying g.type=some (.int b)) (ho:f.offset=0) (hp:g.offset=1):gO P k [.int a,.int b]:=by
 refine ⟨h,fun e vs w hv =>?_⟩;obtain ⟨x,y,rfl⟩ : ∃x y,vs=[x,y]:=by
  match vs,hv with
  | [x,y],_=>exact ⟨x,y,rfl⟩
  | [],hv=>exact hv.elim
  | [_],hv=>exact hv.2.elim
  | _::_::_::_,hv=>exact hv.2.2.elim
 obtain ⟨⟨n,rfl⟩,⟨m,rfl⟩,-⟩:=hv;have k1 : ∀z,(Instr.checkKey e (z+1) f.type (.int a n)).run P w = .ok () w:=fun z=>by simp [Instr.checkKey,run_underlying hfu]
 have k2 : ∀z,(Instr.checkKey e (z+1) g.type (.int b m)).run P w = .ok () w:=fun z=>by simp [Instr.checkKey,run_underlying hgu]
 have p1:(part f.type #[.int a n,.int b m] 0).run P w = .ok (.int a n) w:=by rw [sB hf];rfl
 have p2:(part g.type #[.int a n,.int b m] 1).run P w = .ok (.int b m) w:=by rw [sB hg];rfl
 show (Instr.checkKey e (9998+1+1) k _).run P w=_;rw [Instr.checkKey];simp only [Sem.run_bind,run_underlying hu,Result.andThen_ok];by_cases hn:f.name = "_" <;> by_cases hm:g.name = "_" <;> simp [hn,hm,ho,hp,p1,p2,k1,k2]
def RG (P:Program) (k:Nat) (a b:IntKind):Bool:=match P.underlying k with
 | some (.struct fs)=>match fs with
  | ⟨[f,g]⟩=>decide (cF P f.type=some (1,false))&&decide (cF P g.type=some (1,false))&&(match P.underlying f.type with|some (.int a')=>a'==a|_=>false)&&(match P.underlying g.type with|some (.int b')=>b'==b|_=>false)&&decide (f.offset=0)&&decide (g.offset=1)
  | _=>false
 | _=>false
theorem gO.of2 {P:Program} {k:Nat} {a b:IntKind} (h:lV P k [.int a,.int b]) (hk:RG P k a b=true):gO P k [.int a,.int b]:=by
 unfold RG at hk;split at hk
 ·rename_i fs hu;split at hk
  ·rename_i f g;simp only [Bool.and_eq_true,decide_eq_true_eq] at hk;obtain ⟨⟨⟨⟨⟨h1,h2⟩,h3⟩,h4⟩,h5⟩,h6⟩:=hk;refine gO.two h hu h1 h2 ?_ ?_ h5 h6
   ·split at h3
    ·rename_i a' e;rw [e,eq_of_beq h3]
    ·cases h3
   ·split at h4
    ·rename_i a' e;rw [e,eq_of_beq h4]
    ·cases h4
  ·cases hk
 ·cases hk
end Go.Proofs.YtkkanlcjjpoklaaGreatDoor
