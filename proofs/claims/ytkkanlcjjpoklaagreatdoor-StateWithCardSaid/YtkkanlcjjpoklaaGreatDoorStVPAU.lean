/- What the theorem leans on, part 21. -/
import Derived.Test.YtkkanlcjjpoklaaGreatDoorStVPAD
set_option linter.unusedSimpArgs false
set_option linter.unusedVariables false
namespace Go.Proofs.YtkkanlcjjpoklaaGreatDoor
section
variable {P:Program} {G:Gl} {g:Operand→V} {σ:ak} {id:Nat} {K:V→ak→Prop}
theorem qB (t:Nat) (m k x:Operand):aT P G (.mapUpdate t m k x) g σ id K=dx (Sa P t (g m) (g k) (g x) σ) K:=by
 simp only [aT,dl,bg,ce,iK,aR,eR,fz];cases Sa P t (g m) (g k) (g x) σ with
 | none=>rfl
 | some x=>obtain ⟨p,v,s⟩:=x;simp [dx,cG]
theorem Am (t:Nat) (m k:Operand) (ok:Bool):aT P G (.lookup t m k ok) g σ id K=dx (R6 P t (g m) (g k) ok σ) K:=by
 simp only [aT,dl,bg,ce,iK,aR,eR,fz];cases R6 P t (g m) (g k) ok σ with
 | none=>rfl
 | some x=>obtain ⟨p,v,s⟩:=x;simp [dx,cG]
theorem wm (t:Nat):aT P G (.makeMap t none) g σ id K=K (.mo id) (σ++[(id,.map [])]):=by
 simp [aT,dl,bg,ce,iK,aR,eR,fz,pT]
end
attribute [push_cast] qB Am wm Sa.eq_def R6.eq_def Ui.eq_def Uh.eq_def
theorem iG.two {P:Program} {k:Nat} {f g:Field} {a b:IntKind} (h:gU P k [.int a,.int b]) (hu:P.underlying k=some (.struct #[f,g])) (hf:cu P f.type=some (1,false)) (hg:cu P g.type=some (1,false)) (hfu:P.underlying f.type=some (.int a)) (hgu:P.underlying g.type=some (.int b)) (ho:f.offset=0) (hp:g.offset=1):iG P k [.int a,.int b]:=by
 refine ⟨h,fun e vs w hv =>?_⟩;obtain ⟨x,y,rfl⟩ : ∃x y,vs=[x,y]:=by
  match vs,hv with
  | [x,y],_=>exact ⟨x,y,rfl⟩
  | [],hv=>exact hv.elim
  | [_],hv=>exact hv.2.elim
  | _::_::_::_,hv=>exact hv.2.2.elim
 obtain ⟨⟨n,rfl⟩,⟨m,rfl⟩,-⟩:=hv;have k1 : ∀z,(Instr.checkKey e (z+1) f.type (.int a n)).run P w = .ok () w:=fun z=>by simp [Instr.checkKey,run_underlying hfu]
 have k2 : ∀z,(Instr.checkKey e (z+1) g.type (.int b m)).run P w = .ok () w:=fun z=>by simp [Instr.checkKey,run_underlying hgu]
 have p1:(part f.type #[.int a n,.int b m] 0).run P w = .ok (.int a n) w:=by rw [tD hf];rfl
 have p2:(part g.type #[.int a n,.int b m] 1).run P w = .ok (.int b m) w:=by rw [tD hg];rfl
 show (Instr.checkKey e (9998+1+1) k _).run P w=_;rw [Instr.checkKey];simp only [Sem.run_bind,run_underlying hu,Result.andThen_ok];by_cases hn:f.name = "_" <;> by_cases hm:g.name = "_" <;> simp [hn,hm,ho,hp,p1,p2,k1,k2]
def Ue (P:Program) (k:Nat) (a b:IntKind):Bool:=match P.underlying k with
 | some (.struct fs)=>match fs with
  | ⟨[f,g]⟩=>decide (cu P f.type=some (1,false))&&decide (cu P g.type=some (1,false))&&(match P.underlying f.type with|some (.int a')=>a'==a|_=>false)&&(match P.underlying g.type with|some (.int b')=>b'==b|_=>false)&&decide (f.offset=0)&&decide (g.offset=1)
  | _=>false
 | _=>false
theorem iG.of2 {P:Program} {k:Nat} {a b:IntKind} (h:gU P k [.int a,.int b]) (hk:Ue P k a b=true):iG P k [.int a,.int b]:=by
 unfold Ue at hk;split at hk
 ·rename_i fs hu;split at hk
  ·rename_i f g;simp only [aa8,abs] at hk;obtain ⟨⟨⟨⟨⟨h1,h2⟩,h3⟩,h4⟩,h5⟩,h6⟩:=hk;refine iG.two h hu h1 h2 ?_ ?_ h5 h6
   ·split at h3
    ·rename_i a' e;rw [e,eq_of_beq h3]
    ·cases h3
   ·split at h4
    ·rename_i a' e;rw [e,eq_of_beq h4]
    ·cases h4
  ·cases hk
 ·cases hk
end Go.Proofs.YtkkanlcjjpoklaaGreatDoor
