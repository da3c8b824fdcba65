/- What the theorem leans on, part 40. -/
import Derived.Test.YtkkanlcjjpoklaaGreatDoorSpTPBK
import Derived.Test.YtkkanlcjjpoklaaGreatDoorSpTPBM
set_option linter.unusedSimpArgs false
set_option linter.unusedVariables false
set_option maxRecDepth 8000
namespace Go.Proofs.YtkkanlcjjpoklaaGreatDoor
def Km (z w:List (Int × Int)) (tab:Nat) (wd:Int) (l:List Int) (L:List Iy) (H:List Sn) (x:Nat × Nat):Fl:=
 (jM (bQ l L x.2 x.1 H)+(if x.2<l.length then 1 else 0),(x.2:Int) - x.1+(if x.2<l.length then 1 else 0),(bP (bq z w tab 0 (aI (bQ l L x.2 x.1 H))) wd).length,tj (bP (bq z w tab 0 (aI (bQ l L x.2 x.1 H))) wd))
def sX (x:Fl):D:= .agg [iD x.1,iD x.2.1,iD x.2.2.1,iD x.2.2.2]
theorem BV (C:List Cl) (wd:Int):0<(bP C wd).length:=by
 have h:0<(bb C wd).length:=by unfold bb;split<;>simp [qj]
 have h2:=nW (bb C wd) C;rw [bP];rcases hpq:cE C (bb C wd) with _|⟨p,q⟩
 ·rw [hpq] at h2;simp only [List.length_nil] at h2;omega
 ·simp
def M3 (rs:List (List Cl)) (i:Nat):St:=⟨[(7,G5 rs),(8,iv 0),(9,iv (tj (rs.take i))),(18,G5 rs),(19,iv rs.length),(20,iv i)],[],0⟩
attribute [push_cast] M3.eq_def
theorem yT (C:List Cl) (h:fU C) (wd:Int) (hw:0≤wd∧wd≤200) (hq:(bP C wd).length≤100000000) (hr : ∀r∈bP C wd,r.length≤100000000 ∧ ∀c∈r,cw c≤2) :
 aq Tryz.prog G0 199 [gJ C,iv wd] [] 0 (.tup [iv (bP C wd).length,iv (tj (bP C wd)),iv 0]) []:=by
 have r1:=E2 C h wd hw;generalize bP C wd=rs at *
 refine vF ab [0,1,4,5,6,7,8,9,11,18,19,20,21] Tryz.func199 rfl Tryz.results199 Tryz.ntmps199 ?_;(refine' l9 r1)
 refine vL (lv:=[0,1,4,5,6,7,8,9,11,18,19,20,21]) ab (M3 rs) (fun i=>i≤rs.length) (fun i=>rs.length - i) (0) ((aN.go [7,8,9,18,19,20] (by exact vT) rfl)) ?_ ?_
 ·exact Nat.zero_le _
 intro i hi;have hb:=tl (B:=200000000) (rs.take i).reverse (rs.take i) (by simp) fun r hr'=>by
  obtain ⟨q1,q2⟩:=hr r (List.mem_of_mem_take hr');have:=l8 q2;omega
 rcases Nat.lt_or_ge i rs.length with hlt|hge
 ·obtain ⟨r,hx⟩ : ∃r,rs[i]? = some r:=⟨_,List.getElem?_eq_getElem hlt⟩
  obtain ⟨q1,q2⟩:=hr r (List.mem_of_getElem? hx);have hwl:=l8 q2;have r2:=AG r q1 q2;have e:tj (rs.take (i+1))=max (tj (rs.take i)) (dK r):=by rw [aJ hx,rz]
  (refine' E7 r2 hx)
  all_goals
   refine bH.go (i+1) [7,8,9,18,19,20] (by rw [M3,e];exact vT) ?_ ?_
   ·show rs.length - (i+1)<rs.length - i;omega
   ·show i+1≤rs.length;omega
 ·obtain rfl:i=rs.length:=by omega
  rw [M3,List.take_length];(refine' zo)
section
variable {l:List Int} {ps:List (List Int)} {t:Option T}
theorem GD (R:Rp l ps t) (hl:l.length≤300) (X:D) (n:Int) {L:List Iy} {H:List Sn} {z w:List (Int × Int)} (hz:i8 z) (hw:i8 w) {tab:Nat} (ht:1≤tab∧tab≤16) {wd:Int} (hwd:0≤wd∧wd≤200) {x:Nat × Nat} (g:M7 z w tab wd l L H x)
 (hx:x.1≤x.2∧x.2≤l.length) (hq : ∀y∈bQ l L x.2 x.1 H,Qz y) (hc:(bQ l L x.2 x.1 H).length≤1000000) :
 aq Tryz.prog G0 130 [.d (M1 (a5 t) (bY n X) (.sd 2 false (H.map dk)) z w tab wd),.d (Jn l L H x)] [] 0 (.d (sX (Km z w tab wd l L H x))) []:=by
 have r1:=IG z w hz hw tab ht _ g.pz g.fl;have r2:=yT _ g.ok wd hwd g.q fun r hr=>(g.s r hr).2.2
 have r3:=Fu (bQ l L x.2 x.1 H) x.1 x.2 (by omega) hq;have r4:=eh R;have hsz:=tS (B:=1000000) (bQ l L x.2 x.1 H) (yP fun z hz=>(hq z hz).1);have hsz2:jM (bQ l L x.2 x.1 H)≤1000000*1000000:=Nat.le_trans hsz (Nat.mul_le_mul_left _ hc);unfold Km;simp only [Jn,PH] at r3 ⊢;generalize jM (bQ l L x.2 x.1 H)=q at *
 generalize a5 t=rp at *
 generalize bY n X=il at *
 generalize bP _ wd=rs at *
 generalize bq z w tab 0 _=C at *
 generalize (bQ l L x.2 x.1 H).map nq=Q at *
 obtain ⟨a,b⟩:=x;simp only at *
 by_cases hb:b<l.length
 ·rw [if_pos hb];simp only [sX];refine vF ab [0,1,2,3,4,5,7,8,10,45] Tryz.func130 rfl Tryz.results130 Tryz.ntmps130 ?_;(refine' ME r1 r2 r3 r4)
 ·rw [if_neg hb];simp only [sX,Int.add_zero];refine vF ab [0,1,2,3,4,5,7,8,10,45] Tryz.func130 rfl Tryz.results130 Tryz.ntmps130 ?_;(refine' ME r1 r2 r3 r4)
end
end Go.Proofs.YtkkanlcjjpoklaaGreatDoor
