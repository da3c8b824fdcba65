/- What the theorem leans on, part 43. -/
import Derived.Test.YtkkanlcjjpoklaaGreatDoorSpTPBN
import Derived.Test.YtkkanlcjjpoklaaGreatDoorSpTPBP
set_option linter.unusedSimpArgs false
set_option linter.unusedVariables false
set_option maxRecDepth 8000
namespace Go.Proofs.YtkkanlcjjpoklaaGreatDoor
theorem Dl (x:Fl):aq Tryz.prog G0 201 [.d (sX x)] [] 0 (.d (gK (A6 x))) []:=by
 obtain ⟨a,b,c,d⟩:=x;simp only [sX,A6];refine vF ab [0,1,2] Tryz.func201 rfl Tryz.results201 Tryz.ntmps201 ?_;(refine' zo)
def I7 (fs:List Fl) (i:Nat):St:=⟨[(4,.so 0 7 0 i),(5,bv true),(8,.d (.sd 4 false (fs.map sX))),(9,iv fs.length),(10,iv i)],[(0,.row 7 ((fs.take i).map (gK ∘ A6)))],1⟩
attribute [push_cast] I7.eq_def sX.eq_def
theorem A4 (fs:List Fl) (hl:fs.length≤100000) (h : ∀x∈fs,xI x):aq Tryz.prog G0 132 [.d (.sd 4 false (fs.map sX))] [] 0 (.tup [MK (fs.map A6),bv true]) []:=by
 refine vF ab [0,2,3,4,5,7,8,9,10,11] Tryz.func132 rfl Tryz.results132 Tryz.ntmps132 ?_;(refine' zg)
 refine vL (lv:=[0,2,3,4,5,7,8,9,10,11]) ab (I7 fs) (fun i=>i≤fs.length) (fun i=>fs.length - i) (0) (aN.nil 4 7<|(aN.go [4,5,8,9,10] (by exact vT) rfl)) ?_ ?_
 ·exact Nat.zero_le _
 intro i hi;rcases Nat.lt_or_ge i fs.length with hlt|hge
 ·obtain ⟨x,hx⟩ : ∃x,fs[i]? = some x:=⟨_,List.getElem?_eq_getElem hlt⟩
  have hk:=h x (List.mem_of_getElem? hx);unfold xI at hk;have r1:=Dl x;have e:(fs.take (i+1)).map (gK ∘ A6)=(fs.take i).map (gK ∘ A6)++[gK (A6 x)]:=by rw [aJ hx,List.map_append];rfl
  obtain ⟨a,b,c,d⟩:=x;simp only [sX] at r1 hk;(refine' E7 r1 hx)
  rw [←e,show ((fs.take (i+1)).map (gK ∘ A6)).length=i+1 by simp;omega];rw [show decide (0<c)=true from decide_eq_true hk.2.2.1.1];refine bH.go (i+1) [4,5,8,9,10] (by exact vT) ?_ ?_
  ·show fs.length - (i+1)<fs.length - i;omega
  ·show i+1≤fs.length;omega
 ·obtain rfl:i=fs.length:=by omega
  rw [I7,List.take_length];(refine' zg)
  refine ah.frz 0 (ah.out ?_);(refine' zg)
  all_goals (try rw [List.take_of_length_le (by simp)])
  all_goals (try rw [MK,List.map_map])
theorem uD (t:Option T):aq Tryz.prog G0 133 [.d (aU t),iv 0,bv true] [] 0 (.tup [.d (l5 t),iv 0]) []:=by
 simp only [l5,aU];generalize bZ t=TT at *
 refine vF ab [0,1,2,6,7,8,12] Tryz.func133 rfl Tryz.results133 Tryz.ntmps133 ?_;(refine' zg)
 refine ah.frz 40 (ah.out ?_);(refine' zg)
abbrev uM (fs:List Fl):Option T:=c9 (fs.map A6) (fs.map A6).length
theorem Gd (fs:List Fl) (hl:fs.length≤20000) (h : ∀x∈fs,xI x):aq Tryz.prog G0 73 [.d (.sd 4 false (fs.map sX))] [] 0 (.tup [.d (l5 (uM fs)),iv 0]) []:=by
 have r1:=A4 fs (by omega) h;have r2:=sm (fs.map A6) (by rw [List.length_map];omega) fun i hi=>by
  obtain ⟨x,hx,rfl⟩:=List.mem_map.1 hi;exact I6 (h x hx)
 have r3:=uD (uM fs);simp only [uM] at *
 generalize l5 _=TT at *
 generalize aU _=E at *
 refine vF ab [0,2,3,4,5,6,7] Tryz.func73 rfl Tryz.results73 Tryz.ntmps73 ?_;(refine' M5 r1 r2 r3)
abbrev FO (n:Int) (L:List Iy) (H:List Sn):Option T:=c9 (t9 (n+cG L) 0 (H.map (zQ L))) (t9 (n+cG L) 0 (H.map (zQ L))).length
end Go.Proofs.YtkkanlcjjpoklaaGreatDoor
