/- What the theorem leans on, part 13. -/
import Derived.Test.YtkhonlnajdfhfaaDoorRows
import Derived.Test.YtkhonlnajdfhfaaDoorStTPAD
import Derived.Test.YtkhonlnajdfhfaaDoorStTPAL
set_option linter.unusedSimpArgs false
set_option maxRecDepth 8000
namespace Go.Proofs.YtkhonlnajdfhfaaDoor
theorem cR (a b c d:Int):aG Tryd.prog G0 38 [.d (ii a b),.d (ii c d)] [] 0 (bv (jU a b c d)) []:=by
 refine aG.of_code ab [0,1,2,3,4,16,35] Tryd.func38 rfl Tryd.results38 Tryd.ntmps38 (by kernel_rfl) (by simp) ?_;(repeat' (first|(with_reducible first|exact True.intro|refine vD ?_|refine vG ?_|refine vE ?_)|with_reducible refine ah.out ?_|refine vR ?_|refine v6 ?_|with_reducible refine vN ?_|(with_reducible first|refine vB (fun h =>?_) (fun h =>?_)|refine vM (fun h =>?_) (fun h =>?_))))
 all_goals
  congr 1;rw [Bool.eq_iff_iff];simp [jU] at *
  omega
theorem bM (x:Se):aG Tryd.prog G0 16 [.d (ii x.1 x.2)] [] 0 (.d (ii (ak x) (ai x))) []:=by
 refine aG.of_code ab [0,1,2,7] Tryd.func16 rfl Tryd.results16 Tryd.ntmps16 (by kernel_rfl) (by simp) ?_;(repeat' (first|(with_reducible first|exact True.intro|refine vD ?_|refine vG ?_|refine vE ?_)|with_reducible refine ah.out ?_|refine vR ?_|refine v6 ?_|with_reducible refine vN ?_|(with_reducible first|refine vB (fun h =>?_) (fun h =>?_)|refine vM (fun h =>?_) (fun h =>?_))))
 all_goals
  simp_all [ak,ai];try omega
theorem oA (x y:Se):aG Tryd.prog G0 61 [.d (ii x.1 x.2),.d (ii y.1 y.2)] [] 0 (bv (aB x y)) []:=by
 refine aG.of_code ab [0,1,2,3,4,5,6] Tryd.func61 rfl Tryd.results61 Tryd.ntmps61 (by kernel_rfl) (by simp) ?_;(repeat' (first|(with_reducible first|exact True.intro|refine vD ?_|refine vG ?_|refine vE ?_)|with_reducible refine ah.out ?_|(with_reducible refine ap.d (bM _) (by kernel_rfl) rfl rfl ?_)|refine vR ?_|refine v6 ?_|with_reducible refine vN ?_|(with_reducible first|refine vB (fun h =>?_) (fun h =>?_)|refine vM (fun h =>?_) (fun h =>?_))))
 all_goals
  congr 1;rw [Bool.eq_iff_iff];simp [aB]
theorem bw (x:Se):aG Tryd.prog G0 22 [.d (ii x.1 x.2)] [] 0 (.d (ii (ak x) (ai x))) []:=by
 refine aG.of_code ab [0,1,2] Tryd.func22 rfl Tryd.results22 Tryd.ntmps22 (by kernel_rfl) (by simp) ?_;(repeat' (first|(with_reducible first|exact True.intro|refine vD ?_|refine vG ?_|refine vE ?_)|with_reducible refine ah.out ?_|refine vR ?_|refine v6 ?_|with_reducible refine vN ?_|(with_reducible first|refine vB (fun h =>?_) (fun h =>?_)|refine vM (fun h =>?_) (fun h =>?_))))
 all_goals simp [nk,nl]
theorem gQ (a b c d:Int):aG Tryd.prog G0 44 [.d (ii a b),.d (ii c d)] [] 0 (bv (sD a b c d)) []:=by
 refine aG.of_code ab [0,1,2,3,4,16] Tryd.func44 rfl Tryd.results44 Tryd.ntmps44 (by kernel_rfl) (by simp) ?_;(repeat' (first|(with_reducible first|exact True.intro|refine vD ?_|refine vG ?_|refine vE ?_)|with_reducible refine ah.out ?_|refine vR ?_|refine v6 ?_|with_reducible refine vN ?_|(with_reducible first|refine vB (fun h =>?_) (fun h =>?_)|refine vM (fun h =>?_) (fun h =>?_))))
 all_goals
  congr 1;rw [Bool.eq_iff_iff];unfold sD;split<;>simp at * <;> omega
theorem tg (a b:Int) (k:Bool):aG Tryd.prog G0 45 [.d (ii a b),bv k] [] 0 (.d (cond k (ii b a) (ii a b))) []:=by
 refine aG.of_code ab [0,1,2,4,5] Tryd.func45 rfl Tryd.results45 Tryd.ntmps45 (by kernel_rfl) (by simp) ?_;(repeat' (first|(with_reducible first|exact True.intro|refine vD ?_|refine vG ?_|refine vE ?_)|with_reducible refine ah.out ?_|refine vR ?_|refine v6 ?_|with_reducible refine vN ?_|(with_reducible first|refine vB (fun h =>?_) (fun h =>?_)|refine vM (fun h =>?_) (fun h =>?_))))
 all_goals simp_all
theorem vi (x:Se):aG Tryd.prog G0 46 [.d (ii x.1 x.2)] [] 0 (bv (decide (x.2<x.1))) []:=by
 refine aG.of_code ab [0,1,2] Tryd.func46 rfl Tryd.results46 Tryd.ntmps46 (by kernel_rfl) (by simp) ?_;(repeat' (first|(with_reducible first|exact True.intro|refine vD ?_|refine vG ?_|refine vE ?_)|with_reducible refine ah.out ?_|refine vR ?_|refine v6 ?_|with_reducible refine vN ?_|(with_reducible first|refine vB (fun h =>?_) (fun h =>?_)|refine vM (fun h =>?_) (fun h =>?_))))
theorem wD (a:Int):aG Tryd.prog G0 63 [iv a] [] 0 (bv false) []:=by
 refine aG.of_code ab [0,2] Tryd.func63 rfl Tryd.results63 Tryd.ntmps63 (by kernel_rfl) (by simp) ?_;(repeat' (first|(with_reducible first|exact True.intro|refine vD ?_|refine vG ?_|refine vE ?_)|with_reducible refine ah.out ?_|refine vR ?_|refine v6 ?_|with_reducible refine vN ?_|(with_reducible first|refine vB (fun h =>?_) (fun h =>?_)|refine vM (fun h =>?_) (fun h =>?_))))
 all_goals simp
theorem qk (a b:Int):aG Tryd.prog G0 42 [iv a,iv b] [] 0 (iv (tH a b)) []:=by
 refine aG.of_code ab [0,1,4,5,6,11,12,13,16,19] Tryd.func42 rfl Tryd.results42 Tryd.ntmps42 (by kernel_rfl) (by simp) ?_;(repeat' (first|(with_reducible first|exact True.intro|refine vD ?_|refine vG ?_|refine vE ?_)|with_reducible refine ah.out ?_|(with_reducible refine ap.d (wD _) (by kernel_rfl) rfl rfl ?_)|refine vR ?_|refine v6 ?_|with_reducible refine vN ?_|(with_reducible first|refine vB (fun h =>?_) (fun h =>?_)|refine vM (fun h =>?_) (fun h =>?_))))
 all_goals
  unfold tH;repeat' split
  all_goals first|rfl|(exfalso;omega)
abbrev Ch:=Int × Int × Int × Int
def Cj (a b:Int):Bool:=decide (0≤a∧a≤b∧b≤1099511627776)
def Dy (nf:Bool) (was c:Ch):Bool:=Cj c.1 c.2.1&&Cj c.2.2.1 c.2.2.2 && !decide (c.1=c.2.1∧c.2.2.1=c.2.2.2)&&decide (0≤c.1 - was.2.1∧c.1 - was.2.1=c.2.2.1 - was.2.2.2 ∧ ¬(nf=true∧c.1=was.2.1))
def Aa (nf:Bool) (was:Ch):List Ch→Bool
 | []=>true
 | c::r=>Dy nf was c&&Aa true c r
theorem nH {α:Type} {l:List α} {i:Nat} {x:α} (h:l[i]? = some x):l.drop i=x::l.drop (i+1):=by
 obtain ⟨hi,rfl⟩:=List.getElem?_eq_some_iff.1 h;exact List.drop_eq_getElem_cons hi
def normal (cs:List Ch):Bool:=Aa false (0,0,0,0) cs
def AJ (c:Ch):Int:=(c.2.2.2 - c.2.2.1) - (c.2.1 - c.1)
def delta (cs:List Ch):Int:=(cs.map AJ).sum
abbrev lW (x:Se):D:=ii x.1 x.2

end Go.Proofs.YtkhonlnajdfhfaaDoor
