/- What the theorem leans on, part 45. -/
import Derived.Test.YtkhonlnajdfhfaaGreatDoorLtYPBL
import Derived.Test.YtkhonlnajdfhfaaGreatDoorLtYPBM
import Derived.Test.YtkhonlnajdfhfaaGreatDoorLtYPBN
import Derived.Test.YtkhonlnajdfhfaaGreatDoorLtYPBO
import Derived.Test.YtkhonlnajdfhfaaGreatDoorLtYPBR
set_option linter.unusedSimpArgs false
set_option linter.unusedVariables false
set_option maxRecDepth 8000
namespace Go.Proofs.YtkhonlnajdfhfaaGreatDoor
section
variable {s:ByteArray} {L:List Iy} {F:List Sn} {tab:Int} {wd:Int}
theorem lawLayoutRows_no (hn:OFn Tryz.prog G0 4 [dcV s L F tab wd,iv 300] [] 0 (bv false) []) (h2:OFn Tryz.prog G0 5 [] [] 0 (bv true) []):OFn Tryz.prog G0 3 [dcV s L F tab wd] [] 0 (bv true) []:=by
 refine vF mixed [0,1,2,3,4,5,6,9] Tryz.func3 rfl Tryz.results3 Tryz.ntmps3 ?_
 (refine' zo2 hn h2)
set_option maxHeartbeats 6400000 in
theorem lawLayoutRows_m {y1 y2 y3 y4 y5 y6 w:D} {A:List Rw} (hs:OFn Tryz.prog G0 4 [dcV s L F tab wd,iv 300] [] 0 (bv true) []) (h2:OFn Tryz.prog G0 5 [] [] 0 (bv true) [])
 (r1:OFn Tryz.prog G0 6 [dcV s L F tab wd] [] 0 (.tup [.d (.agg [y1,y2,y3,y4,y5,y6]),bv true]) []) (r2:OFn Tryz.prog G0 7 [.d (.agg [y1,y2,y3,y4,y5,y6])] [] 0 (.tup [.d (.sd 7 false (A.map rwD)),iv 0]) [])
 (r3:OFn Tryz.prog G0 8 [.d (.agg [y1,y2,y3,y4,y5,y6])] [] 0 (iv 0) []) (r4:OFn Tryz.prog G0 10 [dcV s L F tab wd] [] 0 (.d w) []) (r5:OFn Tryz.prog G0 11 [.d w] [] 0 (.d (.sd 7 false (A.map rwD))) [])
 (r6:OFn Tryz.prog G0 9 [.d (.sd 7 false (A.map rwD)),.d (.sd 7 false (A.map rwD))] [] 0 (bv true) []) :
 OFn Tryz.prog G0 3 [dcV s L F tab wd] [] 0 (bv true) []:=by
 refine vF mixed [0,1,2,3,4,5,6,9] Tryz.func3 rfl Tryz.results3 Tryz.ntmps3 ?_
 (refine' zm80o hs r1 r2 r3 r4 r5 r6 h2)
end
theorem dRows_fn {s:ByteArray} {L:List Iy} {F:List Sn} {tab:Nat} {wd:Int} (h:OkD s L F tab wd):OFn Tryz.prog G0 11 [ofV s L F tab wd] [] 0 (.d (.sd 7 false ((rowsD s L F tab wd).map rwD))) []:=by
 have hr:=(okT_rgt h.okT).1
 have hrs:=h.rs
 have hl:=h.hl
 have hgl:=h.gd.len
 have ht:=h.tab0
 have hw:=h.wd0
 have hlen:=h.lay.len
 rw [rowsD,layA_eq] at hlen ⊢
 have rA:=dAll_fn (runesAt s 0) (runesAt s 0).length (insA L) (hidSr F) (by omega) (by omega) (by omega) h.gd.sz h.gd.so hr
 refine vRows_fn (runesAt s 0) (insA L) (hidSr F) _ (by have:=h.ll;omega) _ _ _ _ _ _ _ _ (Nat.le_trans hlen (by omega)) rA fun x hx =>?_
 have g:=h.lines x hx
 exact vLine_fn (runesAt s 0) (by omega) _ _ _ _ _ tab wd _ x.1 x.2 _ _ g.q (rOf18_fn zT wT (by decide) (by decide) tab (by omega) _ g.pz g.fl) (rRows_fn _ g.ok wd hw) g.s
end Go.Proofs.YtkhonlnajdfhfaaGreatDoor
