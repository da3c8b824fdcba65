/- What the theorem leans on, part 18. -/
import Derived.Test.YtkhonlnajdfhfaaDoorStTPAC
import Derived.Test.YtkhonlnajdfhfaaDoorStTPAK
import Derived.Test.YtkhonlnajdfhfaaDoorStTPAP
import Derived.Test.YtkhonlnajdfhfaaDoorStTPAQ
set_option linter.unusedSimpArgs false
set_option linter.unusedVariables false
set_option maxRecDepth 8000
namespace Go.Proofs.YtkhonlnajdfhfaaDoor
def B1 (m:ByteArray) (x:Se):D:= .agg [.lit (.int .i64 (ak x)),.lit (.int .i64 (ai x)),.lit (.string m)]
attribute [push_cast] B1.eq_def
abbrev Bv (m:ByteArray) (L:List Se):V:= .d (.sd 3 false (L.map (B1 m)))
theorem zq (m:ByteArray) (es:List Se) (x:Se):es.map (B1 m)++[D.agg [D.lit (.int .i64 (ak x)),D.lit (.int .i64 (ai x)),D.lit (.string m)]]=(es++[x]).map (B1 m):=by rw [List.map_append];rfl
def FP (m:ByteArray) (L:List Se) (x:Nat × List Se):St:=⟨[(1,sv m),(5,.so 0 3 0 x.2.length),(9,eU L),(10,iv L.length),(11,iv x.1)],[(0,.row 3 (x.2.map (B1 m)))],1⟩
def FT (n:Int) (L:List Se) (M:Nat) (x:Nat × Int × List Se):St:=⟨[(0,jD n L),(6,iv M),(7,iv x.2.1),(8,.so 0 2 0 x.2.2.length),(16,eU L),(17,iv L.length),(18,iv x.1)],[(0,dd x.2.2)],1⟩
def CQ (l:List Int) (x:Se):D:= .lit (.string (fQ ((l.take (ai x).toNat).drop (ak x).toNat)))
abbrev FG (l:List Int) (L:List Se):V:= .d (.sd 1 false (L.map (CQ l)))
def FU (t:Option T) (l:List Int) (L:List Se) (x:Nat × List Se):St:=⟨[(1,.d (ff t)),(6,.so 0 1 0 x.2.length),(17,eU L),(18,iv L.length),(19,iv x.1)],[(0,.row 1 (x.2.map (CQ l)))],1⟩
attribute [push_cast] FP.eq_def FT.eq_def FU.eq_def
theorem zt (l:List Int) (es:List Se) (x:Se):es.map (CQ l)++[D.lit (.string (fQ ((l.take (ai x).toNat).drop (ak x).toNat)))]=(es++[x]).map (CQ l):=by rw [List.map_append];rfl
theorem vd (n:Int) (m:ByteArray) (L:List Se) (h0:0<L.length) (hl:L.length≤100000):aG Tryd.prog G0 10 [jD n L,sv m] [] 0 (Bv m L) []:=by
 have r1:=ez n L h0 hl;refine vF ab [0,1,4,5,7,9,10,11,12] Tryd.func10 rfl Tryd.results10 Tryd.ntmps10 ?_;(refine' qj r1)
 refine vL (lv:=[0,1,4,5,7,9,10,11,12]) ab (FP m L) (fun x=>x.1≤L.length∧x.2=L.take x.1) (fun x=>L.length - x.1) ((0,[])) (a7.nil 5 3<|(a7.go [1,5,9,10,11] (by exact vT) rfl)) ?_ ?_
 ·simp
 rintro ⟨i,es⟩ ⟨hi,he⟩;simp only at hi he;have hel:es.length=i:=by rw [he];simp;omega
 rcases Nat.lt_or_ge i L.length with hlt|hge
 ·obtain ⟨x,hx⟩ : ∃x,L[i]? = some x:=⟨_,List.getElem?_eq_getElem hlt⟩
  (repeat' (first|(with_reducible first|exact True.intro|refine vD ?_|refine vG ?_|refine vE ?_)|(with_reducible refine cj.is i x (by omega) hx ?_)|with_reducible refine vC (bw x) ?_|with_reducible refine vQ (bw x) ?_|refine vR ?_|refine v6 ?_|with_reducible refine vN ?_|((with_reducible first|refine vB (fun h =>?_) (fun h =>?_)|refine vM (fun h =>?_) (fun h =>?_))<;>(first|(exfalso;omega)|skip))))
  rw [zq];refine bA.go ((i+1,es++[x])) [1,5,9,10,11] (by exact vT) ?_ ?_
  ·show L.length - (i+1)<L.length - i;omega
  ·exact ⟨hlt,by rw [he,aX hx]⟩
 ·(refine' zg)
  refine ah.frz 0 (ah.out ?_);(refine' zg)
  all_goals (try rw [he,List.take_of_length_le hge])
theorem vn (n:Int) (m:ByteArray) (L:List Se) (h0:0<L.length) (hl:L.length≤64) (hm:m.size≤100000) (hn:0≤n∧n≤100000) (hb : ∀x∈L,0≤ak x∧ai x≤100000)
 (hM:(ae m 0).length≤100000) (hk:aM (n+cJ (ae m 0).length 0 L) (de (ae m 0).length 0 L)=0) :
 aG Tryd.prog G0 13 [jD n L,sv m] [] 0 (.tup [jD (n+cJ (ae m 0).length 0 L) (aK (de (ae m 0).length 0 L)),iv 0]) []:=by
 have r1:=ez n L h0 (by omega);have r2:=vb m (by omega);have r3:=kJ n L;have r5:=iV (n+cJ (ae m 0).length 0 L) (de (ae m 0).length 0 L) (by rw [b9];omega) hk;generalize (ae m 0).length=M at *
 refine vF ab [0,1,4,5,6,7,8,10,11,12,16,17,18,19,46,50] Tryd.func13 rfl Tryd.results13 Tryd.ntmps13 ?_;(refine' BL r1 r2)
 refine vL (lv:=[0,1,4,5,6,7,8,10,11,12,16,17,18,19,46,50]) ab (FT n L M) (fun x=>x.1≤L.length∧x.2.1=cJ M 0 (L.take x.1)∧x.2.2=de M 0 (L.take x.1)) (fun x=>L.length - x.1) ((0,0,[])) (a7.nil 8 2<|(a7.go [0,6,7,8,16,17,18] (by exact vT) rfl)) ?_ ?_
 ·exact ⟨Nat.zero_le _,rfl,rfl⟩
 rintro ⟨i,s,es⟩ ⟨hi,hs,he⟩;simp only at hi hs he;have hel:es.length=i:=by rw [he,b9,List.length_take];omega
 obtain ⟨b1,b2⟩:=kF (m:=M) (by omega) (by omega) (L.take i) 0 (fun x hx=>hb x (List.mem_of_mem_take hx));rw [←hs,List.length_take,Nat.min_eq_left hi] at b1 b2;rcases Nat.lt_or_ge i L.length with hlt|hge
 ·obtain ⟨x,hx⟩ : ∃x,L[i]? = some x:=⟨_,List.getElem?_eq_getElem hlt⟩
  have hbx:=hb x (List.mem_of_getElem? hx);have hle:=aQ x;(repeat' (first|(with_reducible first|exact True.intro|refine vD ?_|refine vG ?_|refine vE ?_)|(with_reducible refine cj.is i x (by omega) hx ?_)|with_reducible refine vC (bw x) ?_|with_reducible refine vQ (bw x) ?_|refine vR ?_|refine v6 ?_|with_reducible refine vN ?_|((with_reducible first|refine vB (fun h =>?_) (fun h =>?_)|refine vM (fun h =>?_) (fun h =>?_))<;>(first|(exfalso;omega)|skip))))
  rw [cp];refine bA.go ((i+1,s+(M - (ai x - ak x)),es++[(ak x+s+M,ak x+s+M)])) [0,6,7,8,16,17,18] (by exact vT) ?_ ?_
  ·show L.length - (i+1)<L.length - i;omega
  ·exact ⟨hlt,by rw [aX hx,jJ,←hs];simp only;omega,by rw [aX hx,jI,←hs,←he]⟩
 ·rw [List.take_of_length_le hge] at hs he;subst hs he;have hgl:=b9 M L 0;have hk2:n+cJ M 0 L≤1099511627776:=by omega
  (refine' qj r3)
  refine ap.frz 0 rfl ?_;(refine' xZ r5)
theorem vk {l:List Int} {ps:List (List Int)} {t:Option T} (R:Rp l ps t) (L:List Se) (h0:0<L.length) (hl:L.length≤64) (hb : ∀x∈L,0≤ak x∧ai x≤l.length) :
 aG Tryd.prog G0 12 [jD l.length L,.d (ff t)] [] 0 (.tup [FG l L,iv 0]) []:=by
 have r1:=ez l.length L h0 (by omega);have r2:=vg R;have r3:=kJ l.length L;refine vF ab [0,1,4,5,6,8,9,10,15,17,18,19,20,35] Tryd.func12 rfl Tryd.results12 Tryd.ntmps12 ?_;(refine' Dr r1 r2 r3)
 refine vL (lv:=[0,1,4,5,6,8,9,10,15,17,18,19,20,35]) ab (FU t l L) (fun x=>x.1≤L.length∧x.2=L.take x.1) (fun x=>L.length - x.1) ((0,[])) (a7.nil 6 1<|(a7.go [1,6,17,18,19] (by exact vT) rfl)) ?_ ?_
 ·simp
 rintro ⟨i,es⟩ ⟨hi,he⟩;simp only at hi he;have hel:es.length=i:=by rw [he];simp;omega
 rcases Nat.lt_or_ge i L.length with hlt|hge
 ·obtain ⟨x,hx⟩ : ∃x,L[i]? = some x:=⟨_,List.getElem?_eq_getElem hlt⟩
  have hbx:=hb x (List.mem_of_getElem? hx);have hle:=aQ x;have r4:=uH R (ak x).toNat (ai x).toNat (by omega) (by omega);rw [Int.toNat_of_nonneg (by omega),Int.toNat_of_nonneg (by omega)] at r4;(repeat' (first|(with_reducible first|exact True.intro|refine vD ?_|refine vG ?_|refine vE ?_)|(with_reducible refine cj.is i x (by omega) hx ?_)|with_reducible refine vC (bw x) ?_|with_reducible refine vQ (bw x) ?_|with_reducible refine vC (r4) ?_|with_reducible refine vQ (r4) ?_|refine vR ?_|refine v6 ?_|with_reducible refine vN ?_|((with_reducible first|refine vB (fun h =>?_) (fun h =>?_)|refine vM (fun h =>?_) (fun h =>?_))<;>(first|(exfalso;omega)|skip))))
  rw [zt];refine bA.go ((i+1,es++[x])) [1,6,17,18,19] (by exact vT) ?_ ?_
  ·show L.length - (i+1)<L.length - i;omega
  ·exact ⟨hlt,by rw [he,aX hx]⟩
 ·(refine' zg)
  refine ah.frz 0 (ah.out ?_);(refine' zg)
  all_goals (try rw [he,List.take_of_length_le hge])
end Go.Proofs.YtkhonlnajdfhfaaDoor
