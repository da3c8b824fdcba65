/- What the theorem leans on, part 20. -/
import Derived.Test.YtkhonlnajdfhfaaGreatDoorLtYPAE
import Derived.Test.YtkhonlnajdfhfaaGreatDoorLtYPAS
set_option linter.unusedSimpArgs false
set_option linter.unusedVariables false
set_option maxRecDepth 8000
namespace Go.Proofs.YtkhonlnajdfhfaaGreatDoor
theorem byte_at {s:ByteArray} {i:Nat} (h:i<s.size) : ∃b:UInt8,s.data.toList[i]? = some b∧(b.toNat:Int)=bAt s i∧s[i]! = b:=by
 refine ⟨s.data[i]'h,?_,?_,?_⟩
 ·rw [List.getElem?_eq_getElem (by simpa using h)];simp
 ·unfold bAt
  rw [Array.getD_eq_getD_getElem?,Array.getElem?_eq_getElem h];rfl
 ·rw [getElem!_pos s i h];rfl
theorem cnt_from (s:ByteArray) : ∀(k i:Nat),s.size - i≤k→i≤s.size→(s.data.toList.drop i).countP (· == 10)=brkN (runesAt s i)
 | 0,i,hk,hi=>by
  rw [runesAt_out (by omega),List.drop_of_length_le (by rw [Array.length_toList];show s.size≤i;omega)];rfl
 | k+1,i,hk,hi=>by
  by_cases hlt:i<s.size
  ·rw [runesAt_in hlt]
   by_cases hex : ∃n,1≤n∧n≤4∧i+n≤s.size∧okT s i n
   ·obtain ⟨n,h1,h4,hle,hok⟩:=hex
    obtain ⟨d1,d2⟩:=dec_ok h1 h4 hle hok
    rw [d1,d2,brkN_cons,←cnt_from s k (i+n) (by omega) hle]
    have e:s.data.toList.drop i=(Utf8.encode (numT (cutT s i n))).data.toList++s.data.toList.drop (i+n):=by
     rw [hok.2,cutT,ext_list,Nat.add_sub_cancel_left,←List.drop_drop,List.take_append_drop]
    rw [e,List.countP_append,enc_brk _ ((sizeR_valid _).1.1 (by rw [hok.1];omega))]
   ·have hno:=dec_no hlt (fun n a b c d=>hex ⟨n,a,b,c,d⟩)
    rw [hno,brkN_cons,←cnt_from s k (i+1) (by omega) (by omega)]
    obtain ⟨b,g1,g2,-⟩:=byte_at hlt
    have hb : ¬bAt s i<128:=fun hb=>by
     refine hex ⟨1,Nat.le_refl _,by omega,by omega,?_⟩
     have hz:=cutT_size (s:=s) (i:=i) (n:=1) (by omega)
     refine (ok1 (cutT s i 1) hz).2 ?_
     rw [cutT_at (by omega) (by omega),Nat.add_zero]
     exact hb
    have e:s.data.toList.drop i=b::s.data.toList.drop (i+1):=by
     obtain ⟨q1,q2⟩:=List.getElem?_eq_some_iff.1 g1
     rw [←q2];exact List.drop_eq_getElem_cons q1
    have hne:(b==10)=false:=by
     rw [beq_eq_false_iff_ne]
     intro hb10
     subst hb10
     have:((10:UInt8).toNat:Int)=10:=rfl
     omega
    rw [e,List.countP_cons]
    simp [hne]
  ·rw [runesAt_out hlt,List.drop_of_length_le (by rw [Array.length_toList];show s.size≤i;omega)];rfl
theorem has_brk (s:ByteArray):(0≤firstIdx s 10)↔0<brkN (runesAt s 0):=by
 have h:=cnt_from s s.size 0 (by omega) (by omega)
 rw [List.drop_zero] at h
 rw [←h,List.countP_pos_iff]
 unfold firstIdx
 split
 ·rename_i i hi
  have h1:=List.find?_some hi
  have h2:=List.mem_range.1 (List.mem_of_find?_eq_some hi)
  obtain ⟨b,g1,g2,g3⟩:=byte_at h2
  refine ⟨fun _=>⟨b,List.mem_of_getElem? g1,?_⟩,fun _=>by omega⟩
  simp only [g3] at h1
  exact h1
 ·rename_i hi
  refine ⟨fun h=>by omega,fun ⟨b,hb,h10⟩ =>?_⟩
  obtain ⟨i,hib⟩:=List.getElem?_of_mem hb
  have hlt:i<s.size:=by
   have:=(List.getElem?_eq_some_iff.1 hib).1
   rw [Array.length_toList] at this
   exact this
  obtain ⟨b',g1,g2,g3⟩:=byte_at hlt
  rw [g1] at hib
  injection hib with hib
  subst hib
  have:=List.find?_eq_none.1 hi i (List.mem_range.2 hlt)
  simp only [g3] at this
  exact (this h10).elim
theorem runesAt_len (s:ByteArray) : ∀(k i:Nat),s.size - i≤k→(runesAt s i).length≤s.size - i
 | 0,i,hk=>by rw [runesAt_out (by omega)];exact Nat.zero_le _
 | k+1,i,hk=>by
  by_cases hlt:i<s.size
  ·have h1:=dec_pos s i
   have h2:=runesAt_len s k (i+(Utf8.decode s i).2) (by omega)
   rw [runesAt_in hlt,List.length_cons]
   omega
  ·rw [runesAt_out hlt];exact Nat.zero_le _
section
variable {G:Gl}
abbrev brkS:ByteArray:=⟨#[10]⟩
theorem cIndexByte_fn (s:ByteArray):OFn Tryz.prog G 182 [.d (.lit (.string s)),.d (.lit (.int .u8 10))] [] 0 (iv (firstIdx s 10)) []:=by
 refine vF mixed [0,1,4] Tryz.func182 rfl Tryz.results182 Tryz.ntmps182 ?_
 (refine' zg)
 refine vX (iv (firstIdx s 10)) ?_
 (refine' zg)
 refine DoneW.now [] (by decide) ?_;(refine' zg);first|exact Sub_refl _|exact Sub.cons rfl Sub.nil|exact Sub.cons rfl (Sub.cons rfl Sub.nil)|exact Sub.nil
theorem cIndex_fn (s:ByteArray) : ∃i:Int,(0≤i↔0<brkN (runesAt s 0))∧OFn Tryz.prog G 153 [.d (.lit (.string s)),.d (.lit (.string brkS))] [] 0 (iv i) []:=by
 by_cases hb:brkS=s
 ·subst hb
  refine ⟨0,⟨fun _=>(has_brk brkS).1 (by rw [show firstIdx brkS 10=0 by decide];decide),fun _=>by decide⟩,?_⟩
  refine vF mixed [0,1,4,5,6,7,8,9,10,11,12,13,16,24,31,36,59,64,73,93,107,114,132,139] Tryz.func153 rfl Tryz.results153 Tryz.ntmps153 ?_
  (repeat' (first|(with_reducible first|exact True.intro|refine vD ?_|refine vG ?_|refine vE ?_)|with_reducible refine vC (cIndexByte_fn brkS) ?_|refine vR ?_|refine v6 ?_|with_reducible refine vN ?_|((with_reducible first|refine vB (fun h =>?_) (fun h =>?_)|refine vM (fun h =>?_) (fun h =>?_))<;>(first|(exfalso;omega)|skip))))
  refine DoneW.now [] (by decide) ?_;(refine' zg);first|exact Sub_refl _|exact Sub.cons rfl Sub.nil|exact Sub.cons rfl (Sub.cons rfl Sub.nil)|exact Sub.nil
 ·refine ⟨firstIdx s 10,has_brk s,?_⟩
  refine vF mixed [0,1,4,5,6,7,8,9,10,11,12,13,16,24,31,36,59,64,73,93,107,114,132,139] Tryz.func153 rfl Tryz.results153 Tryz.ntmps153 ?_
  (repeat' (first|(with_reducible first|exact True.intro|refine vD ?_|refine vG ?_|refine vE ?_)|with_reducible refine vC (cIndexByte_fn s) ?_|refine vR ?_|refine v6 ?_|with_reducible refine vN ?_|((with_reducible first|refine vB (fun h =>?_) (fun h =>?_)|refine vM (fun h =>?_) (fun h =>?_))<;>(first|(exfalso;omega)|skip))))
  ·exact (hb ((str_eq _ _).1 (h.resolve_left (by decide)))).elim
  ·refine DoneW.now [] (by decide) ?_;(refine' zg);first|exact Sub_refl _|exact Sub.cons rfl Sub.nil|exact Sub.cons rfl (Sub.cons rfl Sub.nil)|exact Sub.nil
theorem sIndex_fn (s:ByteArray) : ∃i:Int,(0≤i↔0<brkN (runesAt s 0))∧OFn Tryz.prog G 102 [.d (.lit (.string s)),.d (.lit (.string brkS))] [] 0 (iv i) []:=by
 obtain ⟨i,h1,h2⟩:=cIndex_fn (G:=G) s
 refine ⟨i,h1,?_⟩
 refine vF mixed [0,1,4] Tryz.func102 rfl Tryz.results102 Tryz.ntmps102 ?_
 (refine' zo1 h2)
theorem Contains_fn (s:ByteArray):OFn Tryz.prog G 69 [.d (.lit (.string s)),.d (.lit (.string brkS))] [] 0 (bv (decide (0<brkN (runesAt s 0)))) []:=by
 obtain ⟨i,h1,h2⟩:=sIndex_fn (G:=G) s
 rw [show decide (0<brkN (runesAt s 0))=decide (0≤i) from decide_eq_decide.2 h1.symm]
 refine vF mixed [0,1,4] Tryz.func69 rfl Tryz.results69 Tryz.ntmps69 ?_
 (refine' zo1 h2)
theorem Clean_fn (s:ByteArray) (hs:s.size≤1000000000):OFn Tryz.prog G0 39 [sv s] [] 0 (sv (txt (runesAt s 0))) []:=by
 have r1:OFn Tryz.prog G0 70 [ruL (runesAt s 0)] [] 0 (.d (.lit (.string (txt (runesAt s 0))))) []:=Encode_fn (runesAt s 0) (by have:=runesAt_len s s.size 0 (by omega);omega)
 refine vF mixed [0,2] Tryz.func39 rfl Tryz.results39 Tryz.ntmps39 ?_
 (repeat' (first|(with_reducible first|exact True.intro|refine vD ?_|refine vG ?_|refine vE ?_)|with_reducible refine vC (Decode_fn s hs) ?_|with_reducible refine vC (r1) ?_|with_reducible refine DoneW.out ?_|refine vR ?_|refine v6 ?_|with_reducible refine vN ?_|((with_reducible first|refine vB (fun h =>?_) (fun h =>?_)|refine vM (fun h =>?_) (fun h =>?_))<;>(first|(exfalso;omega)|skip))))
def wrongI (n:Int) (x:Iy):Int:=
 if x.1<1∨x.2.1<0∨n<x.2.1∨(x.2.2.1≠0∧x.2.2.1≠1) then 1
 else if 40<(runesAt x.2.2.2.2 0).length then 2
 else if x.2.2.2.2=⟨#[]⟩∨0<brkN (runesAt x.2.2.2.2 0) then 4 else 0
set_option maxHeartbeats 6400000 in
theorem iWrong_fn (n:Int) (x:Iy) (hs:x.2.2.2.2.size≤1000000000):OFn Tryz.prog G0 38 [iv n,.d (iyD x)] [] 0 (iv (wrongI n x)) []:=by
 rcases x with ⟨a,b,c,d,s⟩
 have r1:=Count_fn s hs
 have r2:=Contains_fn (G:=G0) s
 refine vF mixed [0,1,3,4,5,30,35] Tryz.func38 rfl Tryz.results38 Tryz.ntmps38 ?_
 (refine' zm20 r1 r2)
 ·rw [show wrongI n (a,b,c,d,s)=1 from if_pos h]
  refine DoneW.now [] (by decide) ?_;(refine' zg);first|exact Sub_refl _|exact Sub.cons rfl Sub.nil|exact Sub.cons rfl (Sub.cons rfl Sub.nil)|exact Sub.nil
 ·rename_i h1
  rw [show wrongI n (a,b,c,d,s)=2 from (if_neg h1).trans (if_pos (show 40<(runesAt s 0).length by omega))]
  refine DoneW.now [] (by decide) ?_;(refine' zg);first|exact Sub_refl _|exact Sub.cons rfl Sub.nil|exact Sub.cons rfl (Sub.cons rfl Sub.nil)|exact Sub.nil
 ·rename_i h2 h1
  rw [show wrongI n (a,b,c,d,s)=4 from (if_neg h2).trans ((if_neg (show ¬40<(runesAt s 0).length by omega)).trans (if_pos (.inl ((str_eq _ _).1 h))))]
  refine DoneW.now [] (by decide) ?_;(refine' zg);first|exact Sub_refl _|exact Sub.cons rfl Sub.nil|exact Sub.cons rfl (Sub.cons rfl Sub.nil)|exact Sub.nil
 ·rename_i h3 h2 h1
  rw [show wrongI n (a,b,c,d,s)=4 from (if_neg h3).trans ((if_neg (show ¬40<(runesAt s 0).length by omega)).trans (if_pos (.inr h)))]
  refine DoneW.now [] (by decide) ?_;(refine' zg);first|exact Sub_refl _|exact Sub.cons rfl Sub.nil|exact Sub.cons rfl (Sub.cons rfl Sub.nil)|exact Sub.nil
 ·rename_i h3 h2 h1
  have hn : ¬s=⟨#[]⟩:=fun e=>by
   rw [(str_eq _ _).2 e] at h1
   cases h1
  rw [show wrongI n (a,b,c,d,s)=0 from (if_neg h3).trans ((if_neg (show ¬40<(runesAt s 0).length by omega)).trans (if_neg (fun e=>e.elim hn h)))]
  refine DoneW.now [] (by decide) ?_;(refine' zg);first|exact Sub_refl _|exact Sub.cons rfl Sub.nil|exact Sub.cons rfl (Sub.cons rfl Sub.nil)|exact Sub.nil
end
end Go.Proofs.YtkhonlnajdfhfaaGreatDoor
