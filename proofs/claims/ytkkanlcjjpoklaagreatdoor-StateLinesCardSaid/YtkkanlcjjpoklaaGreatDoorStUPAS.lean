/- What the theorem leans on, part 19. -/
import Derived.Test.YtkkanlcjjpoklaaGreatDoorStUPAE
import Derived.Test.YtkkanlcjjpoklaaGreatDoorStUPAR
set_option linter.unusedSimpArgs false
set_option linter.unusedVariables false
set_option maxRecDepth 8000
namespace Go.Proofs.YtkkanlcjjpoklaaGreatDoor
theorem wW {s:ByteArray} {i:Nat} (h:i<s.size) : ∃b:UInt8,s.data.toList[i]? = some b∧(b.toNat:Int)=bT s i∧s[i]! = b:=by
 refine ⟨s.data[i]'h,?_,?_,?_⟩
 ·rw [List.getElem?_eq_getElem (by simpa using h)];simp
 ·unfold bT;rw [Array.getD_eq_getD_getElem?,Array.getElem?_eq_getElem h];rfl
 ·rw [getElem!_pos s i h];rfl
theorem qN (s:ByteArray) : ∀(k i:Nat),s.size - i≤k→i≤s.size→(s.data.toList.drop i).countP (· == 10)=aT (aa s i)
 | 0,i,hk,hi=>by
  rw [bI (by omega),List.drop_of_length_le (by rw [Array.length_toList];show s.size≤i;omega)];rfl
 | k+1,i,hk,hi=>by
  by_cases hlt:i<s.size
  ·rw [cJ hlt];by_cases hex : ∃n,1≤n∧n≤4∧i+n≤s.size∧okT s i n
   ·obtain ⟨n,h1,h4,hle,hok⟩:=hex;obtain ⟨d1,d2⟩:=w7 h1 h4 hle hok;rw [d1,d2,df,←qN s k (i+n) (by omega) hle];have e:s.data.toList.drop i=(Utf8.encode (cG (cE s i n))).data.toList++s.data.toList.drop (i+n):=by
     rw [hok.2,cE,zd,Nat.add_sub_cancel_left,←List.drop_drop,List.take_append_drop]
    rw [e,List.countP_append,DX _ ((dW _).1.1 (by rw [hok.1];omega))]
   ·have hno:=w6 hlt (fun n a b c d=>hex ⟨n,a,b,c,d⟩);rw [hno,df,←qN s k (i+1) (by omega) (by omega)];obtain ⟨b,g1,g2,-⟩:=wW hlt;have hb : ¬bT s i<128:=fun hb=>by
     refine hex ⟨1,Nat.le_refl _,by omega,by omega,?_⟩;have hz:=dS (s:=s) (i:=i) (n:=1) (by omega);refine (Vd (cE s i 1) hz).2 ?_;rw [bE (by omega) (by omega),Nat.add_zero];exact hb
    have e:s.data.toList.drop i=b::s.data.toList.drop (i+1):=by
     obtain ⟨q1,q2⟩:=List.getElem?_eq_some_iff.1 g1;rw [←q2];exact List.drop_eq_getElem_cons q1
    have hne:(b==10)=false:=by
     rw [beq_eq_false_iff_ne];intro hb10;subst hb10;have:((10:UInt8).toNat:Int)=10:=rfl;omega
    rw [e,List.countP_cons];simp [hne]
  ·rw [bI hlt,List.drop_of_length_le (by rw [Array.length_toList];show s.size≤i;omega)];rfl
theorem Ea (s:ByteArray):(0≤firstIdx s 10)↔0<aT (aa s 0):=by
 have h:=qN s s.size 0 (by omega) (by omega);rw [List.drop_zero] at h;rw [←h,List.countP_pos_iff];unfold firstIdx;split
 ·rename_i i hi;have h1:=List.find?_some hi;have h2:=List.mem_range.1 (List.mem_of_find?_eq_some hi);obtain ⟨b,g1,g2,g3⟩:=wW h2;refine ⟨fun _=>⟨b,List.mem_of_getElem? g1,?_⟩,fun _=>by omega⟩;simp only [g3] at h1;exact h1
 ·rename_i hi;refine ⟨fun h=>by omega,fun ⟨b,hb,h10⟩ =>?_⟩;obtain ⟨i,hib⟩:=List.getElem?_of_mem hb;have hlt:i<s.size:=by
   have:=(List.getElem?_eq_some_iff.1 hib).1;rw [Array.length_toList] at this;exact this
  obtain ⟨b',g1,g2,g3⟩:=wW hlt;rw [g1] at hib;injection hib with hib;subst hib;have:=List.find?_eq_none.1 hi i (List.mem_range.2 hlt);simp only [g3] at this;exact (this h10).elim
theorem bx (s:ByteArray) : ∀(k i:Nat),s.size - i≤k→(aa s i).length≤s.size - i
 | 0,i,hk=>by rw [bI (by omega)];exact Nat.zero_le _
 | k+1,i,hk=>by
  by_cases hlt:i<s.size
  ·have h1:=ke s i;have h2:=bx s k (i+(Utf8.decode s i).2) (by omega);rw [cJ hlt,List.length_cons];omega
  ·rw [bI hlt];exact Nat.zero_le _
section
variable {G:Gl}
abbrev BW:ByteArray:=⟨#[10]⟩
theorem kO (s:ByteArray):an Tryz.prog G 264 [.d (.lit (.string s)),.d (.lit (.int .u8 10))] [] 0 (iv (firstIdx s 10)) []:=by
 refine vF ab [0,1,4] Tryz.func264 rfl Tryz.results264 Tryz.ntmps264 ?_;(refine' zg)
 refine vX (iv (firstIdx s 10)) ?_;(refine' zg)
 refine ae.now [] (by decide) ?_;(refine' zg);first|exact aj _|exact ap.cons rfl ap.nil|exact ap.cons rfl (ap.cons rfl ap.nil)|exact ap.nil
theorem Fp (s:ByteArray) : ∃i:Int,(0≤i↔0<aT (aa s 0))∧an Tryz.prog G 233 [.d (.lit (.string s)),.d (.lit (.string BW))] [] 0 (iv i) []:=by
 by_cases hb:BW=s
 ·subst hb;refine ⟨0,⟨fun _=>(Ea BW).1 (by rw [show firstIdx BW 10=0 by decide];decide),fun _=>by decide⟩,?_⟩;refine vF ab [0,1,4,5,6,7,8,9,10,11,12,13,16,24,31,36,59,64,73,93,107,114,132,139] Tryz.func233 rfl Tryz.results233 Tryz.ntmps233 ?_;(repeat' (first|with_reducible refine vC (kO BW) ?_|(refine' zq)|fail))
  refine ae.now [] (by decide) ?_;(refine' zg);first|exact aj _|exact ap.cons rfl ap.nil|exact ap.cons rfl (ap.cons rfl ap.nil)|exact ap.nil
 ·refine ⟨firstIdx s 10,Ea s,?_⟩;refine vF ab [0,1,4,5,6,7,8,9,10,11,12,13,16,24,31,36,59,64,73,93,107,114,132,139] Tryz.func233 rfl Tryz.results233 Tryz.ntmps233 ?_;(repeat' (first|with_reducible refine vC (kO s) ?_|(refine' zq)|fail))
  ·exact (hb ((ti _ _).1 (h.resolve_left (by decide)))).elim
  ·refine ae.now [] (by decide) ?_;(refine' zg);first|exact aj _|exact ap.cons rfl ap.nil|exact ap.cons rfl (ap.cons rfl ap.nil)|exact ap.nil
theorem G7 (s:ByteArray) : ∃i:Int,(0≤i↔0<aT (aa s 0))∧an Tryz.prog G 173 [.d (.lit (.string s)),.d (.lit (.string BW))] [] 0 (iv i) []:=by
 obtain ⟨i,h1,h2⟩:=Fp (G:=G) s;refine ⟨i,h1,?_⟩;refine vF ab [0,1,4] Tryz.func173 rfl Tryz.results173 Tryz.ntmps173 ?_;(refine' kW h2)
theorem yI (s:ByteArray):an Tryz.prog G 118 [.d (.lit (.string s)),.d (.lit (.string BW))] [] 0 (bv (decide (0<aT (aa s 0)))) []:=by
 obtain ⟨i,h1,h2⟩:=G7 (G:=G) s;rw [show decide (0<aT (aa s 0))=decide (0≤i) from decide_eq_decide.2 h1.symm];refine vF ab [0,1,4] Tryz.func118 rfl Tryz.results118 Tryz.ntmps118 ?_;(refine' kW h2)
theorem HM (s:ByteArray) (hs:s.size≤1000000000):an Tryz.prog G0 61 [sv s] [] 0 (sv (cL (aa s 0))) []:=by
 have r1:an Tryz.prog G0 119 [yE (aa s 0)] [] 0 (.d (.lit (.string (cL (aa s 0))))) []:=uL (aa s 0) (by have:=bx s s.size 0 (by omega);omega);refine vF ab [0,2] Tryz.func61 rfl Tryz.results61 Tryz.ntmps61 ?_;(repeat' (first|with_reducible refine vC (j9 s hs) ?_|with_reducible refine vC (r1) ?_|with_reducible refine ae.out ?_|(refine' zq)|fail))
def b6 (n:Int) (x:Iy):Int:=
 if x.1<1∨x.2.1<0∨n<x.2.1∨(x.2.2.1≠0∧x.2.2.1≠1) then 1
 else if 40<(aa x.2.2.2.2 0).length then 2
 else if x.2.2.2.2=⟨#[]⟩∨0<aT (aa x.2.2.2.2 0) then 4 else 0
set_option maxHeartbeats 6400000 in
theorem F6 (n:Int) (x:Iy) (hs:x.2.2.2.2.size≤1000000000):an Tryz.prog G0 60 [iv n,.d (cS x)] [] 0 (iv (b6 n x)) []:=by
 rcases x with ⟨a,b,c,d,s⟩
 have r1:=qp s hs;have r2:=yI (G:=G0) s;refine vF ab [0,1,3,4,5,30,35] Tryz.func60 rfl Tryz.results60 Tryz.ntmps60 ?_;(refine' Qy r1 r2)
 ·rw [show b6 n (a,b,c,d,s)=1 from if_pos h];refine ae.now [] (by decide) ?_;(refine' zg);first|exact aj _|exact ap.cons rfl ap.nil|exact ap.cons rfl (ap.cons rfl ap.nil)|exact ap.nil
 ·rename_i h1;rw [show b6 n (a,b,c,d,s)=2 from (if_neg h1).trans (if_pos (show 40<(aa s 0).length by omega))];refine ae.now [] (by decide) ?_;(refine' zg);first|exact aj _|exact ap.cons rfl ap.nil|exact ap.cons rfl (ap.cons rfl ap.nil)|exact ap.nil
 ·rename_i h2 h1;rw [show b6 n (a,b,c,d,s)=4 from (if_neg h2).trans ((if_neg (show ¬40<(aa s 0).length by omega)).trans (if_pos (.inl ((ti _ _).1 h))))];refine ae.now [] (by decide) ?_;(refine' zg);first|exact aj _|exact ap.cons rfl ap.nil|exact ap.cons rfl (ap.cons rfl ap.nil)|exact ap.nil
 ·rename_i h3 h2 h1;rw [show b6 n (a,b,c,d,s)=4 from (if_neg h3).trans ((if_neg (show ¬40<(aa s 0).length by omega)).trans (if_pos (.inr h)))];refine ae.now [] (by decide) ?_;(refine' zg);first|exact aj _|exact ap.cons rfl ap.nil|exact ap.cons rfl (ap.cons rfl ap.nil)|exact ap.nil
 ·rename_i h3 h2 h1;have hn : ¬s=⟨#[]⟩:=fun e=>by
   rw [(ti _ _).2 e] at h1;cases h1
  rw [show b6 n (a,b,c,d,s)=0 from (if_neg h3).trans ((if_neg (show ¬40<(aa s 0).length by omega)).trans (if_neg (fun e=>e.elim hn h)))];refine ae.now [] (by decide) ?_;(refine' zg);first|exact aj _|exact ap.cons rfl ap.nil|exact ap.cons rfl (ap.cons rfl ap.nil)|exact ap.nil
end
end Go.Proofs.YtkkanlcjjpoklaaGreatDoor
