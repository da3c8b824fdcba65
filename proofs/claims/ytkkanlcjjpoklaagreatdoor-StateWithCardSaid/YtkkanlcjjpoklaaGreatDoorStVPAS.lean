/- What the theorem leans on, part 19. -/
import Derived.Test.YtkkanlcjjpoklaaGreatDoorStVPAE
import Derived.Test.YtkkanlcjjpoklaaGreatDoorStVPAR
set_option linter.unusedSimpArgs false
set_option linter.unusedVariables false
set_option maxRecDepth 8000
namespace Go.Proofs.YtkkanlcjjpoklaaGreatDoor
theorem yh {s:ByteArray} {i:Nat} (h:i<s.size) : ∃b:UInt8,s.data.toList[i]? = some b∧(b.toNat:Int)=b6 s i∧s[i]! = b:=by
 refine ⟨s.data[i]'h,?_,?_,?_⟩
 ·rw [IO (by simpa using h)];simp
 ·unfold b6;rw [abE,adS h];rfl
 ·rw [getElem!_pos s i h];rfl
theorem rN (s:ByteArray) : ∀(k i:Nat),s.size - i≤k→i≤s.size→(s.data.toList.drop i).countP (· == 10)=aW (aa s i)
 | 0,i,hk,hi=>by
  rw [bQ (by omega),abo (by rw [abr];show s.size≤i;omega)];rfl
 | k+1,i,hk,hi=>by
  by_cases hlt:i<s.size
  ·rw [cY hlt];by_cases hex : ∃n,1≤n∧n≤4∧i+n≤s.size∧okT s i n
   ·obtain ⟨n,h1,h4,hle,hok⟩:=hex;obtain ⟨d1,d2⟩:=yu h1 h4 hle hok;rw [d1,d2,dA,←rN s k (i+n) (by omega) hle];have e:s.data.toList.drop i=(Utf8.encode (cR (cQ s i n))).data.toList++s.data.toList.drop (i+n):=by
     rw [hok.2,cQ,Ba,ac0,←acm,abf]
    rw [e,List.countP_append,FU _ ((eo _).1.1 (by rw [hok.1];omega))]
   ·have hno:=yt hlt (fun n a b c d=>hex ⟨n,a,b,c,d⟩);rw [hno,dA,←rN s k (i+1) (by omega) (by omega)];obtain ⟨b,g1,g2,-⟩:=yh hlt;have hb : ¬b6 s i<128:=fun hb=>by
     refine hex ⟨1,aaV _,by omega,by omega,?_⟩;have hz:=ee (s:=s) (i:=i) (n:=1) (by omega);refine (Ye (cQ s i 1) hz).2 ?_;rw [bL (by omega) (by omega),abD];exact hb
    have e:s.data.toList.drop i=b::s.data.toList.drop (i+1):=by
     obtain ⟨q1,q2⟩:=aaX.1 g1;rw [←q2];exact abI q1
    have hne:(b==10)=false:=by
     rw [acD];intro hb10;subst hb10;have:((10:UInt8).toNat:Int)=10:=rfl;omega
    rw [e,ady];simp [hne]
  ·rw [bQ hlt,abo (by rw [abr];show s.size≤i;omega)];rfl
theorem F9 (s:ByteArray):(0≤firstIdx s 10)↔0<aW (aa s 0):=by
 have h:=rN s s.size 0 (by omega) (by omega);rw [ac9] at h;rw [←h,List.countP_pos_iff];unfold firstIdx;split
 ·rename_i i hi;have h1:=ad8 hi;have h2:=adP.1 (adf hi);obtain ⟨b,g1,g2,g3⟩:=yh h2;refine ⟨fun _=>⟨b,aa0 g1,?_⟩,fun _=>by omega⟩;simp only [g3] at h1;exact h1
 ·rename_i hi;refine ⟨fun h=>by omega,fun ⟨b,hb,h10⟩ =>?_⟩;obtain ⟨i,hib⟩:=ab6 hb;have hlt:i<s.size:=by
   have:=(aaX.1 hib).1;rw [abr] at this;exact this
  obtain ⟨b',g1,g2,g3⟩:=yh hlt;rw [g1] at hib;injection hib with hib;subst hib;have:=adO.1 hi i (adP.2 hlt);simp only [g3] at this;exact (this h10).elim
theorem bh (s:ByteArray) : ∀(k i:Nat),s.size - i≤k→(aa s i).length≤s.size - i
 | 0,i,hk=>by rw [bQ (by omega)];exact aa1 _
 | k+1,i,hk=>by
  by_cases hlt:i<s.size
  ·have h1:=kW s i;have h2:=bh s k (i+(Utf8.decode s i).2) (by omega);rw [cY hlt,aa6];omega
  ·rw [bQ hlt];exact aa1 _
section
variable {G:Gl}
abbrev DI:ByteArray:=⟨#[10]⟩
theorem lO (s:ByteArray):ap Tryz.prog G 264 [.d (.lit (.string s)),.d (.lit (.int .u8 10))] [] 0 (iv (firstIdx s 10)) []:=by
 refine vF ab [0,1,4] Tryz.func264 rfl Tryz.results264 Tryz.ntmps264 ?_;(refine' zg)
 refine vX (iv (firstIdx s 10)) ?_;(refine' zg)
 refine ae.now [] (by decide) ?_;(refine' zg);first|exact aj _|exact ar.cons rfl ar.nil|exact ar.cons rfl (ar.cons rfl ar.nil)|exact ar.nil
theorem Hl (s:ByteArray) : ∃i:Int,(0≤i↔0<aW (aa s 0))∧ap Tryz.prog G 233 [.d (.lit (.string s)),.d (.lit (.string DI))] [] 0 (iv i) []:=by
 by_cases hb:DI=s
 ·subst hb;refine ⟨0,⟨fun _=>(F9 DI).1 (by rw [show firstIdx DI 10=0 by decide];decide),fun _=>by decide⟩,?_⟩;refine vF ab [0,1,4,5,6,7,8,9,10,11,12,13,16,24,31,36,59,64,73,93,107,114,132,139] Tryz.func233 rfl Tryz.results233 Tryz.ntmps233 ?_;(repeat' (first|with_reducible refine vC (lO DI) ?_|(refine' zq)|fail))
  refine ae.now [] (by decide) ?_;(refine' zg);first|exact aj _|exact ar.cons rfl ar.nil|exact ar.cons rfl (ar.cons rfl ar.nil)|exact ar.nil
 ·refine ⟨firstIdx s 10,F9 s,?_⟩;refine vF ab [0,1,4,5,6,7,8,9,10,11,12,13,16,24,31,36,59,64,73,93,107,114,132,139] Tryz.func233 rfl Tryz.results233 Tryz.ntmps233 ?_;(repeat' (first|with_reducible refine vC (lO s) ?_|(refine' zq)|fail))
  ·exact (hb ((um _ _).1 (h.resolve_left (by decide)))).elim
  ·refine ae.now [] (by decide) ?_;(refine' zg);first|exact aj _|exact ar.cons rfl ar.nil|exact ar.cons rfl (ar.cons rfl ar.nil)|exact ar.nil
theorem Ja (s:ByteArray) : ∃i:Int,(0≤i↔0<aW (aa s 0))∧ap Tryz.prog G 173 [.d (.lit (.string s)),.d (.lit (.string DI))] [] 0 (iv i) []:=by
 obtain ⟨i,h1,h2⟩:=Hl (G:=G) s;refine ⟨i,h1,?_⟩;refine vF ab [0,1,4] Tryz.func173 rfl Tryz.results173 Tryz.ntmps173 ?_;(refine' lK h2)
theorem AD (s:ByteArray):ap Tryz.prog G 118 [.d (.lit (.string s)),.d (.lit (.string DI))] [] 0 (bv (decide (0<aW (aa s 0)))) []:=by
 obtain ⟨i,h1,h2⟩:=Ja (G:=G) s;rw [show decide (0<aW (aa s 0))=decide (0≤i) from adz.2 h1.symm];refine vF ab [0,1,4] Tryz.func118 rfl Tryz.results118 Tryz.ntmps118 ?_;(refine' lK h2)
theorem JO (s:ByteArray) (hs:s.size≤1000000000):ap Tryz.prog G0 61 [sv s] [] 0 (sv (c9 (aa s 0))) []:=by
 have r1:ap Tryz.prog G0 119 [Az (aa s 0)] [] 0 (.d (.lit (.string (c9 (aa s 0))))) []:=ww (aa s 0) (by have:=bh s s.size 0 (by omega);omega);refine vF ab [0,2] Tryz.func61 rfl Tryz.results61 Tryz.ntmps61 ?_;(repeat' (first|with_reducible refine vC (kS s hs) ?_|with_reducible refine vC (r1) ?_|with_reducible refine ae.out ?_|(refine' zq)|fail))
def cm (n:Int) (x:Iy):Int:=
 if x.1<1∨x.2.1<0∨n<x.2.1∨(x.2.2.1≠0∧x.2.2.1≠1) then 1
 else if 40<(aa x.2.2.2.2 0).length then 2
 else if x.2.2.2.2=⟨#[]⟩∨0<aW (aa x.2.2.2.2 0) then 4 else 0
set_option maxHeartbeats 6400000 in
theorem H5 (n:Int) (x:Iy) (hs:x.2.2.2.2.size≤1000000000):ap Tryz.prog G0 60 [iv n,.d (cT x)] [] 0 (iv (cm n x)) []:=by
 rcases x with ⟨a,b,c,d,s⟩
 have r1:=re s hs;have r2:=AD (G:=G0) s;refine vF ab [0,1,3,4,5,30,35] Tryz.func60 rfl Tryz.results60 Tryz.ntmps60 ?_;(refine' Tc r1 r2)
 ·rw [show cm n (a,b,c,d,s)=1 from aa3 h];refine ae.now [] (by decide) ?_;(refine' zg);first|exact aj _|exact ar.cons rfl ar.nil|exact ar.cons rfl (ar.cons rfl ar.nil)|exact ar.nil
 ·rename_i h1;rw [show cm n (a,b,c,d,s)=2 from (aaY h1).trans (aa3 (show 40<(aa s 0).length by omega))];refine ae.now [] (by decide) ?_;(refine' zg);first|exact aj _|exact ar.cons rfl ar.nil|exact ar.cons rfl (ar.cons rfl ar.nil)|exact ar.nil
 ·rename_i h2 h1;rw [show cm n (a,b,c,d,s)=4 from (aaY h2).trans ((aaY (show ¬40<(aa s 0).length by omega)).trans (aa3 (.inl ((um _ _).1 h))))];refine ae.now [] (by decide) ?_;(refine' zg);first|exact aj _|exact ar.cons rfl ar.nil|exact ar.cons rfl (ar.cons rfl ar.nil)|exact ar.nil
 ·rename_i h3 h2 h1;rw [show cm n (a,b,c,d,s)=4 from (aaY h3).trans ((aaY (show ¬40<(aa s 0).length by omega)).trans (aa3 (.inr h)))];refine ae.now [] (by decide) ?_;(refine' zg);first|exact aj _|exact ar.cons rfl ar.nil|exact ar.cons rfl (ar.cons rfl ar.nil)|exact ar.nil
 ·rename_i h3 h2 h1;have hn : ¬s=⟨#[]⟩:=fun e=>by
   rw [(um _ _).2 e] at h1;cases h1
  rw [show cm n (a,b,c,d,s)=0 from (aaY h3).trans ((aaY (show ¬40<(aa s 0).length by omega)).trans (aaY (fun e=>e.elim hn h)))];refine ae.now [] (by decide) ?_;(refine' zg);first|exact aj _|exact ar.cons rfl ar.nil|exact ar.cons rfl (ar.cons rfl ar.nil)|exact ar.nil
end
end Go.Proofs.YtkkanlcjjpoklaaGreatDoor
