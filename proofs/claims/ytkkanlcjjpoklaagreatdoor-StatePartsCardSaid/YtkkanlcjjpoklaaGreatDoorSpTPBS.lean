/- What the theorem leans on, part 45. -/
import Derived.Test.YtkkanlcjjpoklaaGreatDoorSpTPBR
set_option linter.unusedSimpArgs false
set_option linter.unusedVariables false
set_option maxRecDepth 8000
namespace Go.Proofs.YtkkanlcjjpoklaaGreatDoor
theorem Gs (m:Int) (x:D) (h:m<0):aq Tryz.prog G0 23 [iv m,.d ap] [] 0 (.tup [.d (.lit (.pointer none)),iv 1]) []:=by
 refine vF ab [0,1,4,5,6,7,9,10,12,13,20,28,29,30,31,38,47] Tryz.func23 rfl Tryz.results23 Tryz.ntmps23 ?_;(refine' zo)
theorem q9 (m:Int) (h:m<0):aq Tryz.prog G0 24 [iv m,.d ap] [] 0 (.tup [.d (.lit (.pointer none)),iv 1]) []:=by
 refine vF ab [0,1,4,5,6,8,10,11,13,14,15,22,27,28,29,30,45,52,70,71,72,73,96] Tryz.func24 rfl Tryz.results24 Tryz.ntmps24 ?_;(refine' zo)
section
variable (s:ByteArray) (L F:D) (tab wd q0 q1:Int) (h3:aq Tryz.prog G0 10 [] [] 0 (bv true) [])
include h3
theorem ta (h:200<s.size∨q0 < -1∨1<q0∨q1 < -1∨1<q1) :
 aq Tryz.prog G0 5 [.d (.agg [.lit (.string s),L,F,iD tab,iD wd]),.d (.agg [iD q0,iD q1])] [] 0 (bv true) []:=by
 refine vF ab [0,1,2,3,4,5,6,7,8,9,10,11,12,13,14,15,16,17,41,77,113,131] Tryz.func5 rfl Tryz.results5 Tryz.ntmps5 ?_;(repeat' (first|(with_reducible first|exact True.intro|refine vD ?_|refine vG ?_|refine vE ?_)|(refine xj ?_)|with_reducible refine vC (h3) ?_|with_reducible refine ah.out ?_|refine vR ?_|refine v6 ?_|with_reducible refine vN ?_|((with_reducible first|refine vB (fun h =>?_) (fun h =>?_)|refine vM (fun h =>?_) (fun h =>?_))<;>(first|(exfalso;omega)|skip))))
theorem tc (hs:s.size≤200) (hq : -1≤q0∧q0≤1 ∧ -1≤q1∧q1≤1) (hn:(aa s 0).length=0) (h:q0<0∨q1<0) :
 aq Tryz.prog G0 5 [.d (.agg [.lit (.string s),L,F,iD tab,iD wd]),.d (.agg [iD q0,iD q1])] [] 0 (bv true) []:=by
 have r1:=jO s (by omega);obtain ⟨ps,t,R,r2⟩:=tC s (by omega) (by omega);rw [hn] at r1;by_cases h0:q0<0
 ·have r3:=Gs q0 Nr h0;by_cases h1:q1<0
  ·have r4:=q9 q1 h1;generalize a5 t=rp at *
   refine vF ab [0,1,2,3,4,5,6,7,8,9,10,11,12,13,14,15,16,17,41,77,113,131] Tryz.func5 rfl Tryz.results5 Tryz.ntmps5 ?_;(repeat' (first|(with_reducible first|exact True.intro|refine vD ?_|refine vG ?_|refine vE ?_)|(refine xj ?_)|with_reducible refine vC (h3) ?_|with_reducible refine vQ (h3) ?_|with_reducible refine vC (r1) ?_|with_reducible refine vC (r2) ?_|with_reducible refine vC (r3) ?_|with_reducible refine vC (r4) ?_|with_reducible refine ah.out ?_|refine vR ?_|refine v6 ?_|with_reducible refine vN ?_|((with_reducible first|refine vB (fun h =>?_) (fun h =>?_)|refine vM (fun h =>?_) (fun h =>?_))<;>(first|(exfalso;omega)|skip))))
  ·have r4:=aq.nilArg2 (sV q1 ⟨by omega,by omega⟩);generalize a5 t=rp at *
   refine vF ab [0,1,2,3,4,5,6,7,8,9,10,11,12,13,14,15,16,17,41,77,113,131] Tryz.func5 rfl Tryz.results5 Tryz.ntmps5 ?_;(repeat' (first|(with_reducible first|exact True.intro|refine vD ?_|refine vG ?_|refine vE ?_)|(refine xj ?_)|with_reducible refine vC (h3) ?_|with_reducible refine vQ (h3) ?_|with_reducible refine vC (r1) ?_|with_reducible refine vC (r2) ?_|with_reducible refine vC (r3) ?_|with_reducible refine vC (r4) ?_|with_reducible refine ah.out ?_|refine vR ?_|refine v6 ?_|with_reducible refine vN ?_|((with_reducible first|refine vB (fun h =>?_) (fun h =>?_)|refine vM (fun h =>?_) (fun h =>?_))<;>(first|(exfalso;omega)|skip))))
 ·have r3:=aq.nilArg2 (xS q0 ⟨by omega,by omega⟩);have r4:=q9 q1 (by omega);generalize a5 t=rp at *
  generalize bY q0 ap=il at *
  refine vF ab [0,1,2,3,4,5,6,7,8,9,10,11,12,13,14,15,16,17,41,77,113,131] Tryz.func5 rfl Tryz.results5 Tryz.ntmps5 ?_;(repeat' (first|(with_reducible first|exact True.intro|refine vD ?_|refine vG ?_|refine vE ?_)|(refine xj ?_)|with_reducible refine vC (h3) ?_|with_reducible refine vQ (h3) ?_|with_reducible refine vC (r1) ?_|with_reducible refine vC (r2) ?_|with_reducible refine vC (r3) ?_|with_reducible refine vC (r4) ?_|with_reducible refine ah.out ?_|refine vR ?_|refine v6 ?_|with_reducible refine vN ?_|((with_reducible first|refine vB (fun h =>?_) (fun h =>?_)|refine vM (fun h =>?_) (fun h =>?_))<;>(first|(exfalso;omega)|skip))))
theorem vb (hs:s.size≤200) (hq : -1≤q0∧q0≤1 ∧ -1≤q1∧q1≤1) (hn:0≤((aa s 0).length:Int)+q0∧0≤((aa s 0).length:Int)+q1)
 (h:(q0≠0∨q1≠0)∨(tab<1∨16<tab∨wd<0∨200<wd)) :
 aq Tryz.prog G0 5 [.d (.agg [.lit (.string s),L,F,iD tab,iD wd]),.d (.agg [iD q0,iD q1])] [] 0 (bv true) []:=by
 have hrl:=ci s s.size 0 (by omega);have r1:=jO s (by omega);obtain ⟨ps,t,R,r2⟩:=tC s (by omega) (by omega);have r3:=aq.nilArg2 (xS ((aa s 0).length+q0) ⟨by omega,by omega⟩);have r4:=aq.nilArg2 (sV ((aa s 0).length+q1) ⟨by omega,by omega⟩);have r5:=fun e=>EF R ((aa s 0).length+q0) ((aa s 0).length+q1) ap (.sd 2 false []) [] tab wd e
 have r6:=fun e=>B3 R ((aa s 0).length+q0) ((aa s 0).length+q1) ap (.sd 2 false []) [] tab wd e 0 (aa s 0).length
 have r7:=dA R ((aa s 0).length+q0) ((aa s 0).length+q1) ap (.sd 2 false []) [] tab wd;simp only [zw,D7,a5,bY,List.map_nil] at *
 generalize aU t=A at *
 generalize (aa s 0).length=n at *
 by_cases hq0:q0≠0∨q1≠0
 ·have he:kA n (n+q0) (n+q1) tab wd=4:=by unfold kA;rw [if_pos (by omega)]
  have r5':=r5 4 he (by decide);have r6':=r6 4 he (by decide);rw [he] at r7;clear r5 r6;refine vF ab [0,1,2,3,4,5,6,7,8,9,10,11,12,13,14,15,16,17,41,77,113,131] Tryz.func5 rfl Tryz.results5 Tryz.ntmps5 ?_;(repeat' (first|(with_reducible first|exact True.intro|refine vD ?_|refine vG ?_|refine vE ?_)|(refine xj ?_)|with_reducible refine vC (h3) ?_|with_reducible refine vQ (h3) ?_|with_reducible refine vC (r1) ?_|with_reducible refine vC (r2) ?_|with_reducible refine vC (r3) ?_|with_reducible refine vC (r4) ?_|with_reducible refine vC (r5') ?_|with_reducible refine vC (r6') ?_|with_reducible refine vC (r7) ?_|with_reducible refine ah.out ?_|refine vR ?_|refine v6 ?_|with_reducible refine vN ?_|((with_reducible first|refine vB (fun h =>?_) (fun h =>?_)|refine vM (fun h =>?_) (fun h =>?_))<;>(first|(exfalso;omega)|skip))))
 ·have he:kA n (n+q0) (n+q1) tab wd=1:=by unfold kA;rw [if_neg (by omega),if_pos (by omega)]
  have r5':=r5 1 he (by decide);have r6':=r6 1 he (by decide);rw [he] at r7;clear r5 r6;refine vF ab [0,1,2,3,4,5,6,7,8,9,10,11,12,13,14,15,16,17,41,77,113,131] Tryz.func5 rfl Tryz.results5 Tryz.ntmps5 ?_;(repeat' (first|(with_reducible first|exact True.intro|refine vD ?_|refine vG ?_|refine vE ?_)|(refine xj ?_)|with_reducible refine vC (h3) ?_|with_reducible refine vQ (h3) ?_|with_reducible refine vC (r1) ?_|with_reducible refine vC (r2) ?_|with_reducible refine vC (r3) ?_|with_reducible refine vC (r4) ?_|with_reducible refine vC (r5') ?_|with_reducible refine vC (r6') ?_|with_reducible refine vC (r7) ?_|with_reducible refine ah.out ?_|refine vR ?_|refine v6 ?_|with_reducible refine vN ?_|((with_reducible first|refine vB (fun h =>?_) (fun h =>?_)|refine vM (fun h =>?_) (fun h =>?_))<;>(first|(exfalso;omega)|skip))))
theorem vc (tb:Nat) (hs:s.size≤200) (ht:1≤tb∧tb≤16) (hw:0≤wd∧wd≤200) :
 aq Tryz.prog G0 5 [.d (.agg [.lit (.string s),L,F,iD tb,iD wd]),.d (.agg [iD 0,iD 0])] [] 0 (bv true) []:=by
 have hrl:=ci s s.size 0 (by omega);have h:sn s [] [] tb wd:=⟨by omega,by simp,by simp,by omega,hw,fun x hx=>(by cases hx),rfl,rfl⟩
 have r1:=jO s (by omega);obtain ⟨ps,t,R,r2⟩:=tC s (by omega) (by omega);have r3:=aq.nilArg2 (xS (aa s 0).length ⟨by omega,by omega⟩);have r4:=aq.nilArg2 (sV (aa s 0).length ⟨by omega,by omega⟩);have hwv:su (aa s 0).length (bp []):=⟨by simp [bp],by omega,by omega,by simp [bp],fun x hx=>(by simp [bp] at hx),fun x hx=>(by simp [bp] at hx)⟩
 have r5:=EE h R hwv (by simp [bp,cG];omega);have r6:=B2 h R;have r7:=dA R (aa s 0).length (aa s 0).length ap (.sd 2 false []) [] tb wd;rw [show kA (aa s 0).length (aa s 0).length (aa s 0).length tb wd=0 by unfold kA;rw [if_neg (by simp),if_neg (by omega)]] at r7;have e1:KL s [] [] tb wd t=D7 (a5 t) (bY (aa s 0).length ap) (.pd 3 [.agg [iD (aa s 0).length,.sd 2 false [],.sd 2 false []]] 0 0) tb wd:=rfl;have e2:KR (aa s 0).length [] = .pd 3 [.agg [iD (aa s 0).length,.sd 2 false [],.sd 2 false []]] 0 0:=rfl;have e3:ca (bp [])=ap:=rfl;rw [e1,e2,e3] at r5;rw [e1] at r6;have hfl:0<(mV s [] [] tb wd 0).length:=by rw [mV,List.length_map,bG];simp
 have hfl2:(mV s [] [] tb wd 0).length≤301:=by
  have:=eB (aa s 0) (aL []) 0 (Nat.zero_le _);rw [mV,List.length_map];omega
 simp only [zw,List.map_nil,MR,D7,a5,bY] at r2 r3 r5 r6 r7;generalize mV s [] [] tb wd 0=fl at *
 generalize l5 _=w at *
 generalize l5 _=c at *
 generalize l5 _=f at *
 generalize aU t=A at *
 generalize (aa s 0).length=n at *
 refine vF ab [0,1,2,3,4,5,6,7,8,9,10,11,12,13,14,15,16,17,41,77,113,131] Tryz.func5 rfl Tryz.results5 Tryz.ntmps5 ?_;(repeat' (first|(with_reducible first|exact True.intro|refine vD ?_|refine vG ?_|refine vE ?_)|(refine xj ?_)|with_reducible refine vC (h3) ?_|with_reducible refine vQ (h3) ?_|with_reducible refine vC (r1) ?_|with_reducible refine vC (r2) ?_|with_reducible refine vC (r3) ?_|with_reducible refine vC (r4) ?_|with_reducible refine vC (r5) ?_|with_reducible refine vC (r6) ?_|with_reducible refine vC (r7) ?_|with_reducible refine ah.out ?_|refine vR ?_|refine v6 ?_|with_reducible refine vN ?_|((with_reducible first|refine vB (fun h =>?_) (fun h =>?_)|refine vM (fun h =>?_) (fun h =>?_))<;>(first|(exfalso;omega)|skip))))
theorem va:aq Tryz.prog G0 5 [.d (.agg [.lit (.string s),L,F,iD tab,iD wd]),.d (.agg [iD q0,iD q1])] [] 0 (bv true) []:=by
 by_cases h:200<s.size∨q0 < -1∨1<q0∨q1 < -1∨1<q1
 ·exact ta s L F tab wd q0 q1 h3 h
 by_cases hn:0≤((aa s 0).length:Int)+q0∧0≤((aa s 0).length:Int)+q1
 ·by_cases hb:(q0≠0∨q1≠0)∨(tab<1∨16<tab∨wd<0∨200<wd)
  ·exact vb s L F tab wd q0 q1 h3 (by omega) (by omega) hn hb
  ·obtain ⟨rfl,rfl⟩:q0=0∧q1=0:=by omega
   obtain ⟨tb,rfl⟩ : ∃tb:Nat,tab=tb:=⟨tab.toNat,by omega⟩
   exact vc s L F wd h3 tb (by omega) (by omega) (by omega)
 ·exact tc s L F tab wd q0 q1 h3 (by omega) (by omega) (by omega) (by omega)
end
end Go.Proofs.YtkkanlcjjpoklaaGreatDoor
