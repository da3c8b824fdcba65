/- What the theorem leans on, part 36. -/
import Derived.Test.YtkkanlcjjpoklaaGreatDoorStUPBG
set_option linter.unusedSimpArgs false
set_option linter.unusedVariables false
set_option maxRecDepth 8000
namespace Go.Proofs.YtkkanlcjjpoklaaGreatDoor
theorem GS:an Tryz.prog G0 47 [] [] 0 (.d (pQ zT wT)) []:=vj G0 M0 400 (by kernel_rfl)
abbrev Ue (s:ByteArray) (L:List Iy) (F:List Sn) (tab:Nat) (wd:Int):V:= .d (.agg [.sd 1 false ((aa s 0).map dy),iD (aa s 0).length,.sd 5 false ((aS L).map cS),iD 0,.sd 2 false ((aD F).map bA),pQ zT wT,iD tab,iD wd])
set_option maxHeartbeats 6400000 in
theorem AE {s:ByteArray} {L:List Iy} {F:List Sn} {tab:Nat} {wd:Int} (h:gM s L F tab wd):an Tryz.prog G0 12 [tL s L F tab wd] [] 0 (Ue s L F tab wd) []:=by
 obtain ⟨k1,k2,k3,k4,k5,k6,k7,k8⟩:=h;have hl:=bx s s.size 0 (by omega);have r1:=fK s (by omega);rw [Ue];generalize aa s 0=l at *
 have r2:=v0 l.length (by omega) L k2 (fun x h=>by have:=k6 x h;omega);rw [vI,if_pos k7] at r2;have r3:=za l.length (by omega) F k3;rw [Ce,if_pos k8] at r3;have r4:=Iw l.length 0 (d6 F) (by rw [A5];omega) (EP F) (fun a ha=>by have:=((rj l.length F [] k8).1 a (A6.1 ha)).1;unfold nr at this;omega);have r5:=GS;refine vF ab [0,1,2,3,4] Tryz.func12 rfl Tryz.results12 Tryz.ntmps12 ?_;(refine' zo5 r1 r2 r3 r4 r5)
def Rk (l:List Cl) (i:Nat):St:=⟨[(0,cM l),(1,cM l),(7,iv l.length),(8,iv i)],[],0⟩
def Rl (A:List Rw) (i:Nat):St:=⟨[(0,.d (.sd 7 false (A.map kA))),(1,.d (.sd 7 false (A.map kA))),(7,iv A.length),(8,iv i)],[],0⟩
attribute [push_cast] Rk.eq_def Rl.eq_def
theorem GK (l:List Cl) (hl:l.length≤1000000000):an Tryz.prog G0 109 [cM l,cM l] [] 0 (bv true) []:=by
 refine vF ab [0,1,4,5,7,8,9,25] Tryz.func109 rfl Tryz.results109 Tryz.ntmps109 ?_;(refine' zg)
 refine vL (lv:=[0,1,4,5,7,8,9,25]) ab (Rk l) (fun i=>i≤l.length) (fun i=>l.length - i) (0) ((aC.go [0,1,7,8] (by exact vT) rfl)) ?_ ?_
 ·exact Nat.zero_le _
 intro i hi;rcases Nat.lt_or_ge i l.length with hlt|hge
 ·obtain ⟨c,hc⟩ : ∃c,l[i]? = some c:=⟨_,List.getElem?_eq_getElem hlt⟩
  obtain ⟨r,k,w,a⟩:=c;(refine' pR hc)
  refine aG.go (i+1) [0,1,7,8] (by exact vT) ?_ ?_
  ·show l.length - (i+1)<l.length - i;omega
  ·show i+1≤l.length;omega
 ·(refine' zo)
set_option maxHeartbeats 3200000 in
theorem MI (r:Rw) (hl:r.1.length≤1000000000):an Tryz.prog G0 54 [.d (kA r),.d (kA r)] [] 0 (bv true) []:=by
 obtain ⟨cs,st,en,bk,wr,fo,wx⟩:=r;have r1:=GK cs hl;refine vF ab [0,1,2,3,4] Tryz.func54 rfl Tryz.results54 Tryz.ntmps54 ?_;(refine' BE r1)
theorem JZ (A:List Rw) (hA:A.length≤1000000000000) (hc : ∀r∈A,r.1.length≤1000000000):an Tryz.prog G0 15 [.d (.sd 7 false (A.map kA)),.d (.sd 7 false (A.map kA))] [] 0 (bv true) []:=by
 refine vF ab [0,1,4,5,7,8,9,26] Tryz.func15 rfl Tryz.results15 Tryz.ntmps15 ?_;(refine' zg)
 refine vL (lv:=[0,1,4,5,7,8,9,26]) ab (Rl A) (fun i=>i≤A.length) (fun i=>A.length - i) (0) ((aC.go [0,1,7,8] (by exact vT) rfl)) ?_ ?_
 ·exact Nat.zero_le _
 intro i hi;rcases Nat.lt_or_ge i A.length with hlt|hge
 ·obtain ⟨r,hr⟩ : ∃r,A[i]? = some r:=⟨_,List.getElem?_eq_getElem hlt⟩
  have r1:=MI r (hc r (List.mem_of_getElem? hr));obtain ⟨cs,st,en,bk,wr,fo,wx⟩:=r;(refine' lS r1 hr)
  refine aG.go (i+1) [0,1,7,8] (by exact vT) ?_ ?_
  ·show A.length - (i+1)<A.length - i;omega
  ·show i+1≤A.length;omega
 ·(refine' zo)
end Go.Proofs.YtkkanlcjjpoklaaGreatDoor
