/- What the theorem leans on, part 41. -/
import Derived.Test.YtkkanlcjjpoklaaGreatDoorSpTPBN
set_option linter.unusedSimpArgs false
set_option linter.unusedVariables false
set_option maxRecDepth 8000
namespace Go.Proofs.YtkkanlcjjpoklaaGreatDoor
def PJ (rp il hd:D) (z w:List (Int × Int)) (tab:Nat) (wd:Int) (n:Nat) (x:Nat × List Fl):St:=
 ⟨[(1,iv x.1),(2,iv n),(3,.po 0 0),(8,.so 1 4 0 x.2.length)],[(0,.cell [.d rp,.d il,.d hd,.d (z6 z w),iv tab,iv wd]),(1,.row 4 (x.2.map sX))],2⟩
attribute [push_cast] PJ.eq_def
theorem zW (es:List Fl) (x:Fl):es.map sX++[D.agg [iD x.1,iD x.2.1,iD x.2.2.1,iD x.2.2.2]]=(es++[x]).map sX:=by rw [List.map_append];rfl
section
variable {s:ByteArray} {L:List Iy} {F:List Sn} {tab:Nat} {wd:Int} {ps:List (List Int)} {t:Option T}
abbrev mV (s:ByteArray) (L:List Iy) (F:List Sn) (tab:Nat) (wd:Int) (a:Nat):List Fl:=(bG (aa s 0) (aL F) a).map (Km zT wT tab wd (aa s 0) (bp L) (aL F))
set_option maxHeartbeats 3200000 in
theorem rS (h:sn s L F tab wd) (R:Rp (aa s 0) ps t):aq Tryz.prog G0 71 [Ms s L F tab wd t,iv 0,iv (aa s 0).length] [] 0 (.tup [.d (.sd 4 false ((mV s L F tab wd 0).map sX)),bv true]) []:=by
 have ht:1≤tab∧tab≤16:=by have:=h.tab0;omega
 have hrs:=h.rs;have hg:=h.gd;have hr:=(kx h.okT).1;have hf:=h.hl;have hbg : ∀a:Nat,a≤(aa s 0).length→(a=0∨fS (aa s 0) (aL F) (a - 1)=true)→aq Tryz.prog G0 52 [Cp t (aa s 0).length (ca (bp L)) (aL F),iv a] [] 0 (.tup [.d (Jn (aa s 0) (bp L) (aL F) (a,aQ (aa s 0) (aL F) a)),iv 0]) []:=fun a ha hb=>by
  refine JX R (aa s 0).length (bp L) (by have:=hg.len;omega) (fun y hy=>⟨hg.at' y hy,hg.sz y hy⟩) (aL F) (by omega) h.okT a ha ?_;rcases Nat.eq_zero_or_pos a with h0|h0
  ·subst h0;exact xt R _ _ _ 0 (.inl (Int.le_refl _))
  ·have:=Av R (aa s 0).length (ca (bp L)) (aL F) (by omega) a h0 ha;rcases hb with hb|hb
   ·omega
   ·rwa [hb] at this
 have hms : ∀a:Nat,a≤(aa s 0).length→(a=0∨fS (aa s 0) (aL F) (a - 1)=true)→aq Tryz.prog G0 130 [Ms s L F tab wd t,.d (Jn (aa s 0) (bp L) (aL F) (a,aQ (aa s 0) (aL F) a))] [] 0 (.d (sX (Km zT wT tab wd (aa s 0) (bp L) (aL F) (a,aQ (aa s 0) (aL F) a)))) []:=fun a ha hb=>by
  obtain ⟨c1,c2⟩:=ph hg (by omega) hr ha hb;have he:=dc (aa s 0) (aL F) ha;have hc2:((bp L).length+1)*((aa s 0).length+1)≤61*301:=Nat.mul_le_mul (by have:=hg.len;omega) (by omega);exact GD R hrs _ _ Mx Mu ht h.wd0 (DL hg hrs hr zT wT ht wd ha rfl hb) he c1 (by show (bQ _ _ (aQ _ _ a) a _).length≤1000000;omega)
 have hLl:(bG (aa s 0) (aL F) 0).length≤301:=by have:=eB (aa s 0) (aL F) 0 (Nat.zero_le _);omega
 rw [mV];simp only [Ms,Cp,Jn] at hbg hms ⊢;generalize a5 t=rp at *
 generalize bY _ _=il at *
 generalize (aL F).map dk=hd at *
 have htb:=h.tab0;have hfd : ∀x:Fl,sX x = .agg [iD x.1,iD x.2.1,iD x.2.2.1,iD x.2.2.2]:=fun _=>rfl
 generalize hM:Km zT wT tab wd (aa s 0) (bp L) (aL F)=M at *
 refine vF ab [0,1,2,3,6,7,8,9,10,25,35] Tryz.func71 rfl Tryz.results71 Tryz.ntmps71 ?_;(refine' zg)
 refine vL (lv:=[0,1,2,3,6,7,8,9,10,25,35]) ab (PJ rp il (.sd 2 false hd) zT wT tab wd (aa s 0).length) (fun x=>x.1≤(aa s 0).length∧(x.1=0∨fS (aa s 0) (aL F) (x.1 - 1)=true)∧x.2++(bG (aa s 0) (aL F) x.1).map M=(bG (aa s 0) (aL F) 0).map M) (fun x=>(aa s 0).length - x.1) ((0,[])) (aN.nil 8 4<|(aN.go [1,2,3,8] (by exact vT) rfl)) ?_ ?_
 ·exact ⟨Nat.zero_le _,.inl rfl,rfl⟩
 rintro ⟨a,out⟩ ⟨ha,hb,he⟩;simp only at ha hb he;have hol:out.length≤301:=by
  have:=congrArg List.length he;rw [List.length_append,List.length_map,List.length_map] at this;omega
 have r1:=hbg a ha hb;have r2:=hms a ha hb;rw [hfd] at r2;have hen:=dc (aa s 0) (aL F) ha;rw [bG,List.map_cons] at he;have hsh:=fun hlt=>ge (aa s 0) (aL F) ha hlt
 generalize aQ (aa s 0) (aL F) a=b at *
 by_cases hlt:b<(aa s 0).length
 ·rw [dif_pos ⟨hlt,hen.1⟩] at he;(refine' Mz r1 r2)
  rw [zW];refine bH.go ((b+1,out++[M (a,b)])) [1,2,3,8] (by exact vT) ?_ ?_
  ·show (aa s 0).length - (b+1)<(aa s 0).length - a;omega
  ·exact ⟨hlt,.inr (hsh hlt),by rw [←he];simp⟩
 ·rw [dif_neg (by omega)] at he;obtain rfl:b=(aa s 0).length:=by omega
  (refine' Mz r1 r2)
  rw [zW];refine ah.frz 94 (ah.out ?_);(refine' zg)
  all_goals (try rw [List.take_of_length_le (by simp)])
  all_goals rw [←List.map_map,←he,List.map_nil]
end
end Go.Proofs.YtkkanlcjjpoklaaGreatDoor
