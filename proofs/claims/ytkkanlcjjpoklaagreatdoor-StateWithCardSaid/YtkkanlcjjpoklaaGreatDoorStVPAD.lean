/- What the theorem leans on, part 4. -/
import Derived.Test.YtkkanlcjjpoklaaGreatDoorStVPAC
set_option linter.unusedSimpArgs false
set_option linter.unusedVariables false
namespace Go.Proofs.YtkkanlcjjpoklaaGreatDoor
theorem jt {σ:ak} {id:Nat} {c:bN} (h:(σ.get id).isSome=true) {j:Nat} {b:bN} (hb:(σ.set id c).get j=some b) : ∃b',σ.get j=some b':=by
 rw [ak.get_set h] at hb;split at hb
 ·rename_i e;subst e;exact acv.1 h
 ·exact ⟨b,hb⟩
theorem ay.recell {w:World} {I:Nat→Prop} {β:co} {σ:ak} {nx id:Nat} {cs cs':List V} {ty:Option Nat} (hm:de w I β σ nx) (hg:σ.get id=some (.cell cs ty))
 (h : ∀(i:Nat) c',cs'[i]? = some c' → ∃c,cs[i]? = some c ∧ ∀v,aL w I β c v→aL w I β c' v):ay w I β σ nx w I β (σ.set id (.cell cs' ty)) nx:=by
 have hs:(σ.get id).isSome=true:=by rw [hg];rfl
 refine ⟨⟨fun j b hb =>?_,fun i j b b' k c c' h1 h2 h3 h4 =>?_,hm.free,hm.lt⟩,rfl,rfl,rfl,aaV _,fun b _ _=>rfl,fun b hb=>hb,fun b hb=> .inl hb,fun _ _ h=>h,aaV _,fun b ⟨j,bl,c,h1,h2⟩ =>?_⟩
 ·rw [ak.get_set hs] at hb;split at hb
  ·rename_i e;subst e;injection hb with hb;subst hb;obtain ⟨b,cap,cur,t,q1,q2,q3,q4⟩:=hm.own j _ hg;refine ⟨b,cap,cur,t,q1,q2,q3,fun i c' hc =>?_⟩;obtain ⟨c,hc1,hc2⟩:=h i c' hc;obtain ⟨v,v1,v2,v3⟩:=q4 i c hc1;exact ⟨v,v1,v2,hc2 v v3⟩
  ·exact hm.own j b hb
 ·obtain ⟨x,hx⟩:=jt hs h1;obtain ⟨y,hy⟩:=jt hs h2;exact hm.inj i j x y k c c' hx hy h3 h4
 ·obtain ⟨x,hx⟩:=jt hs h1;exact .inl ⟨j,x,c,hx,h2⟩
def St.nilC (st:St) (id off k:Nat):St:=match st.sg.get id with
 | some (.cell cs ty)=>(match cs[off]? with
  | some (.d (.lit (.slice none 0 0)))=>⟨st.env,(st.nx,.row k [])::st.sg.set id (.cell (cs.set off (.so st.nx k 0 0)) ty),st.nx+1⟩
  | _=>st)
 | _=>st
theorem cH.nilC (G:Gl) (m:Nat) (st:St) (id off k:Nat):cH G m st (st.nilC id off k):=by
 intro C a w _ hr;unfold St.nilC;split
 ·rename_i cs ty hg;split
  ·rename_i hc;obtain ⟨I,β,h1,h2,h3,h4,h5,h6⟩:=hr;have hb:β st.nx=none:=h2 st.nx (aaV _);have h1':ay C.w C.I C.β C.σ C.nx w I β st.sg (st.nx+1):=h1.bump (by omega);have hs:=ay.nilRow h1'.mem (id:=st.nx) hb (by omega) k (tq:=none);have hne:st.nx≠id:=fun e=>by
    have:=(h1.mem.own id _ hg).named;rw [←e,hb] at this;obtain ⟨y,hy⟩:=this;cases hy
   have hg':ak.get ((st.nx,bN.row k [])::st.sg) id=some (.cell cs ty):=by
    simp only [ak.get];rw [aaY hne];exact hg
   have hr2:=ay.recell (cs':=cs.set off (.so st.nx k 0 0)) hs.mem hg' (fun i c' hi=>by
    rw [adq] at hi;split at hi
    ·rename_i e;subst e;split at hi
     ·injection hi with hi;subst hi;refine ⟨_,hc,fun v hv =>?_⟩;have hv:=aA hv;exact .inl ⟨aX _ _ _,rfl,rfl,none,hv⟩
     ·cases hi
    ·exact ⟨c',hi,fun v hv=>hv⟩)
   have hset:ak.set ((st.nx,bN.row k [])::st.sg) id (.cell (cs.set off (.so st.nx k 0 0)) ty)=(st.nx,bN.row k [])::st.sg.set id (.cell (cs.set off (.so st.nx k 0 0)) ty):=by
    simp only [ak.set];rw [aaY hne]
   rw [hset] at hr2;refine ⟨I,oh β st.nx none,(h1'.trans hs).trans hr2,fun j hj =>?_,fun u =>?_,h4,(h5.step hs).step hr2,h6⟩
   ·have:j≠st.nx:=by have:st.nx+1≤j:=hj;omega
    rw [aP this];exact h2 j (by have:st.nx+1≤j:=hj;omega)
   ·exact hs.den h1'.mem (h3 u)
  ·exact hr
 ·exact hr
theorem aC.nilC {G:Gl} {m:Nat} {K:St→Prop} {st:St} (id off k:Nat) (h:aC G m K (st.nilC id off k)):aC G m K st:=aC.via (cH.nilC G m st id off k) h
attribute [push_cast] St.nilC.eq_def List.set_cons_zero List.set_cons_succ
end Go.Proofs.YtkkanlcjjpoklaaGreatDoor
