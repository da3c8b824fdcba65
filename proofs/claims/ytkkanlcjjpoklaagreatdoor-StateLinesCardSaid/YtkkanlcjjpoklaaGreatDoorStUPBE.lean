/- What the theorem leans on, part 31. -/
import Derived.Test.YtkkanlcjjpoklaaGreatDoorStUPAX
import Derived.Test.YtkkanlcjjpoklaaGreatDoorStUPBA
set_option linter.unusedSimpArgs false
set_option linter.unusedVariables false
namespace Go.Proofs.YtkkanlcjjpoklaaGreatDoor
theorem vd (acc:List Pz) (r:Int) (a:Nat):aE (e8 acc r a)=aE acc++[(r,1,(a:Int))]:=by
 have hn:aE (acc++[.tx 1 a [r]])=aE acc++[(r,1,(a:Int))]:=by rw [a5,dU];rfl
 rcases List.eq_nil_or_concat acc with rfl|⟨pre,z,rfl⟩
 ·rfl
 ·rw [List.concat_eq_append] at hn ⊢;cases z with
  | tx k p rs=>
   rw [iy];split
   ·rename_i hk;obtain ⟨rfl,h2⟩:=hk;rw [a5,dU,a5,dU,c8,c8,if_pos rfl,iK,List.append_assoc,Int.one_mul,h2]
   ·exact hn
  | fo p=>rw [lY];exact hn
theorem nH (L:List Iy) (a:Nat) : ∀c∈aE (b5 L a),c.2=(2,(a:Int)):=by
 unfold b5;induction co L a a with
 | nil=>intro c h;cases h
 | cons y t ih=>
  intro c h;rw [List.map_cons,aE] at h;rcases List.mem_append.1 h with h|h
  ·rw [c8,if_neg (by decide)] at h;obtain ⟨h1,h2⟩:=vi _ _ c h;exact Prod.ext h1 (h2 rfl)
  ·exact ih c h
structure BG (l:List Int) (H:List Sn) (a e:Nat) (G:List (Int × Int × Int)):Prop where
 rise:G.Pairwise fun x y=>x.2.2≤y.2.2
 ins : ∀c∈G,(a:Int)≤c.2.2∧c.2.2≤e
 kd : ∀c∈G,(c.2.1=1∨c.2.1=2∨c.2.1=3)∧(c.2.1=1 → ∃k:Nat,c.2.2=k∧l[k]? = some c.1)
 vis:(G.filter fun c=>c.2.1==1).map (·.1)=nh l H (e - a) a
 ne:a<e→G≠[]
theorem BG.pre {l:List Int} {H:List Sn} {a e:Nat} {G I:List (Int × Int × Int)} (g:BG l H a e G) (hae:a≤e) (h : ∀c∈I,c.2=(2,(a:Int))):BG l H a e (I++G):=by
 have hI:I.filter (fun c=>c.2.1==1)=[]:=List.filter_eq_nil_iff.2 fun c hc=>by rw [h c hc];simp
 refine ⟨List.pairwise_append.2 ⟨?_,g.rise,?_⟩,?_,?_,?_,?_⟩
 ·clear hI;induction I with
  | nil=>exact .nil
  | cons x t ih=>exact .cons (fun y hy=>by rw [h x List.mem_cons_self,h y (List.mem_cons_of_mem _ hy)];exact Int.le_refl _) (ih fun c hc=>h c (List.mem_cons_of_mem _ hc))
 ·intro x hx y hy;rw [h x hx];exact (g.ins y hy).1
 ·intro c hc;rcases List.mem_append.1 hc with hc|hc
  ·rw [h c hc];exact ⟨Int.le_refl _,by show (a:Int)≤e;omega⟩
  ·exact g.ins c hc
 ·intro c hc;rcases List.mem_append.1 hc with hc|hc
  ·rw [h c hc];exact ⟨.inr (.inl rfl),fun e=>by cases e⟩
  ·exact g.kd c hc
 ·rw [List.filter_append,hI];exact g.vis
 ·intro hae e;rw [List.append_eq_nil_iff] at e;exact g.ne hae e.2
theorem BG.nil (l:List Int) (H:List Sn) (a:Nat):BG l H a a []:=
 ⟨.nil,fun c h=>(nomatch h),fun c h=>(nomatch h),(by rw [Nat.sub_self];rfl),fun h=>absurd h (Nat.lt_irrefl _)⟩
theorem BG.plain {l:List Int} {H:List Sn} {a e:Nat} {G:List (Int × Int × Int)} {r:Int} (g:BG l H (a+1) e G) (hae:a+1≤e) (hr:l[a]? = some r) (hx:cf H a=none):BG l H a e ((r,1,(a:Int))::G):=by
 refine ⟨.cons (fun y hy =>?_) g.rise,fun c hc =>?_,fun c hc =>?_,?_,fun _ h=>by cases h⟩
 ·have:=g.ins y hy;show (a:Int)≤y.2.2;omega
 ·rcases List.mem_cons.1 hc with rfl|hc
  ·exact ⟨Int.le_refl _,by show (a:Int)≤e;omega⟩
  ·have:=g.ins c hc;omega
 ·rcases List.mem_cons.1 hc with rfl|hc
  ·exact ⟨.inl rfl,fun _=>⟨a,rfl,hr⟩⟩
  ·exact g.kd c hc
 ·rw [show e - a=(e - (a+1))+1 by omega,K3 hr hx,←g.vis];rfl
theorem BG.hid {l:List Int} {H:List Sn} {a k e:Nat} {G:List (Int × Int × Int)} (g:BG l H k e G) (hak:a<k) (hke:k≤e) (hx : ∀j,a≤j→j<k→cf H j≠none):BG l H a e ((8230,3,(a:Int))::G):=by
 refine ⟨.cons (fun y hy =>?_) g.rise,fun c hc =>?_,fun c hc =>?_,?_,fun _ h=>by cases h⟩
 ·have:=g.ins y hy;show (a:Int)≤y.2.2;omega
 ·rcases List.mem_cons.1 hc with rfl|hc
  ·exact ⟨Int.le_refl _,by show (a:Int)≤e;omega⟩
  ·have:=g.ins c hc;omega
 ·rcases List.mem_cons.1 hc with rfl|hc
  ·exact ⟨.inr (.inr rfl),fun h=>by cases h⟩
  ·exact g.kd c hc
 ·rw [show e - a=(k - a)+(e - k) by omega,Bx,By l H (k - a) a (fun j q1 q2=>hx j q1 (by omega)),show a+(k - a)=k by omega,←g.vis];rfl
theorem xb {l:List Int} {L:List Iy} {H:List Sn} (hr:jp l.length 0 H=true) : ∀(d a:Nat) (acc:List Pz),l.length - a≤d→a≤l.length → ∃G,aE (fQ l L H a acc).1=aE acc++G∧BG l H a (aF l H a) G
 | d,a,acc,hd,ha=>by
  by_cases h:a<l.length∧eY l H a=false
  ·obtain ⟨h1,h2⟩:=h;obtain ⟨r,hr'⟩ : ∃r,l[a]? = some r:=⟨_,List.getElem?_eq_getElem h1⟩
   have e1:aF l H a=aF l H (a+1):=jY h1 h2;cases hx:cf H a with
   | none=>
    have he:=bU l H (i:=a+1) (by omega);obtain ⟨G,g1,g2⟩:=xb hr (d - 1) (a+1) (e8 (acc++b5 L a) r a) (by omega) (by omega);refine ⟨aE (b5 L a)++((r,1,(a:Int))::G),?_,(g2.plain he.1 hr' hx|>fun z=>by rw [e1];exact z.pre (by omega) (nH L a))⟩;rw [fS hr' h2 hx,g1,vd,a5,List.append_assoc,List.append_assoc];rfl
   | some x=>
    obtain ⟨q1,q2,q3⟩:=di hx;have q4:=cW hr x q1;obtain ⟨k,hk⟩ : ∃k:Nat,x.2=k:=⟨x.2.toNat,by omega⟩
    have he:=bU l H (i:=k) (by omega);have e2:aF l H a=aF l H k:=fG _ _ _ _ (by omega) (by omega) fun j q1' q2'=>mX hr q1 (by omega) (by omega)
    obtain ⟨G,g1,g2⟩:=xb hr (d - 1) k (acc++b5 L a++[.fo a]) (by omega) (by omega);refine ⟨aE (b5 L a)++((8230,3,(a:Int))::G),?_,?_⟩
    ·rw [gY h1 h2 hx hk (by omega),g1,a5,a5,dU,c8,List.append_assoc,List.append_assoc];rfl
    ·rw [e2];exact (g2.hid (by omega) he.1 fun j p1 p2 e=>by
      have:=p9 hr x q1 j (by omega) (by omega);rw [this] at e;cases e).pre (by omega) (nH L a)
  ·have e:aF l H a=a:=by
    by_cases h1:a<l.length
    ·have:eY l H a=true:=by
      cases hb:eY l H a with
      | true=>rfl
      | false=>exact (h ⟨h1,hb⟩).elim
     exact oi h1 this
    ·have:a=l.length:=by omega
     subst this;exact i2 _ _ _ (Nat.le_refl _)
   refine ⟨aE (b5 L a)++[],?_,?_⟩
   ·rw [fR h,a5,List.append_nil]
   ·rw [e];exact (BG.nil l H a).pre (Nat.le_refl _) (nH L a)
 termination_by d=>d
 decreasing_by all_goals omega
theorem xQ {l:List Int} {L:List Iy} {H:List Sn} (hso:HD L) (hr:jp l.length 0 H=true) {a:Nat} (ha:a≤l.length) (hb:a=0∨eY l H (a - 1)=true):BG l H a (aF l H a) (aE (b4 l L (aF l H a) a H)):=by
 obtain ⟨G,g1,g2⟩:=xb (L:=L) hr _ a [] (Nat.le_refl _) ha;rw [pU hso hr ha (wU hb hr)] at g1;rw [g1];exact g2
structure NK (l:List Int) (H:List Sn) (a e:Nat) (C:List Cl):Prop where
 rise:C.Pairwise fun x y=>x.2.2.2≤y.2.2.2
 ins : ∀c∈C,(a:Int)≤c.2.2.2∧c.2.2.2≤e
 kd : ∀c∈C,c.2.1≠5∧cw c≤2∧(c.2.1=1 → ∃k:Nat,c.2.2.2=k∧l[k]? = some c.1)
 vis:(C.filter fun c=>c.2.1==1).map (·.1)=nh l H (e - a) a
 ne:a<e→C≠[]
theorem fC {x:Int × Int × Int} {s:Nat} {c:Cl} (h:c∈ff x s):c.2.2.2=x.2.2∧((c.2.1=x.2.1∧c.1=x.1∧cw c=if x.1=9 then 1 else s)∨(c.2.1=4∧cw c=1)):=by
 rcases List.mem_cons.1 h with rfl|h
 ·exact ⟨rfl,.inl ⟨rfl,rfl,rfl⟩⟩
 ·rw [(List.mem_replicate.1 h).2];exact ⟨rfl,.inr ⟨rfl,rfl⟩⟩
theorem Fv (x:Int × Int × Int) (s:Nat):((ff x s).filter fun c=>c.2.1==1).map (·.1)=if x.2.1=1 then [x.1] else []:=by
 have h2 : ∀n,(List.replicate n ((32,4,1,x.2.2):Cl)).filter (fun c=>c.2.1==1)=[]:=fun n=>List.filter_eq_nil_iff.2 fun c hc=>by rw [(List.mem_replicate.1 hc).2];simp
 rw [ff,List.filter_cons,h2];by_cases h:x.2.1=1
 ·rw [if_pos h,if_pos (by simpa using h)];rfl
 ·rw [if_neg h,if_neg (by simpa using h)];rfl
section
variable {z w:List (Int × Int)} {tab:Nat}
theorem iB : ∀(G:List (Int × Int × Int)) (n:Nat) (c:Cl),c∈bz z w tab n G → ∃x∈G,∃m,c∈ff x (nl z w tab m x.1)
 | [],_,c,h=>by cases h
 | x::t,n,c,h=>by
  rw [bz] at h;rcases List.mem_append.1 h with h|h
  ·exact ⟨x,List.mem_cons_self,n,h⟩
  ·obtain ⟨y,hy,m,hm⟩:=iB t _ c h;exact ⟨y,List.mem_cons_of_mem _ hy,m,hm⟩
theorem oN : ∀(G:List (Int × Int × Int)) (n:Nat),(G.Pairwise fun x y=>x.2.2≤y.2.2)→(bz z w tab n G).Pairwise fun x y=>x.2.2.2≤y.2.2.2
 | [],_,_=> .nil
 | x::t,n,h=>by
  obtain ⟨h1,h2⟩:=List.pairwise_cons.1 h;rw [bz];refine List.pairwise_append.2 ⟨?_,oN t _ h2,?_⟩
  ·refine List.pairwise_of_forall_mem_list fun a ha b hb =>?_
   rw [(fC ha).1,(fC hb).1];exact Int.le_refl _
  ·intro a ha b hb;obtain ⟨y,hy,m,hm⟩:=iB t _ b hb;rw [(fC ha).1,(fC hm).1];exact h1 y hy
theorem qL : ∀(G:List (Int × Int × Int)) (n:Nat),((bz z w tab n G).filter fun c=>c.2.1==1).map (·.1)=(G.filter fun c=>c.2.1==1).map (·.1)
 | [],_=>rfl
 | x::t,n=>by
  rw [bz,List.filter_append,List.map_append,Fv,qL t,List.filter_cons];by_cases h:x.2.1=1
  ·rw [if_pos h,if_pos (by simpa using h)];rfl
  ·rw [if_neg h,if_neg (by simpa using h)];rfl
theorem BG.cells {l:List Int} {H:List Sn} {a e:Nat} {G:List (Int × Int × Int)} (g:BG l H a e G) (n:Nat):NK l H a e (bz z w tab n G):=by
 refine ⟨oN G n g.rise,fun c hc =>?_,fun c hc =>?_,by rw [qL];exact g.vis,fun h h2 =>?_⟩
 ·obtain ⟨x,hx,m,hm⟩:=iB G n c hc;rw [(fC hm).1];exact g.ins x hx
 ·obtain ⟨x,hx,m,hm⟩:=iB G n c hc;obtain ⟨h1,h2⟩:=fC hm;obtain ⟨k1,k2⟩:=g.kd x hx;rcases h2 with ⟨q1,q2,q3⟩|⟨q1,q2⟩
  ·refine ⟨by rw [q1];omega,?_,fun e =>?_⟩
   ·rw [q3];split
    ·omega
    ·rename_i h9;rw [nl,if_neg h9];exact Dz z w _
   ·rw [h1,q2];exact k2 (q1▸e)
  ·exact ⟨by rw [q1];decide,by omega,fun e=>by rw [q1] at e;cases e⟩
 ·have:=g.ne h;cases G with
  | nil=>exact this rfl
  | cons x t=>rw [bz,ff] at h2;cases h2
end
abbrev Rw:=List Cl × Int × Int × Nat × Bool × Bool × Nat
def lb (l:List Int) (a:Int):Nat:=aT (l.take a.toNat)
def xF (fr to:Int):List (List Cl)→Int
 | []=>to
 | r::_=>bo fr r
def bP (l:List Int) (fr to:Int):Bool→List (List Cl)→List Rw
 | _,[]=>[]
 | b,r::t=>(r,bo fr r,xF fr to t,lb l (bo fr r),b,eQ r,cZ r)::bP l fr to true t
def rH (z w:List (Int × Int)) (tab:Nat) (wd:Int) (l:List Int) (ps:List Pz) (fr to:Int):List Rw:=bP l fr to false (bN (bz z w tab 0 (aE ps)) wd)
theorem eG (l:List Int) (fr to:Int) : ∀(b:Bool) (r:List (List Cl)),(bP l fr to b r).length=r.length
 | _,[]=>rfl
 | _,r::t=>by rw [bP,List.length_cons,List.length_cons,eG l fr to true t]
theorem lL {fr:Int} {c:Cl} {r:List Cl} (h:c.2.1≠5):bo fr (c::r)=c.2.2.2:=by
 rw [bo,List.find?_cons_of_pos (by simpa using h)]
theorem G2 {fr:Int} {c:Cl} {r:List Cl} (n:Nat) (h:c.2.1≠5):bo fr (et n (c::r))=c.2.2.2:=by
 rw [et];induction n with
 | zero=>exact lL h
 | succ n ih=>rw [List.replicate_succ,List.cons_append,bo,List.find?_cons_of_neg (by simp)];exact ih
theorem OM (n:Nat) {r:List Cl} (h:r≠[]):et n r≠[]:=by
 cases r with
 | nil=>exact (h rfl).elim
 | cons c t=>rw [et];simp
theorem uP (l:List Int) {a b:Int} (h:a≤b):lb l a≤lb l b:=by
 unfold lb aT;have e:l.take b.toNat=l.take a.toNat++(l.take b.toNat).drop a.toNat:=by
  have:=(List.take_append_drop a.toNat (l.take b.toNat)).symm;rwa [List.take_take,Nat.min_eq_left (by omega)] at this
 rw [e,List.filter_append,List.length_append];omega
def LF (l:List Int) (e:Int):Int→List Rw→Prop
 | s,[]=>s=e
 | s,r::t=>r.2.1=s∧r.2.1≤r.2.2.1∧r.2.2.1≤e∧r.2.2.2.1=lb l r.2.1∧r.2.2.2.2.1=true∧r.1≠[]∧LF l e r.2.2.1 t
theorem yW (l:List Int) {fr e:Int} (h:Nat) : ∀(ps:List (List Cl)) (lo:Int),(∀p∈ps,p≠[])→(ps.flatten.Pairwise fun x y=>x.2.2.2≤y.2.2.2)→(∀c∈ps.flatten,lo≤c.2.2.2∧c.2.2.2≤e∧c.2.1≠5) →
 lo≤e→LF l e (xF fr e (ps.map (et h))) (bP l fr e true (ps.map (et h)))∧lo≤xF fr e (ps.map (et h))∧xF fr e (ps.map (et h))≤e
 | [],lo,_,_,_,hle=>⟨rfl,hle,Int.le_refl _⟩
 | p::t,lo,hne,hp,hin,hle=>by
  obtain ⟨c,r,rfl⟩:=List.exists_cons_of_ne_nil (hne p List.mem_cons_self);rw [List.flatten_cons] at hp hin;obtain ⟨p1,p2,p3⟩:=List.pairwise_append.1 hp;have hc:=hin c (by simp);obtain ⟨g1,g2,g3⟩:=yW l h t c.2.2.2 (fun q hq=>hne q (List.mem_cons_of_mem _ hq)) p2 (fun x hx=>⟨p3 c List.mem_cons_self x hx,(hin x (List.mem_append.2 (.inr hx))).2⟩) hc.2.1;rw [List.map_cons,bP,xF,G2 h hc.2.2];exact ⟨⟨rfl,g2,g3,rfl,rfl,OM h (List.cons_ne_nil _ _),g1⟩,hc.1,hc.2.1⟩
theorem Gk {l:List Int} {H:List Sn} {a e:Nat} {C:List Cl} (g:NK l H a e C) (hae:a≤e) (wd:Int) :
 ∃r t,bP l a e false (bN C wd)=r::t∧(a:Int)≤r.2.1∧r.2.1≤r.2.2.1∧r.2.2.1≤e∧r.2.2.2.1=lb l r.2.1∧r.2.2.2.2.1=false∧LF l e r.2.2.1 t∧(r.1=[]→r.2.1=r.2.2.1):=by
 have hcut:=wz C wd;obtain ⟨p,q,hpq⟩ : ∃p q,dg C (bn C wd)=p::q:=by
  unfold bn;split
  ·exact ⟨_,_,rfl⟩
  ·rw [px,dg];exact ⟨_,_,rfl⟩
 have hq : ∀x∈q,x≠[]:=by
  unfold bn at hpq;split at hpq
  ·simp only [dg,List.cons.injEq] at hpq;rw [←hpq.2];intro x hx;cases hx
  ·rw [px,dg,List.cons.injEq] at hpq;rw [←hpq.2];exact MS _ _
 have hp0:p=[]→C=[]:=by
  intro hp;by_cases hC:C=[]
  ·exact hC
  ·exfalso;unfold bn at hpq;split at hpq
   ·simp only [dg,List.cons.injEq,List.take_length] at hpq;exact hC (hpq.1.trans hp)
   ·rw [px,dg,List.cons.injEq] at hpq;have:=(lP wd hC).1;have h2:=List.length_pos_iff.2 hC;have h3:=congrArg List.length (hpq.1.trans hp);rw [List.length_take,List.length_nil] at h3;omega
 rw [hpq,List.flatten_cons] at hcut;have hr:bN C wd=p::q.map (et (dD C wd)):=by rw [bN,hpq]
 rw [hr,bP];have hrise:=g.rise;rw [←hcut] at hrise;obtain ⟨p1,p2,p3⟩:=List.pairwise_append.1 hrise;have hin : ∀c∈p++q.flatten,(a:Int)≤c.2.2.2∧c.2.2.2≤e∧c.2.1≠5:=fun c hc=>by
  rw [hcut] at hc;exact ⟨(g.ins c hc).1,(g.ins c hc).2,(g.kd c hc).1⟩
 refine ⟨_,_,rfl,?_⟩;rcases p with _|⟨c,r⟩
 ·have hC:=hp0 rfl;rw [hC] at hcut;have hq0:q=[]:=by
   cases q with
   | nil=>rfl
   | cons x t=>
    exfalso;have:=hq x List.mem_cons_self;have h2:x=[]:=by simp at hcut;exact hcut.1
    exact this h2
  subst hq0;have hea:e=a:=by
   by_cases h:a<e
   ·exact (g.ne h hC).elim
   ·omega
  subst hea;exact ⟨Int.le_refl _,Int.le_refl _,Int.le_refl _,rfl,rfl,rfl,fun _=>rfl⟩
 ·have hc:=hin c (by simp);obtain ⟨g1,g2,g3⟩:=yW l (fr:=a) (e:=e) (dD C wd) q c.2.2.2 hq p2 (fun x hx=>⟨p3 c List.mem_cons_self x hx,(hin x (List.mem_append.2 (.inr hx))).2⟩) hc.2.1;rw [lL hc.2.2];exact ⟨hc.1,g2,g3,rfl,rfl,g1,fun h=>nomatch h⟩
def Ui (l:List Int) (r:Rw):Prop:=0≤r.2.1∧r.2.1≤r.2.2.1∧r.2.2.1≤l.length∧r.2.2.2.1=lb l r.2.1∧(r.1=[]→r.2.2.2.2.1=false∧r.2.1=r.2.2.1)
def ZZ (l:List Int) (r n:Rw):Prop:=r.2.1≤n.2.1∧r.2.2.2.1≤n.2.2.2.1∧(n.2.2.2.2.1=true→n.2.1=r.2.2.1)∧(n.2.2.2.2.1=false → ∃k:Nat,r.2.2.1=k∧l[k]? = some 10)
def JU (l:List Int):List Rw→Prop
 | []=>False
 | [r]=>Ui l r∧r.2.2.1=l.length
 | r::n::t=>Ui l r∧ZZ l r n∧JU l (n::t)
theorem Ik {l:List Int} {e:Nat} (he:e≤l.length) {S:List Rw} (hS:(S=[]∧e=l.length)∨(∃n T,S=n::T∧JU l S∧n.2.2.2.2.1=false∧(e:Int)≤n.2.1∧n.2.2.2.1=lb l n.2.1∧l[e]? = some 10)) :
 ∀(t:List Rw) (r:Rw),Ui l r→LF l e r.2.2.1 t→JU l (r::t++S)
 | [],r,hq,hc=>by
  have hc:r.2.2.1=e:=hc;rcases hS with ⟨rfl,h⟩|⟨n,T,rfl,h1,h2,h3,h4,h5⟩
  ·exact ⟨hq,by rw [hc,h]⟩
  ·obtain ⟨q1,q2,q3,q4,q5⟩:=hq;exact ⟨⟨q1,q2,q3,q4,q5⟩,⟨by omega,by rw [q4,h4];exact uP l (by omega),fun h=>(by rw [h2] at h;exact nomatch h),fun _=>⟨e,hc,h5⟩⟩,h1⟩
 | x::t,r,hq,hc=>by
  obtain ⟨c1,c2,c3,c4,c5,c6,c7⟩:=hc;obtain ⟨q1,q2,q3,q4,q5⟩:=hq;exact ⟨⟨q1,q2,q3,q4,q5⟩,⟨by omega,by rw [q4,c4];exact uP l (by omega),fun _=>c1,fun h=>(by rw [c5] at h;exact nomatch h)⟩,
   Ik he hS t x ⟨by omega,c2,by omega,c4,fun h=>(c6 h).elim⟩ c7⟩
def xz (z w:List (Int × Int)) (tab:Nat) (wd:Int) (l:List Int) (L:List Iy) (H:List Sn):List (Nat × Nat)→List Rw
 | []=>[]
 | x::r=>rH z w tab wd l (b4 l L x.2 x.1 H) x.1 x.2++xz z w tab wd l L H r
section
variable {z w:List (Int × Int)} {tab:Nat} {wd:Int} {l:List Int} {L:List Iy} {H:List Sn}
theorem Jv (hso:HD L) (hr:jp l.length 0 H=true) : ∀(d a:Nat),l.length - a≤d→a≤l.length→(a=0∨eY l H (a - 1)=true) →
 JU l (xz z w tab wd l L H (aW l H a)) ∧ ∃n T,xz z w tab wd l L H (aW l H a)=n::T∧n.2.2.2.2.1=false∧(a:Int)≤n.2.1∧n.2.2.2.1=lb l n.2.1
 | d,a,hd,ha,hb=>by
  have he:=bU l H ha;obtain ⟨r,t,hrt,h1,h2,h3,h4,h5,h6,h7⟩:=Gk ((xQ (L:=L) hso hr ha hb).cells (z:=z) (w:=w) (tab:=tab) 0) he.1 wd;have hq:Ui l r:=⟨by omega,h2,by omega,h4,fun e=>⟨h5,h7 e⟩⟩
  rw [aW,xz,rH,hrt];refine ⟨Ik he.2 ?_ t r hq h6,r,t++_,rfl,h5,h1,h4⟩;by_cases hlt:aF l H a<l.length
  ·have hsh:=gu l H ha hlt;obtain ⟨h10,hno⟩:=i3.1 hsh;rw [dif_pos ⟨hlt,he.1⟩];obtain ⟨g1,n,T,g2,g3,g4,g5⟩:=Jv hso hr (d - 1) (aF l H a+1) (by omega) hlt (.inr hsh);exact .inr ⟨n,T,g2,g1,g3,by omega,g5,h10⟩
  ·rw [dif_neg (by omega)];exact .inl ⟨rfl,by omega⟩
 termination_by d=>d
 decreasing_by all_goals omega
theorem Kh {C:List Cl} {r:List Cl} (h:r∈bN C wd) : ∀c∈r,c∈C∨c.2.1=5:=by
 have hcut:=wz C wd;rw [bN] at h;rcases hpq:dg C (bn C wd) with _|⟨p,q⟩
 ·rw [hpq] at h;cases h
 ·rw [hpq] at h hcut;rw [List.flatten_cons] at hcut;rcases List.mem_cons.1 h with rfl|h
  ·exact fun c hc=> .inl (by rw [←hcut];exact List.mem_append.2 (.inl hc))
  ·obtain ⟨x,hx,rfl⟩:=List.mem_map.1 h;intro c hc;cases x with
   | nil=>cases hc
   | cons y t=>
    rw [et] at hc;rcases List.mem_append.1 hc with hc|hc
    ·rw [(List.mem_replicate.1 hc).2];exact .inr rfl
    ·exact .inl (by rw [←hcut];exact List.mem_append.2 (.inr (List.mem_flatten.2 ⟨_,hx,hc⟩)))
theorem lB {fr to:Int} : ∀ {b:Bool} {q:List (List Cl)} {r:Rw},r∈bP l fr to b q→r.1∈q∧r.2.2.2.2.2.2=cZ r.1
 | _,[],_,h=>by cases h
 | _,x::t,r,h=>by
  rw [bP] at h;rcases List.mem_cons.1 h with rfl|h
  ·exact ⟨List.mem_cons_self,rfl⟩
  ·obtain ⟨h1,h2⟩:=lB h;exact ⟨List.mem_cons_of_mem _ h1,h2⟩
theorem Ei (hso:HD L) (hr:jp l.length 0 H=true) : ∀(d a:Nat),l.length - a≤d→a≤l.length→(a=0∨eY l H (a - 1)=true) → ∀r∈xz z w tab wd l L H (aW l H a),
 r.2.2.2.2.2.2=cZ r.1∧(2≤wd→(cZ r.1:Int)≤wd) ∧ ∀c∈r.1,c.2.1=1 → ∃k:Nat,c.2.2.2=k∧l[k]? = some c.1
 | d,a,hd,ha,hb,r,h=>by
  have he:=bU l H ha;have hC:=(xQ (L:=L) hso hr ha hb).cells (z:=z) (w:=w) (tab:=tab) 0;rw [aW,xz] at h;rcases List.mem_append.1 h with h|h
  ·obtain ⟨h1,h2⟩:=lB h;refine ⟨h2,fun hw=>Ki hw (fun c hc=>(hC.kd c hc).2.1) _ h1,fun c hc hk =>?_⟩;rcases Kh h1 c hc with q|q
   ·exact (hC.kd c q).2.2 hk
   ·rw [q] at hk;cases hk
  ·by_cases hlt:aF l H a<l.length
   ·rw [dif_pos ⟨hlt,he.1⟩] at h;exact Ei hso hr (d - 1) (aF l H a+1) (by omega) hlt (.inr (gu l H ha hlt)) r h
   ·rw [dif_neg (by omega)] at h;cases h
 termination_by d=>d
 decreasing_by all_goals omega
end
def gH (L:List Iy):Nat:=(L.map fun y=>(aa y.2.2.2.2 0).length).sum
theorem kQ (L:List Iy) (a:Nat):(aE (b5 L a)).length≤gH L:=by
 unfold b5 co gH;induction L with
 | nil=>exact Nat.zero_le _
 | cons y t ih=>
  rw [List.filter_cons,List.map_cons,List.sum_cons];split
  ·rw [List.map_cons,aE,List.length_append,c8,hJ];omega
  ·omega
theorem qU {l:List Int} {L:List Iy} {H:List Sn} : ∀(d a:Nat) (acc:List Pz),l.length - a≤d→a≤l.length→(aE (fQ l L H a acc).1).length≤(aE acc).length+(gH L+1)*(l.length - a+1)
 | d,a,acc,hd,ha=>by
  have h0:=kQ L a;by_cases h:a<l.length∧eY l H a=false
  ·obtain ⟨h1,h2⟩:=h;obtain ⟨r,hr'⟩ : ∃r,l[a]? = some r:=⟨_,List.getElem?_eq_getElem h1⟩
   cases hx:cf H a with
   | none=>
    have g:=qU (l:=l) (L:=L) (H:=H) (d - 1) (a+1) (e8 (acc++b5 L a) r a) (by omega) (by omega);rw [fS hr' h2 hx];rw [vd,a5,List.length_append,List.length_append,List.length_singleton] at g;have e:(gH L+1)*(l.length - a+1)=(gH L+1)*(l.length - (a+1)+1)+(gH L+1):=by
     rw [←Nat.mul_succ];congr 1;omega
    omega
   | some x=>
    by_cases h3:a<x.2.toNat
    ·by_cases h4:x.2.toNat≤l.length
     ·have g:=qU (l:=l) (L:=L) (H:=H) (d - 1) x.2.toNat (acc++b5 L a++[.fo a]) (by omega) h4;rw [gY h1 h2 hx (k:=x.2.toNat) (by omega) h3];rw [a5,a5,dU,c8,List.length_append,List.length_append,List.length_singleton] at g;have e:(gH L+1)*(l.length - x.2.toNat+1)+(gH L+1)≤(gH L+1)*(l.length - a+1):=by
       rw [←Nat.mul_succ];exact Nat.mul_le_mul_left _ (by omega)
      omega
     ·rw [gY h1 h2 hx (k:=x.2.toNat) (by omega) h3,fR (by omega),a5,a5,a5,dU,c8,List.length_append,List.length_append,List.length_append,List.length_singleton];have:=kQ L x.2.toNat;have e:(gH L+1)*2≤(gH L+1)*(l.length - a+1):=Nat.mul_le_mul_left _ (by omega);omega
    ·rw [fQ,dif_pos ⟨h1,h2⟩];simp only [hx];rw [dif_neg h3,a5,List.length_append];have e:(gH L+1)*1≤(gH L+1)*(l.length - a+1):=Nat.mul_le_mul_left _ (by omega);omega
  ·rw [fR h,a5,List.length_append];have e:(gH L+1)*1≤(gH L+1)*(l.length - a+1):=Nat.mul_le_mul_left _ (by omega);omega
 termination_by d=>d
 decreasing_by all_goals omega
theorem Kj {l:List Int} {L:List Iy} {H:List Sn} (hso:HD L) (hr:jp l.length 0 H=true) {a:Nat} (ha:a≤l.length) (hb:a=0∨eY l H (a - 1)=true):(aE (b4 l L (aF l H a) a H)).length≤(gH L+1)*(l.length+1):=by
 have g:=qU (l:=l) (L:=L) (H:=H) _ a [] (Nat.le_refl _) ha;rw [pU hso hr ha (wU hb hr)] at g;refine Nat.le_trans g ?_;rw [aE,List.length_nil,Nat.zero_add];exact Nat.mul_le_mul_left _ (by omega)
theorem lc {z w:List (Int × Int)} {tab:Nat} (h1:1≤tab) (h2:tab≤16) : ∀(G:List (Int × Int × Int)) (n:Nat),(bz z w tab n G).length≤16*G.length
 | [],_=>Nat.le_refl _
 | x::t,n=>by
  have:=lc (z:=z) (w:=w) h1 h2 t (n+nl z w tab n x.1);have h3:=tt (z:=z) (w:=w) (a:=n) (r:=x.1) h1 h2;rw [bz,List.length_append,ff,List.length_cons,List.length_replicate,List.length_cons];split<;>omega
end Go.Proofs.YtkkanlcjjpoklaaGreatDoor
