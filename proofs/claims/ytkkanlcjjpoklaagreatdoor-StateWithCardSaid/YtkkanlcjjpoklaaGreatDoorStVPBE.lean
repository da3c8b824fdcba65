/- What the theorem leans on, part 31. -/
import Derived.Test.YtkkanlcjjpoklaaGreatDoorStVPAX
import Derived.Test.YtkkanlcjjpoklaaGreatDoorStVPBA
set_option linter.unusedSimpArgs false
set_option linter.unusedVariables false
namespace Go.Proofs.YtkkanlcjjpoklaaGreatDoor
theorem wR (acc:List Pz) (r:Int) (a:Nat):aI (fH acc r a)=aI acc++[(r,1,(a:Int))]:=by
 have hn:aI (acc++[.tx 1 a [r]])=aI acc++[(r,1,(a:Int))]:=by rw [bc,eg];rfl
 rcases ab8 acc with rfl|⟨pre,z,rfl⟩
 ·rfl
 ·rw [ab2] at hn ⊢;cases z with
  | tx k p rs=>
   rw [jf];split
   ·rename_i hk;obtain ⟨rfl,h2⟩:=hk;rw [bc,eg,bc,eg,dp,dp,aa3 rfl,jr,aba,Int.one_mul,h2]
   ·exact hn
  | fo p=>rw [mQ];exact hn
theorem oF (L:List Iy) (a:Nat) : ∀c∈aI (cj L a),c.2=(2,(a:Int)):=by
 unfold cj;induction b9 L a a with
 | nil=>intro c h;cases h
 | cons y t ih=>
  intro c h;rw [abh,aI] at h;rcases abe.1 h with h|h
  ·rw [dp,aaY (by decide)] at h;obtain ⟨h1,h2⟩:=wW _ _ c h;exact Prod.ext h1 (h2 rfl)
  ·exact ih c h
structure Dr (l:List Int) (H:List Sn) (a e:Nat) (G:List (Int × Int × Int)):Prop where
 rise:G.Pairwise fun x y=>x.2.2≤y.2.2
 ins : ∀c∈G,(a:Int)≤c.2.2∧c.2.2≤e
 kd : ∀c∈G,(c.2.1=1∨c.2.1=2∨c.2.1=3)∧(c.2.1=1 → ∃k:Nat,c.2.2=k∧l[k]? = some c.1)
 vis:(G.filter fun c=>c.2.1==1).map (·.1)=oa l H (e - a) a
 ne:a<e→G≠[]
theorem Dr.pre {l:List Int} {H:List Sn} {a e:Nat} {G I:List (Int × Int × Int)} (g:Dr l H a e G) (hae:a≤e) (h : ∀c∈I,c.2=(2,(a:Int))):Dr l H a e (I++G):=by
 have hI:I.filter (fun c=>c.2.1==1)=[]:=acd.2 fun c hc=>by rw [h c hc];simp
 refine ⟨acK.2 ⟨?_,g.rise,?_⟩,?_,?_,?_,?_⟩
 ·clear hI;induction I with
  | nil=>exact .nil
  | cons x t ih=>exact .cons (fun y hy=>by rw [h x abj,h y (abd _ hy)];exact abN _) (ih fun c hc=>h c (abd _ hc))
 ·intro x hx y hy;rw [h x hx];exact (g.ins y hy).1
 ·intro c hc;rcases abe.1 hc with hc|hc
  ·rw [h c hc];exact ⟨abN _,by show (a:Int)≤e;omega⟩
  ·exact g.ins c hc
 ·intro c hc;rcases abe.1 hc with hc|hc
  ·rw [h c hc];exact ⟨.inr (.inl rfl),fun e=>by cases e⟩
  ·exact g.kd c hc
 ·rw [acg,hI];exact g.vis
 ·intro hae e;rw [List.append_eq_nil_iff] at e;exact g.ne hae e.2
theorem Dr.nil (l:List Int) (H:List Sn) (a:Nat):Dr l H a a []:=
 ⟨.nil,fun c h=>(nomatch h),fun c h=>(nomatch h),(by rw [ac4];rfl),fun h=>absurd h (Nat.lt_irrefl _)⟩
theorem Dr.plain {l:List Int} {H:List Sn} {a e:Nat} {G:List (Int × Int × Int)} {r:Int} (g:Dr l H (a+1) e G) (hae:a+1≤e) (hr:l[a]? = some r) (hx:bb H a=none):Dr l H a e ((r,1,(a:Int))::G):=by
 refine ⟨.cons (fun y hy =>?_) g.rise,fun c hc =>?_,fun c hc =>?_,?_,fun _ h=>by cases h⟩
 ·have:=g.ins y hy;show (a:Int)≤y.2.2;omega
 ·rcases abi.1 hc with rfl|hc
  ·exact ⟨abN _,by show (a:Int)≤e;omega⟩
  ·have:=g.ins c hc;omega
 ·rcases abi.1 hc with rfl|hc
  ·exact ⟨.inl rfl,fun _=>⟨a,rfl,hr⟩⟩
  ·exact g.kd c hc
 ·rw [show e - a=(e - (a+1))+1 by omega,M5 hr hx,←g.vis];rfl
theorem Dr.hid {l:List Int} {H:List Sn} {a k e:Nat} {G:List (Int × Int × Int)} (g:Dr l H k e G) (hak:a<k) (hke:k≤e) (hx : ∀j,a≤j→j<k→bb H j≠none):Dr l H a e ((8230,3,(a:Int))::G):=by
 refine ⟨.cons (fun y hy =>?_) g.rise,fun c hc =>?_,fun c hc =>?_,?_,fun _ h=>by cases h⟩
 ·have:=g.ins y hy;show (a:Int)≤y.2.2;omega
 ·rcases abi.1 hc with rfl|hc
  ·exact ⟨abN _,by show (a:Int)≤e;omega⟩
  ·have:=g.ins c hc;omega
 ·rcases abi.1 hc with rfl|hc
  ·exact ⟨.inr (.inr rfl),fun h=>by cases h⟩
  ·exact g.kd c hc
 ·rw [show e - a=(k - a)+(e - k) by omega,Dm,Do l H (k - a) a (fun j q1 q2=>hx j q1 (by omega)),show a+(k - a)=k by omega,←g.vis];rfl
theorem yA {l:List Int} {L:List Iy} {H:List Sn} (hr:fS l.length 0 H=true) : ∀(d a:Nat) (acc:List Pz),l.length - a≤d→a≤l.length → ∃G,aI (gx l L H a acc).1=aI acc++G∧Dr l H a (aE l H a) G
 | d,a,acc,hd,ha=>by
  by_cases h:a<l.length∧gf l H a=false
  ·obtain ⟨h1,h2⟩:=h;obtain ⟨r,hr'⟩ : ∃r,l[a]? = some r:=⟨_,IO h1⟩
   have e1:aE l H a=aE l H (a+1):=kH h1 h2;cases hx:bb H a with
   | none=>
    have he:=bM l H (i:=a+1) (by omega);obtain ⟨G,g1,g2⟩:=yA hr (d - 1) (a+1) (fH (acc++cj L a) r a) (by omega) (by omega);refine ⟨aI (cj L a)++((r,1,(a:Int))::G),?_,(g2.plain he.1 hr' hx|>fun z=>by rw [e1];exact z.pre (by omega) (oF L a))⟩;rw [gz hr' h2 hx,g1,wR,bc,aba,aba];rfl
   | some x=>
    obtain ⟨q1,q2,q3⟩:=bV hx;have q4:=bE hr x q1;obtain ⟨k,hk⟩ : ∃k:Nat,x.2=k:=⟨x.2.toNat,by omega⟩
    have he:=bM l H (i:=k) (by omega);have e2:aE l H a=aE l H k:=gn _ _ _ _ (by omega) (by omega) fun j q1' q2'=>nR hr q1 (by omega) (by omega)
    obtain ⟨G,g1,g2⟩:=yA hr (d - 1) k (acc++cj L a++[.fo a]) (by omega) (by omega);refine ⟨aI (cj L a)++((8230,3,(a:Int))::G),?_,?_⟩
    ·rw [iP h1 h2 hx hk (by omega),g1,bc,bc,eg,dp,aba,aba];rfl
    ·rw [e2];exact (g2.hid (by omega) he.1 fun j p1 p2 e=>by
      have:=nn hr x q1 j (by omega) (by omega);rw [this] at e;cases e).pre (by omega) (oF L a)
  ·have e:aE l H a=a:=by
    by_cases h1:a<l.length
    ·have:gf l H a=true:=by
      cases hb:gf l H a with
      | true=>rfl
      | false=>exact (h ⟨h1,hb⟩).elim
     exact pf h1 this
    ·have:a=l.length:=by omega
     subst this;exact jG _ _ _ (aaV _)
   refine ⟨aI (cj L a)++[],?_,?_⟩
   ·rw [gy h,bc,abb]
   ·rw [e];exact (Dr.nil l H a).pre (aaV _) (oF L a)
 termination_by d=>d
 decreasing_by all_goals omega
theorem zA {l:List Int} {L:List Iy} {H:List Sn} (hso:JD L) (hr:fS l.length 0 H=true) {a:Nat} (ha:a≤l.length) (hb:a=0∨gf l H (a - 1)=true):Dr l H a (aE l H a) (aI (ci l L (aE l H a) a H)):=by
 obtain ⟨G,g1,g2⟩:=yA (L:=L) hr _ a [] (aaV _) ha;rw [qF hso hr ha (rx hb hr)] at g1;rw [g1];exact g2
structure Qe (l:List Int) (H:List Sn) (a e:Nat) (C:List Cl):Prop where
 rise:C.Pairwise fun x y=>x.2.2.2≤y.2.2.2
 ins : ∀c∈C,(a:Int)≤c.2.2.2∧c.2.2.2≤e
 kd : ∀c∈C,c.2.1≠5∧cw c≤2∧(c.2.1=1 → ∃k:Nat,c.2.2.2=k∧l[k]? = some c.1)
 vis:(C.filter fun c=>c.2.1==1).map (·.1)=oa l H (e - a) a
 ne:a<e→C≠[]
theorem gl {x:Int × Int × Int} {s:Nat} {c:Cl} (h:c∈fO x s):c.2.2.2=x.2.2∧((c.2.1=x.2.1∧c.1=x.1∧cw c=if x.1=9 then 1 else s)∨(c.2.1=4∧cw c=1)):=by
 rcases abi.1 h with rfl|h
 ·exact ⟨rfl,.inl ⟨rfl,rfl,rfl⟩⟩
 ·rw [(adl.1 h).2];exact ⟨rfl,.inr ⟨rfl,rfl⟩⟩
theorem Hu (x:Int × Int × Int) (s:Nat):((fO x s).filter fun c=>c.2.1==1).map (·.1)=if x.2.1=1 then [x.1] else []:=by
 have h2 : ∀n,(List.replicate n ((32,4,1,x.2.2):Cl)).filter (fun c=>c.2.1==1)=[]:=fun n=>acd.2 fun c hc=>by rw [(adl.1 hc).2];simp
 rw [fO,acZ,h2];by_cases h:x.2.1=1
 ·rw [aa3 h,aa3 (by simpa using h)];rfl
 ·rw [aaY h,aaY (by simpa using h)];rfl
section
variable {z w:List (Int × Int)} {tab:Nat}
theorem ji : ∀(G:List (Int × Int × Int)) (n:Nat) (c:Cl),c∈b7 z w tab n G → ∃x∈G,∃m,c∈fO x (og z w tab m x.1)
 | [],_,c,h=>by cases h
 | x::t,n,c,h=>by
  rw [b7] at h;rcases abe.1 h with h|h
  ·exact ⟨x,abj,n,h⟩
  ·obtain ⟨y,hy,m,hm⟩:=ji t _ c h;exact ⟨y,abd _ hy,m,hm⟩
theorem pL : ∀(G:List (Int × Int × Int)) (n:Nat),(G.Pairwise fun x y=>x.2.2≤y.2.2)→(b7 z w tab n G).Pairwise fun x y=>x.2.2.2≤y.2.2.2
 | [],_,_=> .nil
 | x::t,n,h=>by
  obtain ⟨h1,h2⟩:=abR.1 h;rw [b7];refine acK.2 ⟨?_,pL t _ h2,?_⟩
  ·refine List.pairwise_of_forall_mem_list fun a ha b hb =>?_
   rw [(gl ha).1,(gl hb).1];exact abN _
  ·intro a ha b hb;obtain ⟨y,hy,m,hm⟩:=ji t _ b hb;rw [(gl ha).1,(gl hm).1];exact h1 y hy
theorem rL : ∀(G:List (Int × Int × Int)) (n:Nat),((b7 z w tab n G).filter fun c=>c.2.1==1).map (·.1)=(G.filter fun c=>c.2.1==1).map (·.1)
 | [],_=>rfl
 | x::t,n=>by
  rw [b7,acg,abc,Hu,rL t,acZ];by_cases h:x.2.1=1
  ·rw [aa3 h,aa3 (by simpa using h)];rfl
  ·rw [aaY h,aaY (by simpa using h)];rfl
theorem Dr.cells {l:List Int} {H:List Sn} {a e:Nat} {G:List (Int × Int × Int)} (g:Dr l H a e G) (n:Nat):Qe l H a e (b7 z w tab n G):=by
 refine ⟨pL G n g.rise,fun c hc =>?_,fun c hc =>?_,by rw [rL];exact g.vis,fun h h2 =>?_⟩
 ·obtain ⟨x,hx,m,hm⟩:=ji G n c hc;rw [(gl hm).1];exact g.ins x hx
 ·obtain ⟨x,hx,m,hm⟩:=ji G n c hc;obtain ⟨h1,h2⟩:=gl hm;obtain ⟨k1,k2⟩:=g.kd x hx;rcases h2 with ⟨q1,q2,q3⟩|⟨q1,q2⟩
  ·refine ⟨by rw [q1];omega,?_,fun e =>?_⟩
   ·rw [q3];split
    ·omega
    ·rename_i h9;rw [og,aaY h9];exact Fs z w _
   ·rw [h1,q2];exact k2 (q1▸e)
  ·exact ⟨by rw [q1];decide,by omega,fun e=>by rw [q1] at e;cases e⟩
 ·have:=g.ne h;cases G with
  | nil=>exact this rfl
  | cons x t=>rw [b7,fO] at h2;cases h2
end
abbrev Rw:=List Cl × Int × Int × Nat × Bool × Bool × Nat
def rF (l:List Int) (a:Int):Nat:=aW (l.take a.toNat)
def B4 (fr to:Int):List (List Cl)→Int
 | []=>to
 | r::_=>dk fr r
def dg (l:List Int) (fr to:Int):Bool→List (List Cl)→List Rw
 | _,[]=>[]
 | b,r::t=>(r,dk fr r,B4 fr to t,rF l (dk fr r),b,wX r,dH r)::dg l fr to true t
def Lt (z w:List (Int × Int)) (tab:Nat) (wd:Int) (l:List Int) (ps:List Pz) (fr to:Int):List Rw:=dg l fr to false (cf (b7 z w tab 0 (aI ps)) wd)
theorem jw (l:List Int) (fr to:Int) : ∀(b:Bool) (r:List (List Cl)),(dg l fr to b r).length=r.length
 | _,[]=>rfl
 | _,r::t=>by rw [dg,aa6,aa6,jw l fr to true t]
theorem mD {fr:Int} {c:Cl} {r:List Cl} (h:c.2.1≠5):dk fr (c::r)=c.2.2.2:=by
 rw [dk,List.find?_cons_of_pos (by simpa using h)]
theorem I6 {fr:Int} {c:Cl} {r:List Cl} (n:Nat) (h:c.2.1≠5):dk fr (eQ n (c::r))=c.2.2.2:=by
 rw [eQ];induction n with
 | zero=>exact mD h
 | succ n ih=>rw [acW,abG,dk,List.find?_cons_of_neg (by simp)];exact ih
theorem Rc (n:Nat) {r:List Cl} (h:r≠[]):eQ n r≠[]:=by
 cases r with
 | nil=>exact (h rfl).elim
 | cons c t=>rw [eQ];simp
theorem wz (l:List Int) {a b:Int} (h:a≤b):rF l a≤rF l b:=by
 unfold rF aW;have e:l.take b.toNat=l.take a.toNat++(l.take b.toNat).drop a.toNat:=by
  have:=(abf a.toNat (l.take b.toNat)).symm;rwa [aed,acw (by omega)] at this
 rw [e,acg,Or];omega
def NV (l:List Int) (e:Int):Int→List Rw→Prop
 | s,[]=>s=e
 | s,r::t=>r.2.1=s∧r.2.1≤r.2.2.1∧r.2.2.1≤e∧r.2.2.2.1=rF l r.2.1∧r.2.2.2.2.1=true∧r.1≠[]∧NV l e r.2.2.1 t
theorem AV (l:List Int) {fr e:Int} (h:Nat) : ∀(ps:List (List Cl)) (lo:Int),(∀p∈ps,p≠[])→(ps.flatten.Pairwise fun x y=>x.2.2.2≤y.2.2.2)→(∀c∈ps.flatten,lo≤c.2.2.2∧c.2.2.2≤e∧c.2.1≠5) →
 lo≤e→NV l e (B4 fr e (ps.map (eQ h))) (dg l fr e true (ps.map (eQ h)))∧lo≤B4 fr e (ps.map (eQ h))∧B4 fr e (ps.map (eQ h))≤e
 | [],lo,_,_,_,hle=>⟨rfl,hle,abN _⟩
 | p::t,lo,hne,hp,hin,hle=>by
  obtain ⟨c,r,rfl⟩:=List.exists_cons_of_ne_nil (hne p abj);rw [acf] at hp hin;obtain ⟨p1,p2,p3⟩:=acK.1 hp;have hc:=hin c (by simp);obtain ⟨g1,g2,g3⟩:=AV l h t c.2.2.2 (fun q hq=>hne q (abd _ hq)) p2 (fun x hx=>⟨p3 c abj x hx,(hin x (abe.2 (.inr hx))).2⟩) hc.2.1;rw [abh,dg,B4,I6 h hc.2.2];exact ⟨⟨rfl,g2,g3,rfl,rfl,Rc h (List.cons_ne_nil _ _),g1⟩,hc.1,hc.2.1⟩
theorem Ij {l:List Int} {H:List Sn} {a e:Nat} {C:List Cl} (g:Qe l H a e C) (hae:a≤e) (wd:Int) :
 ∃r t,dg l a e false (cf C wd)=r::t∧(a:Int)≤r.2.1∧r.2.1≤r.2.2.1∧r.2.2.1≤e∧r.2.2.2.1=rF l r.2.1∧r.2.2.2.2.1=false∧NV l e r.2.2.1 t∧(r.1=[]→r.2.1=r.2.2.1):=by
 have hcut:=xN C wd;obtain ⟨p,q,hpq⟩ : ∃p q,dB C (bz C wd)=p::q:=by
  unfold bz;split
  ·exact ⟨_,_,rfl⟩
  ·rw [qm,dB];exact ⟨_,_,rfl⟩
 have hq : ∀x∈q,x≠[]:=by
  unfold bz at hpq;split at hpq
  ·simp only [dB,ab7] at hpq;rw [←hpq.2];intro x hx;cases hx
  ·rw [qm,dB,ab7] at hpq;rw [←hpq.2];exact Ph _ _
 have hp0:p=[]→C=[]:=by
  intro hp;by_cases hC:C=[]
  ·exact hC
  ·exfalso;unfold bz at hpq;split at hpq
   ·simp only [dB,ab7,abC] at hpq;exact hC (hpq.1.trans hp)
   ·rw [qm,dB,ab7] at hpq;have:=(mH wd hC).1;have h2:=aby.2 hC;have h3:=congrArg List.length (hpq.1.trans hp);rw [aa7,abt] at h3;omega
 rw [hpq,acf] at hcut;have hr:cf C wd=p::q.map (eQ (dS C wd)):=by rw [cf,hpq]
 rw [hr,dg];have hrise:=g.rise;rw [←hcut] at hrise;obtain ⟨p1,p2,p3⟩:=acK.1 hrise;have hin : ∀c∈p++q.flatten,(a:Int)≤c.2.2.2∧c.2.2.2≤e∧c.2.1≠5:=fun c hc=>by
  rw [hcut] at hc;exact ⟨(g.ins c hc).1,(g.ins c hc).2,(g.kd c hc).1⟩
 refine ⟨_,_,rfl,?_⟩;rcases p with _|⟨c,r⟩
 ·have hC:=hp0 rfl;rw [hC] at hcut;have hq0:q=[]:=by
   cases q with
   | nil=>rfl
   | cons x t=>
    exfalso;have:=hq x abj;have h2:x=[]:=by simp at hcut;exact hcut.1
    exact this h2
  subst hq0;have hea:e=a:=by
   by_cases h:a<e
   ·exact (g.ne h hC).elim
   ·omega
  subst hea;exact ⟨abN _,abN _,abN _,rfl,rfl,rfl,fun _=>rfl⟩
 ·have hc:=hin c (by simp);obtain ⟨g1,g2,g3⟩:=AV l (fr:=a) (e:=e) (dS C wd) q c.2.2.2 hq p2 (fun x hx=>⟨p3 c abj x hx,(hin x (abe.2 (.inr hx))).2⟩) hc.2.1;rw [mD hc.2.2];exact ⟨hc.1,g2,g3,rfl,rfl,g1,fun h=>nomatch h⟩
def Xc (l:List Int) (r:Rw):Prop:=0≤r.2.1∧r.2.1≤r.2.2.1∧r.2.2.1≤l.length∧r.2.2.2.1=rF l r.2.1∧(r.1=[]→r.2.2.2.2.1=false∧r.2.1=r.2.2.1)
def rwP (l:List Int) (r n:Rw):Prop:=r.2.1≤n.2.1∧r.2.2.2.1≤n.2.2.2.1∧(n.2.2.2.2.1=true→n.2.1=r.2.2.1)∧(n.2.2.2.2.1=false → ∃k:Nat,r.2.2.1=k∧l[k]? = some 10)
def LR (l:List Int):List Rw→Prop
 | []=>False
 | [r]=>Xc l r∧r.2.2.1=l.length
 | r::n::t=>Xc l r∧rwP l r n∧LR l (n::t)
theorem Km {l:List Int} {e:Nat} (he:e≤l.length) {S:List Rw} (hS:(S=[]∧e=l.length)∨(∃n T,S=n::T∧LR l S∧n.2.2.2.2.1=false∧(e:Int)≤n.2.1∧n.2.2.2.1=rF l n.2.1∧l[e]? = some 10)) :
 ∀(t:List Rw) (r:Rw),Xc l r→NV l e r.2.2.1 t→LR l (r::t++S)
 | [],r,hq,hc=>by
  have hc:r.2.2.1=e:=hc;rcases hS with ⟨rfl,h⟩|⟨n,T,rfl,h1,h2,h3,h4,h5⟩
  ·exact ⟨hq,by rw [hc,h]⟩
  ·obtain ⟨q1,q2,q3,q4,q5⟩:=hq;exact ⟨⟨q1,q2,q3,q4,q5⟩,⟨by omega,by rw [q4,h4];exact wz l (by omega),fun h=>(by rw [h2] at h;exact nomatch h),fun _=>⟨e,hc,h5⟩⟩,h1⟩
 | x::t,r,hq,hc=>by
  obtain ⟨c1,c2,c3,c4,c5,c6,c7⟩:=hc;obtain ⟨q1,q2,q3,q4,q5⟩:=hq;exact ⟨⟨q1,q2,q3,q4,q5⟩,⟨by omega,by rw [q4,c4];exact wz l (by omega),fun _=>c1,fun h=>(by rw [c5] at h;exact nomatch h)⟩,
   Km he hS t x ⟨by omega,c2,by omega,c4,fun h=>(c6 h).elim⟩ c7⟩
def yY (z w:List (Int × Int)) (tab:Nat) (wd:Int) (l:List Int) (L:List Iy) (H:List Sn):List (Nat × Nat)→List Rw
 | []=>[]
 | x::r=>Lt z w tab wd l (ci l L x.2 x.1 H) x.1 x.2++yY z w tab wd l L H r
section
variable {z w:List (Int × Int)} {tab:Nat} {wd:Int} {l:List Int} {L:List Iy} {H:List Sn}
theorem Lu (hso:JD L) (hr:fS l.length 0 H=true) : ∀(d a:Nat),l.length - a≤d→a≤l.length→(a=0∨gf l H (a - 1)=true) →
 LR l (yY z w tab wd l L H (aQ l H a)) ∧ ∃n T,yY z w tab wd l L H (aQ l H a)=n::T∧n.2.2.2.2.1=false∧(a:Int)≤n.2.1∧n.2.2.2.1=rF l n.2.1
 | d,a,hd,ha,hb=>by
  have he:=bM l H ha;obtain ⟨r,t,hrt,h1,h2,h3,h4,h5,h6,h7⟩:=Ij ((zA (L:=L) hso hr ha hb).cells (z:=z) (w:=w) (tab:=tab) 0) he.1 wd;have hq:Xc l r:=⟨by omega,h2,by omega,h4,fun e=>⟨h5,h7 e⟩⟩
  rw [aQ,yY,Lt,hrt];refine ⟨Km he.2 ?_ t r hq h6,r,t++_,rfl,h5,h1,h4⟩;by_cases hlt:aE l H a<l.length
  ·have hsh:=eC l H ha hlt;obtain ⟨h10,hno⟩:=fp.1 hsh;rw [acB ⟨hlt,he.1⟩];obtain ⟨g1,n,T,g2,g3,g4,g5⟩:=Lu hso hr (d - 1) (aE l H a+1) (by omega) hlt (.inr hsh);exact .inr ⟨n,T,g2,g1,g3,by omega,g5,h10⟩
  ·rw [acX (by omega)];exact .inl ⟨rfl,by omega⟩
 termination_by d=>d
 decreasing_by all_goals omega
theorem Mh {C:List Cl} {r:List Cl} (h:r∈cf C wd) : ∀c∈r,c∈C∨c.2.1=5:=by
 have hcut:=xN C wd;rw [cf] at h;rcases hpq:dB C (bz C wd) with _|⟨p,q⟩
 ·rw [hpq] at h;cases h
 ·rw [hpq] at h hcut;rw [acf] at hcut;rcases abi.1 h with rfl|h
  ·exact fun c hc=> .inl (by rw [←hcut];exact abe.2 (.inl hc))
  ·obtain ⟨x,hx,rfl⟩:=abY.1 h;intro c hc;cases x with
   | nil=>cases hc
   | cons y t=>
    rw [eQ] at hc;rcases abe.1 hc with hc|hc
    ·rw [(adl.1 hc).2];exact .inr rfl
    ·exact .inl (by rw [←hcut];exact abe.2 (.inr (List.mem_flatten.2 ⟨_,hx,hc⟩)))
theorem ml {fr to:Int} : ∀ {b:Bool} {q:List (List Cl)} {r:Rw},r∈dg l fr to b q→r.1∈q∧r.2.2.2.2.2.2=dH r.1
 | _,[],_,h=>by cases h
 | _,x::t,r,h=>by
  rw [dg] at h;rcases abi.1 h with rfl|h
  ·exact ⟨abj,rfl⟩
  ·obtain ⟨h1,h2⟩:=ml h;exact ⟨abd _ h1,h2⟩
theorem Gh (hso:JD L) (hr:fS l.length 0 H=true) : ∀(d a:Nat),l.length - a≤d→a≤l.length→(a=0∨gf l H (a - 1)=true) → ∀r∈yY z w tab wd l L H (aQ l H a),
 r.2.2.2.2.2.2=dH r.1∧(2≤wd→(dH r.1:Int)≤wd) ∧ ∀c∈r.1,c.2.1=1 → ∃k:Nat,c.2.2.2=k∧l[k]? = some c.1
 | d,a,hd,ha,hb,r,h=>by
  have he:=bM l H ha;have hC:=(zA (L:=L) hso hr ha hb).cells (z:=z) (w:=w) (tab:=tab) 0;rw [aQ,yY] at h;rcases abe.1 h with h|h
  ·obtain ⟨h1,h2⟩:=ml h;refine ⟨h2,fun hw=>Mi hw (fun c hc=>(hC.kd c hc).2.1) _ h1,fun c hc hk =>?_⟩;rcases Mh h1 c hc with q|q
   ·exact (hC.kd c q).2.2 hk
   ·rw [q] at hk;cases hk
  ·by_cases hlt:aE l H a<l.length
   ·rw [acB ⟨hlt,he.1⟩] at h;exact Gh hso hr (d - 1) (aE l H a+1) (by omega) hlt (.inr (eC l H ha hlt)) r h
   ·rw [acX (by omega)] at h;cases h
 termination_by d=>d
 decreasing_by all_goals omega
end
def iw (L:List Iy):Nat:=(L.map fun y=>(aa y.2.2.2.2 0).length).sum
theorem lQ (L:List Iy) (a:Nat):(aI (cj L a)).length≤iw L:=by
 unfold cj b9 iw;induction L with
 | nil=>exact aa1 _
 | cons y t ih=>
  rw [acZ,abh,acu];split
  ·rw [abh,aI,Or,dp,iW];omega
  ·omega
theorem rW {l:List Int} {L:List Iy} {H:List Sn} : ∀(d a:Nat) (acc:List Pz),l.length - a≤d→a≤l.length→(aI (gx l L H a acc).1).length≤(aI acc).length+(iw L+1)*(l.length - a+1)
 | d,a,acc,hd,ha=>by
  have h0:=lQ L a;by_cases h:a<l.length∧gf l H a=false
  ·obtain ⟨h1,h2⟩:=h;obtain ⟨r,hr'⟩ : ∃r,l[a]? = some r:=⟨_,IO h1⟩
   cases hx:bb H a with
   | none=>
    have g:=rW (l:=l) (L:=L) (H:=H) (d - 1) (a+1) (fH (acc++cj L a) r a) (by omega) (by omega);rw [gz hr' h2 hx];rw [wR,bc,Or,Or,abk] at g;have e:(iw L+1)*(l.length - a+1)=(iw L+1)*(l.length - (a+1)+1)+(iw L+1):=by
     rw [←acR];congr 1;omega
    omega
   | some x=>
    by_cases h3:a<x.2.toNat
    ·by_cases h4:x.2.toNat≤l.length
     ·have g:=rW (l:=l) (L:=L) (H:=H) (d - 1) x.2.toNat (acc++cj L a++[.fo a]) (by omega) h4;rw [iP h1 h2 hx (k:=x.2.toNat) (by omega) h3];rw [bc,bc,eg,dp,Or,Or,abk] at g;have e:(iw L+1)*(l.length - x.2.toNat+1)+(iw L+1)≤(iw L+1)*(l.length - a+1):=by
       rw [←acR];exact abX _ (by omega)
      omega
     ·rw [iP h1 h2 hx (k:=x.2.toNat) (by omega) h3,gy (by omega),bc,bc,bc,eg,dp,Or,Or,Or,abk];have:=lQ L x.2.toNat;have e:(iw L+1)*2≤(iw L+1)*(l.length - a+1):=abX _ (by omega);omega
    ·rw [gx,acB ⟨h1,h2⟩];simp only [hx];rw [acX h3,bc,Or];have e:(iw L+1)*1≤(iw L+1)*(l.length - a+1):=abX _ (by omega);omega
  ·rw [gy h,bc,Or];have e:(iw L+1)*1≤(iw L+1)*(l.length - a+1):=abX _ (by omega);omega
 termination_by d=>d
 decreasing_by all_goals omega
theorem Mj {l:List Int} {L:List Iy} {H:List Sn} (hso:JD L) (hr:fS l.length 0 H=true) {a:Nat} (ha:a≤l.length) (hb:a=0∨gf l H (a - 1)=true):(aI (ci l L (aE l H a) a H)).length≤(iw L+1)*(l.length+1):=by
 have g:=rW (l:=l) (L:=L) (H:=H) _ a [] (aaV _) ha;rw [qF hso hr ha (rx hb hr)] at g;refine ab5 g ?_;rw [aI,abt,acC];exact abX _ (by omega)
theorem lZ {z w:List (Int × Int)} {tab:Nat} (h1:1≤tab) (h2:tab≤16) : ∀(G:List (Int × Int × Int)) (n:Nat),(b7 z w tab n G).length≤16*G.length
 | [],_=>aaV _
 | x::t,n=>by
  have:=lZ (z:=z) (w:=w) h1 h2 t (n+og z w tab n x.1);have h3:=uy (z:=z) (w:=w) (a:=n) (r:=x.1) h1 h2;rw [b7,Or,fO,aa6,abS,aa6];split<;>omega
end Go.Proofs.YtkkanlcjjpoklaaGreatDoor
