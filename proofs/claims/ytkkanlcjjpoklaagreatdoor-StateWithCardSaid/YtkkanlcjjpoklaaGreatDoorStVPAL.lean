/- What the theorem leans on, part 12. -/
import Derived.Test.YtkkanlcjjpoklaaGreatDoorStVPAA
set_option linter.unusedSimpArgs false
namespace Go.Proofs.YtkkanlcjjpoklaaGreatDoor
structure It where
 tag:Int
 id:Int
 d0:Int
 d1:Int
 d2:Int
 mx:Int
 text:ByteArray
structure Sm where
 n:Int
 d0:Int
 d1:Int
 d2:Int
 mx:Int
 pos:Int
def Sm.zero:Sm:=⟨0,0,0,0,0,0⟩
def jW (i:It):Sm:=⟨1,i.d0,i.d1,i.d2,i.mx,0⟩
def bd (a b:Sm):Sm:=⟨a.n+b.n,a.d0+b.d0,a.d1+b.d1,a.d2+b.d2,if 0<b.n∧(a.n=0∨a.mx<b.mx) then b.mx else a.mx,if 0<b.n∧(a.n=0∨a.mx<b.mx) then a.n+b.pos else a.pos⟩
def aq (l:List It):Sm:=l.foldl (fun s i=>bd s (jW i)) Sm.zero
theorem Sm.ext' {a b:Sm} (h1:a.n=b.n) (h2:a.d0=b.d0) (h3:a.d1=b.d1) (h4:a.d2=b.d2) (h5:a.mx=b.mx) (h6:a.pos=b.pos):a=b:=by
 cases a;cases b;simp_all
theorem gp (l:List It) (i:It):aq (l++[i])=bd (aq l) (jW i):=by simp [aq]
theorem d8 (a:Sm):bd a Sm.zero=a:=by
 apply Sm.ext'<;>simp [bd,Sm.zero]
theorem rk {a b c:Sm} (ha:0≤a.n) (hb:0≤b.n) (hc:0≤c.n):bd (bd a b) c=bd a (bd b c):=by
 apply Sm.ext'
 ·simp [bd];omega
 ·simp [bd];omega
 ·simp [bd];omega
 ·simp [bd];omega
 ·simp only [bd];repeat' split
  all_goals first|rfl|(exfalso;omega)
 ·simp only [bd];repeat' split
  all_goals first|rfl|(exfalso;omega)|omega
theorem cC (l:List It):(aq l).n=l.length:=by
 have key : ∀(l:List It) (s:Sm),(l.foldl (fun s i=>bd s (jW i)) s).n=s.n+l.length:=by
  intro l;induction l with
  | nil=>intro s;simp
  | cons x l ih=>intro s;rw [acE,ih];simp [bd,jW];omega
 have:=key l Sm.zero;simpa [aq,Sm.zero] using this
theorem An (R:List It) : ∀A B:List It,B=R.reverse→aq (A++B)=bd (aq A) (aq B):=by
 induction R with
 | nil=>intro A B h;simp at h;subst h;rw [abb];exact (d8 _).symm
 | cons x R ih=>
  intro A B h;rw [acq] at h;subst h;rw [←aba,gp,gp,ih A _ rfl,rk]
  ·rw [cC];omega
  ·rw [cC];omega
  ·simp [jW]
theorem kM (A B:List It):aq (A++B)=bd (aq A) (aq B):=An B.reverse A B (by simp)
def cd (i:It):Prop:=0≤i.d0∧i.d0≤1099511627776∧0≤i.d1∧i.d1≤1099511627776∧0≤i.d2∧i.d2≤1099511627776∧0≤i.mx∧i.mx≤1099511627776
def eU (s:Sm):Prop:=0≤s.n∧s.n≤1000000∧0≤s.d0∧s.d0≤1099511627776*s.n∧0≤s.d1∧s.d1≤1099511627776*s.n∧0≤s.d2∧s.d2≤1099511627776*s.n∧0≤s.mx∧s.mx≤1099511627776∧0≤s.pos∧s.pos≤s.n
theorem yd {a b:Sm} (ha:eU a) (hb:eU b) (h:a.n+b.n≤1000000):eU (bd a b):=by
 unfold eU at *
 simp only [bd];split<;>omega
theorem sY {i:It} (h:cd i):eU (jW i):=by
 unfold cd at h;unfold eU jW;simp only;omega
theorem GT:eU Sm.zero:=by unfold eU Sm.zero;simp
theorem gg (l:List It) (h : ∀i∈l,cd i) (hl:l.length≤1000000):eU (aq l):=by
 have key : ∀(R:List It) (B:List It),B=R.reverse→(∀i∈B,cd i)→B.length≤1000000→eU (aq B):=by
  intro R;induction R with
  | nil=>intro B e _ _;simp at e;subst e;exact GT
  | cons x R ih=>
   intro B e h hl;rw [acq] at e;subst e;rw [gp];have:=ih _ rfl (fun i hi=>h i (by simp at hi ⊢;exact .inl hi)) (by simp at hl ⊢;omega);refine yd this (sY (h x (by simp))) ?_;rw [cC];simp [jW] at hl ⊢;omega
 exact key l.reverse l (by simp) h hl
inductive T where
 | leaf (l:List It)
 | inner (h:Nat) (ks:List T)
mutual
def T.items:T→List It
 | .leaf l=>l
 | .inner _ ks=>T.itemsL ks
def T.itemsL:List T→List It
 | []=>[]
 | k::r=>k.items++T.itemsL r
end
def T.ht:T→Nat
 | .leaf _=>1
 | .inner h _=>h
theorem T.itemsL_app (a b:List T):T.itemsL (a++b)=T.itemsL a++T.itemsL b:=by
 induction a with
 | nil=>rfl
 | cons x a ih=>simp only [abG,T.itemsL,ih,aba]
mutual
def T.wf:T→Prop
 | .leaf l=>0<l.length∧l.length≤8
 | .inner h ks=>0<ks.length∧ks.length≤8∧2≤h∧T.wfL (h - 1) ks
def T.wfL (h:Nat):List T→Prop
 | []=>True
 | k::r=>k.ht=h∧k.wf∧T.wfL h r
end
theorem T.wfL_app (h:Nat) (a b:List T):T.wfL h (a++b)↔T.wfL h a∧T.wfL h b:=by
 induction a with
 | nil=>simp [T.wfL]
 | cons x a ih=>simp only [abG,T.wfL,ih,and_assoc]
theorem T.wfL_mem {h:Nat} {l:List T} (hw:T.wfL h l) : ∀k∈l,k.ht=h∧k.wf:=by
 induction l with
 | nil=>intro k hk;cases hk
 | cons x l ih=>
  intro k hk;simp only [T.wfL] at hw;rcases abi.1 hk with rfl|hk
  ·exact ⟨hw.1,hw.2.1⟩
  ·exact ih hw.2.2 k hk
theorem T.wf_ht {t:T} (h:t.wf):1≤t.ht:=by
 cases t with
 | leaf l=>simp [T.ht]
 | inner h ks=>simp only [T.wf] at h;simp only [T.ht];omega
def jI (l:List It):List T:=if l.length≤8 then [.leaf l] else [.leaf (l.take (l.length / 2)),.leaf (l.drop (l.length / 2))]
def gE (ks:List T):T:= .inner ((match ks with|[]=>0|k::_=>k.ht)+1) ks
def gJ (ks:List T):List T:=if ks.length≤8 then [gE ks] else [gE (ks.take (ks.length / 2)),gE (ks.drop (ks.length / 2))]
def dq:Nat→T→T→List T
 | 0,_,_=>[]
 | n+1,a,b=>
  if b.ht<a.ht then (match a with
   | .inner _ ks=>gJ (ks.dropLast++(match ks.getLast? with
    | some k=>dq n k b
    | none=>[]))
   | .leaf _=>[])
  else if a.ht<b.ht then (match b with
   | .inner _ (k::ks)=>gJ (dq n a k++ks)
   | _=>[])
  else match a,b with
   | .leaf x,.leaf y=>jI (x++y)
   | .inner _ x,.inner _ y=>gJ (x++y)
   | _,_=>[]
def gF:Option T→Option T→Option T
 | none,b=>b
 | some a,none=>some a
 | some a,some b=>match dq (a.ht+b.ht) a b with
  | [t]=>some t
  | l=>some (gE l)
structure QW (h:Nat) (l:List It) (r:List T):Prop where
 items:T.itemsL r=l
 wf:T.wfL h r
 pos:0<r.length
 two:r.length≤2
theorem E9 {l:List It} (h0:0<l.length) (h:l.length≤16):QW 1 l (jI l):=by
 unfold jI;split
 ·exact ⟨by simp [T.itemsL,T.items],by simp [T.wfL,T.ht,T.wf];omega,by simp,by simp⟩
 ·exact ⟨by simp [T.itemsL,T.items],by simp [T.wfL,T.ht,T.wf];omega,by simp,by simp⟩
theorem lg {h:Nat} {ks:List T} (h0:0<ks.length) (h1:ks.length≤8) (h2:1≤h) (hw:T.wfL h ks):(gE ks).ht=h+1∧(gE ks).wf∧(gE ks).items=T.itemsL ks:=by
 match ks,h0,hw with
 | k::r,h0,hw=>
  have hk:=hw;simp only [T.wfL] at hk;unfold gE;refine ⟨by show k.ht+1=h+1;rw [hk.1],?_,by simp only [T.items]⟩;simp only [T.wf];rw [hk.1];exact ⟨h0,h1,by omega,by simpa using hw⟩
theorem T.wfL_take {h:Nat} {ks:List T} (n:Nat) (hw:T.wfL h ks):T.wfL h (ks.take n)∧T.wfL h (ks.drop n):=by
 rw [←T.wfL_app,abf];exact hw
theorem o6 {h:Nat} {ks:List T} (h0:0<ks.length) (h1:ks.length≤16) (h2:1≤h) (hw:T.wfL h ks):QW (h+1) (T.itemsL ks) (gJ ks):=by
 unfold gJ;split
 ·obtain ⟨a,b,c⟩:=lg h0 (by omega) h2 hw;exact ⟨by simp [T.itemsL,c],by simp [T.wfL,a,b],by simp,by simp⟩
 ·obtain ⟨w1,w2⟩:=T.wfL_take (ks.length / 2) hw;obtain ⟨a,b,c⟩:=lg (ks:=ks.take (ks.length / 2)) (by simp;omega) (by simp;omega) h2 w1;obtain ⟨a',b',c'⟩:=lg (ks:=ks.drop (ks.length / 2)) (by simp;omega) (by simp;omega) h2 w2;refine ⟨?_,by simp [T.wfL,a,b,a',b'],by simp,by simp⟩;simp only [T.itemsL,c,c',abb];rw [←T.itemsL_app,abf]
theorem T.leaf_ht {t:T} (hw:t.wf) (h:t.ht=1) : ∃l,t = .leaf l:=by
 cases t with
 | leaf l=>exact ⟨l,rfl⟩
 | inner h' ks=>simp only [T.wf] at hw;simp only [T.ht] at h;omega
theorem T.inner_ht {t:T} (h:2≤t.ht) : ∃h' ks,t = .inner h' ks:=by
 cases t with
 | leaf l=>simp [T.ht] at h
 | inner h' ks=>exact ⟨h',ks,rfl⟩
theorem T.ht_inner (h:Nat) (ks:List T):(T.inner h ks).ht=h:=rfl
theorem T.ht_leaf (l:List It):(T.leaf l).ht=1:=rfl
theorem ny : ∀(n:Nat) (a b:T),a.wf→b.wf→a.ht+b.ht≤n→QW (max a.ht b.ht) (a.items++b.items) (dq n a b):=by
 intro n;induction n with
 | zero=>intro a b ha hb h;have:=T.wf_ht ha;omega
 | succ n ih=>
  intro a b ha hb hn;have h1:=T.wf_ht ha;have h2:=T.wf_ht hb;unfold dq;split
  ·rename_i hlt;obtain ⟨h,ks,rfl⟩:=T.inner_ht (t:=a) (by omega);simp only [T.wf] at ha;obtain ⟨k0,k1,k2,kw⟩:=ha;simp only [T.ht_inner] at hlt hn ⊢;rcases ab8 ks with rfl|⟨o,k,rfl⟩
   ·simp at k0
   ·simp only [ab2] at *
    rw [T.wfL_app] at kw;obtain ⟨w1,w2⟩:=kw;simp only [T.wfL] at w2;have m:=ih k b w2.2.1 hb (by omega);simp only [adC,acU];have hm:max k.ht b.ht=h - 1:=by omega
    rw [hm] at m;have:=o6 (h:=h - 1) (ks:=o++dq n k b) (by have:=m.pos;simp;omega) (by have:=m.two;simp at k1 ⊢;omega) (by omega) ((T.wfL_app _ _ _).2 ⟨w1,m.wf⟩);rw [T.itemsL_app,m.items] at this;rw [show max h b.ht=h - 1+1 by omega];simp only [T.items,T.itemsL_app,T.itemsL,abb,aba] at this ⊢;exact this
  ·split
   ·rename_i hge hlt;obtain ⟨h,ks,rfl⟩:=T.inner_ht (t:=b) (by omega);simp only [T.wf] at hb;obtain ⟨k0,k1,k2,kw⟩:=hb;simp only [T.ht_inner] at hlt hn hge ⊢;match ks,k0,k1,kw with
    | k::r,k0,k1,kw=>
     simp only [T.wfL] at kw;obtain ⟨w0,w1,w2⟩:=kw;have m:=ih a k ha w1 (by omega);have hm:max a.ht k.ht=h - 1:=by omega
     rw [hm] at m;simp only;have:=o6 (h:=h - 1) (ks:=dq n a k++r) (by have:=m.pos;simp;omega) (by have:=m.two;simp at k1 ⊢;omega) (by omega) ((T.wfL_app _ _ _).2 ⟨m.wf,w2⟩);rw [T.itemsL_app,m.items] at this;rw [show max a.ht h=h - 1+1 by omega];simp only [T.items,T.itemsL,aba] at this ⊢;exact this
   ·rename_i hge1 hge2;have he:a.ht=b.ht:=by omega
    rcases aa2 a.ht 2 with hl|hl
    ·obtain ⟨x,rfl⟩:=T.leaf_ht ha (by omega);obtain ⟨y,rfl⟩:=T.leaf_ht hb (by omega);simp only [T.wf] at ha hb;have:=E9 (l:=x++y) (by simp;omega) (by simp;omega);simpa only [T.items,T.ht_leaf,Nat.max_self] using this
    ·obtain ⟨h,ks,rfl⟩:=T.inner_ht (t:=a) hl;obtain ⟨h',ks',rfl⟩:=T.inner_ht (t:=b) (by omega);simp only [T.ht_inner] at he;subst he;simp only [T.wf] at ha hb;have:=o6 (h:=h - 1) (ks:=ks++ks') (by simp;omega) (by simp;omega) (by omega) ((T.wfL_app _ _ _).2 ⟨ha.2.2.2,hb.2.2.2⟩);simp only [T.ht_inner,T.items];rw [T.itemsL_app] at this;rw [show max h h=h - 1+1 by omega];exact this
def an:Option T→List It
 | none=>[]
 | some t=>t.items
def Dy:Option T→Prop
 | none=>True
 | some t=>t.wf
def Dv:Option T→Nat
 | none=>0
 | some t=>t.ht
theorem BH {a b:Option T} (ha:Dy a) (hb:Dy b):Dy (gF a b)∧an (gF a b)=an a++an b∧Dv (gF a b)≤max (Dv a) (Dv b)+1:=by
 match a,b,ha,hb with
 | none,b,_,hb=>exact ⟨hb,by simp [gF,an],by simp only [gF];omega⟩
 | some a,none,ha,_=>exact ⟨ha,by simp [gF,an],by simp only [gF];omega⟩
 | some a,some b,ha,hb=>
  have m:=ny (a.ht+b.ht) a b ha hb (aaV _);simp only [gF];split
  ·rename_i t ht;have m1:=m.items;have m2:=m.wf;rw [ht] at m1 m2;simp only [T.itemsL,abb] at m1;simp only [T.wfL] at m2;exact ⟨m2.2.1,m1,by simp only [Dv];omega⟩
  ·have:=lg (h:=max a.ht b.ht) m.pos (by have:=m.two;omega) (by have:=T.wf_ht ha;omega) m.wf;refine ⟨this.2.1,?_,?_⟩
   ·simp only [an];rw [this.2.2,m.items]
   ·simp only [Dv];omega
def eA (l:List It):Nat→Option T
 | 0=>none
 | i+1=>if i % 8=0 then gF (eA l i) (some (.leaf ((l.drop i).take 8))) else eA l i
theorem qQ (l:List It) : ∀i,i≤l.length→Dy (eA l i)∧an (eA l i)=l.take (8*((i+7) / 8)):=by
 intro i;induction i with
 | zero=>intro _;exact ⟨trivial,by simp [eA,an]⟩
 | succ i ih=>
  intro hi;obtain ⟨h1,h2⟩:=ih (by omega);unfold eA;split
  ·rename_i h8;have hl:Dy (some (.leaf ((l.drop i).take 8))):=by simp only [Dy,T.wf];simp;omega
   obtain ⟨g1,g2,_⟩:=BH h1 hl;refine ⟨g1,?_⟩;rw [g2,h2];simp only [an,T.items];rw [show 8*((i+1+7) / 8)=i+8 by omega,show 8*((i+7) / 8)=i by omega,adA]
  ·rename_i h8;exact ⟨h1,by rw [h2];congr 1;omega⟩
end Go.Proofs.YtkkanlcjjpoklaaGreatDoor
namespace Go.Proofs.YtkkanlcjjpoklaaGreatDoor
def mL (s:Sm) (d:Nat):Int:=match d with|0=>s.d0|1=>s.d1|2=>s.d2|_=>s.n
def bj (d:Nat) (v b:Int) (s:Sm):Bool:=decide (v<mL s d)||(b==0&&mL s d==v)
def lJ (R:Sm→Bool):Sm→List It→Sm
 | s,[]=>s
 | s,i::r=>if R (bd s (jW i))=true then s else lJ R (bd s (jW i)) r
mutual
def iN (R:Sm→Bool):T→Sm→Sm × Nat
 | .leaf l,s=>(lJ R s l,1)
 | .inner _ ks,s=>((iO R ks s).1,(iO R ks s).2+1)
def iO (R:Sm→Bool):List T→Sm→Sm × Nat
 | [],s=>(s,0)
 | k::r,s=>if R (bd s (aq k.items))=true then iN R k s else iO R r (bd s (aq k.items))
end
def Up (R:Sm→Bool):Prop:= ∀s i,cd i→R s=true→R (bd s (jW i))=true
theorem lA (i:It) (l:List It) (s:Sm) (hs:0≤s.n):bd s (aq (i::l))=bd (bd s (jW i)) (aq l):=by
 have e:aq (i::l)=bd (jW i) (aq l):=by
  have:=kM [i] l;rw [adw] at this;rw [this];congr 1;simp only [aq,acE,acJ];apply Sm.ext'<;>simp [bd,Sm.zero,jW]
 rw [e,rk hs (by simp [jW]) (by rw [cC];omega)]
theorem Fz (s:Sm) (i:It):(bd s (jW i)).n=s.n+1:=rfl
theorem MZ {R:Sm→Bool} (hu:Up R) : ∀(l:List It) (s:Sm),0≤s.n→(∀i∈l,cd i)→R s=true→R (bd s (aq l))=true
 | [],s,_,_,h=>by
  have:aq []=Sm.zero:=rfl;rw [this,d8];exact h
 | i::l,s,hs,hi,h=>by
  rw [lA i l s hs];exact MZ hu l _ (by rw [Fz];omega) (fun j hj=>hi j (by simp [hj])) (hu s i (hi i (by simp)) h)
theorem xD {R:Sm→Bool} (hu:Up R) (r:List It) : ∀(l:List It) (s:Sm),0≤s.n→(∀i∈l,cd i)→R (bd s (aq l))=false→lJ R s (l++r)=lJ R (bd s (aq l)) r
 | [],s,_,_,h=>by
  have:aq []=Sm.zero:=rfl;rw [this,d8];rfl
 | i::l,s,hs,hi,h=>by
  rw [lA i l s hs] at h ⊢;have hn:0≤(bd s (jW i)).n:=by rw [Fz];omega
  have h1:R (bd s (jW i))=false:=by
   cases hr:R (bd s (jW i)) with
   | false=>rfl
   | true=>
    have:=MZ hu l _ hn (fun j hj=>hi j (by simp [hj])) hr;rw [this] at h;cases h
  rw [abG,lJ,h1,aaY (by simp)];exact xD hu r l _ hn (fun j hj=>hi j (by simp [hj])) h
theorem xE {R:Sm→Bool} (r:List It) : ∀(l:List It) (s:Sm),0≤s.n→l≠[]→R (bd s (aq l))=true→lJ R s (l++r)=lJ R s l
 | [],s,_,h0,_=>(h0 rfl).elim
 | i::l,s,hs,_,h=>by
  rw [lA i l s hs] at h;rw [abG,lJ,lJ];split
  ·rfl
  ·rename_i hr;cases l with
   | nil=>
    have:aq []=Sm.zero:=rfl;rw [this,d8] at h;exact (hr h).elim
   | cons j l=>exact xE r (j::l) _ (by rw [Fz];omega) (by simp) h
mutual
theorem T.ne {t:T} (h:t.wf):t.items≠[]:=by
 match t,h with
 | .leaf l,h=>simp only [T.wf] at h;simp only [T.items];rintro rfl;simp at h
 | .inner g ks,h=>
  simp only [T.wf] at h;simp only [T.items];match ks,h with
  | k::r,h=>
   simp only [T.wfL] at h;simp only [T.itemsL];have:=T.ne h.2.2.2.2.1;intro e;exact this (List.append_eq_nil_iff.1 e).1
end
mutual
theorem wK {R:Sm→Bool} (hu:Up R) (t:T) (s:Sm) (hs:0≤s.n) (hw:t.wf) (hi : ∀i∈t.items,cd i):(iN R t s).1=lJ R s t.items:=by
 match t,hw,hi with
 | .leaf l,_,_=>rw [iN,T.items]
 | .inner g ks,hw,hi=>
  rw [iN,T.items];simp only [T.wf] at hw;simp only [T.items] at hi;exact rU hu ks s hs hw.2.2.2 hi
theorem rU {R:Sm→Bool} (hu:Up R) {g:Nat} (ks:List T) (s:Sm) (hs:0≤s.n) (hw:T.wfL g ks) (hi : ∀i∈T.itemsL ks,cd i):(iO R ks s).1=lJ R s (T.itemsL ks):=by
 match ks,hw,hi with
 | [],_,_=>rw [iO,T.itemsL];rfl
 | k::r,hw,hi=>
  simp only [T.wfL] at hw;simp only [T.itemsL,abe] at hi;rw [iO,T.itemsL];have hn:0≤(bd s (aq k.items)).n:=by show 0≤s.n+(aq k.items).n;rw [cC];omega
  split
  ·rename_i hr;rw [xE _ _ _ hs (T.ne hw.2.1) hr];exact wK hu k s hs hw.2.1 (fun i q=>hi i (.inl q))
  ·rename_i hr;rw [xD hu _ _ _ hs (fun i q=>hi i (.inl q)) (by simpa using hr)];exact rU hu r _ hn hw.2.2 (fun i q=>hi i (.inr q))
end
mutual
theorem j7 {R:Sm→Bool} (t:T) (s:Sm) (hw:t.wf):1≤(iN R t s).2∧(iN R t s).2≤t.ht:=by
 match t,hw with
 | .leaf l,_=>rw [iN];simp [T.ht]
 | .inner g ks,hw=>
  simp only [T.wf] at hw;rw [iN];have:=wJ (R:=R) ks s hw.2.2.2;simp only [T.ht];omega
theorem wJ {R:Sm→Bool} {g:Nat} (ks:List T) (s:Sm) (hw:T.wfL g ks):(iO R ks s).2≤g:=by
 match ks,hw with
 | [],_=>rw [iO];omega
 | k::r,hw=>
  simp only [T.wfL] at hw;rw [iO];split
  ·have:=(j7 (R:=R) k s hw.2.1).2;omega
  ·exact wJ r _ hw.2.2
end
theorem xF (R:Sm→Bool) : ∀(l:List It) (s:Sm),0≤s.n → ∃j,j≤l.length∧lJ R s l=bd s (aq (l.take j))∧(∀i,0<i→i≤j→R (bd s (aq (l.take i)))=false)∧(j<l.length→R (bd s (aq (l.take (j+1))))=true)
 | [],s,_=>⟨0,by simp,by show s=bd s Sm.zero;rw [d8],by intro i h1 h2;omega,by simp⟩
 | i::l,s,hs=>by
  rw [lJ];have e1 : ∀j,bd s (aq ((i::l).take (j+1)))=bd (bd s (jW i)) (aq (l.take j)):=fun j=>by rw [abn,lA _ _ _ hs]
  split
  ·rename_i hr;refine ⟨0,by simp,?_,by intro i h1 h2;omega,fun _ =>?_⟩
   ·show s=bd s Sm.zero;rw [d8]
   ·rw [e1 0];show R (bd _ Sm.zero)=true;rw [d8];exact hr
  ·rename_i hr;obtain ⟨j,h1,h2,h3,h4⟩:=xF R l (bd s (jW i)) (by rw [Fz];omega);refine ⟨j+1,by simp;omega,by rw [h2,e1],fun k k1 k2 =>?_,fun h =>?_⟩
   ·obtain ⟨k,rfl⟩ : ∃k',k=k'+1:=⟨k - 1,by omega⟩
    rw [e1];by_cases hk:k=0
    ·subst hk;show R (bd _ Sm.zero)=false;rw [d8];simpa using hr
    ·exact h3 k (by omega) (by omega)
   ·rw [e1];exact h4 (by simpa using h)
theorem NG (s t:Sm) (d:Nat) (hd:d≤3):mL (bd s t) d=mL s d+mL t d:=by
 have h4:d=0∨d=1∨d=2∨d=3:=by omega
 rcases h4 with rfl|rfl|rfl|rfl<;>rfl
theorem L9 (d:Nat) (hd:d≤3) (v b:Int):Up (bj d v b):=by
 intro s i hi h;unfold bj at h ⊢;rw [NG _ _ _ hd];have h0:0≤mL (jW i) d:=by
  unfold cd at hi;have h4:d=0∨d=1∨d=2∨d=3:=by omega
  rcases h4 with rfl|rfl|rfl|rfl<;>simp only [mL,jW]<;>omega
 simp only [abP,aa8,abs,aca] at h ⊢;omega
end Go.Proofs.YtkkanlcjjpoklaaGreatDoor
