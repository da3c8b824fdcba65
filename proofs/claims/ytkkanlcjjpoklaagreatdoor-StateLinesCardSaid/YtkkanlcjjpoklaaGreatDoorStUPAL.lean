/- What the theorem leans on, part 12. -/
namespace Go.Proofs.YtkkanlcjjpoklaaGreatDoor
structure It where
 tag:Int
 id:Int
 d0:Int
 d1:Int
 d2:Int
 mx:Int
 text:ByteArray
structure Sm where
 n:Int
 d0:Int
 d1:Int
 d2:Int
 mx:Int
 pos:Int
def Sm.zero:Sm:=⟨0,0,0,0,0,0⟩
def jo (i:It):Sm:=⟨1,i.d0,i.d1,i.d2,i.mx,0⟩
def a6 (a b:Sm):Sm:=⟨a.n+b.n,a.d0+b.d0,a.d1+b.d1,a.d2+b.d2,if 0<b.n∧(a.n=0∨a.mx<b.mx) then b.mx else a.mx,if 0<b.n∧(a.n=0∨a.mx<b.mx) then a.n+b.pos else a.pos⟩
def ay (l:List It):Sm:=l.foldl (fun s i=>a6 s (jo i)) Sm.zero
theorem Sm.ext' {a b:Sm} (h1:a.n=b.n) (h2:a.d0=b.d0) (h3:a.d1=b.d1) (h4:a.d2=b.d2) (h5:a.mx=b.mx) (h6:a.pos=b.pos):a=b:=by
 cases a;cases b;simp_all
theorem ip (l:List It) (i:It):ay (l++[i])=a6 (ay l) (jo i):=by simp [ay]
theorem dQ (a:Sm):a6 a Sm.zero=a:=by
 apply Sm.ext'<;>simp [a6,Sm.zero]
theorem qs {a b c:Sm} (ha:0≤a.n) (hb:0≤b.n) (hc:0≤c.n):a6 (a6 a b) c=a6 a (a6 b c):=by
 apply Sm.ext'
 ·simp [a6];omega
 ·simp [a6];omega
 ·simp [a6];omega
 ·simp [a6];omega
 ·simp only [a6];repeat' split
  all_goals first|rfl|(exfalso;omega)
 ·simp only [a6];repeat' split
  all_goals first|rfl|(exfalso;omega)|omega
theorem fe (l:List It):(ay l).n=l.length:=by
 have key : ∀(l:List It) (s:Sm),(l.foldl (fun s i=>a6 s (jo i)) s).n=s.n+l.length:=by
  intro l;induction l with
  | nil=>intro s;simp
  | cons x l ih=>intro s;rw [List.foldl_cons,ih];simp [a6,jo];omega
 have:=key l Sm.zero;simpa [ay,Sm.zero] using this
theorem yo (R:List It) : ∀A B:List It,B=R.reverse→ay (A++B)=a6 (ay A) (ay B):=by
 induction R with
 | nil=>intro A B h;simp at h;subst h;rw [List.append_nil];exact (dQ _).symm
 | cons x R ih=>
  intro A B h;rw [List.reverse_cons] at h;subst h;rw [←List.append_assoc,ip,ip,ih A _ rfl,qs]
  ·rw [fe];omega
  ·rw [fe];omega
  ·simp [jo]
theorem j4 (A B:List It):ay (A++B)=a6 (ay A) (ay B):=yo B.reverse A B (by simp)
def bZ (i:It):Prop:=0≤i.d0∧i.d0≤1099511627776∧0≤i.d1∧i.d1≤1099511627776∧0≤i.d2∧i.d2≤1099511627776∧0≤i.mx∧i.mx≤1099511627776
def fc (s:Sm):Prop:=0≤s.n∧s.n≤1000000∧0≤s.d0∧s.d0≤1099511627776*s.n∧0≤s.d1∧s.d1≤1099511627776*s.n∧0≤s.d2∧s.d2≤1099511627776*s.n∧0≤s.mx∧s.mx≤1099511627776∧0≤s.pos∧s.pos≤s.n
theorem wQ {a b:Sm} (ha:fc a) (hb:fc b) (h:a.n+b.n≤1000000):fc (a6 a b):=by
 unfold fc at *
 simp only [a6];split<;>omega
theorem rR {i:It} (h:bZ i):fc (jo i):=by
 unfold bZ at h;unfold fc jo;simp only;omega
theorem EW:fc Sm.zero:=by unfold fc Sm.zero;simp
theorem gA (l:List It) (h : ∀i∈l,bZ i) (hl:l.length≤1000000):fc (ay l):=by
 have key : ∀(R:List It) (B:List It),B=R.reverse→(∀i∈B,bZ i)→B.length≤1000000→fc (ay B):=by
  intro R;induction R with
  | nil=>intro B e _ _;simp at e;subst e;exact EW
  | cons x R ih=>
   intro B e h hl;rw [List.reverse_cons] at e;subst e;rw [ip];have:=ih _ rfl (fun i hi=>h i (by simp at hi ⊢;exact .inl hi)) (by simp at hl ⊢;omega);refine wQ this (rR (h x (by simp))) ?_;rw [fe];simp [jo] at hl ⊢;omega
 exact key l.reverse l (by simp) h hl
inductive T where
 | leaf (l:List It)
 | inner (h:Nat) (ks:List T)
mutual
def T.items:T→List It
 | .leaf l=>l
 | .inner _ ks=>T.itemsL ks
def T.itemsL:List T→List It
 | []=>[]
 | k::r=>k.items++T.itemsL r
end
def T.ht:T→Nat
 | .leaf _=>1
 | .inner h _=>h
theorem T.itemsL_app (a b:List T):T.itemsL (a++b)=T.itemsL a++T.itemsL b:=by
 induction a with
 | nil=>rfl
 | cons x a ih=>simp only [List.cons_append,T.itemsL,ih,List.append_assoc]
mutual
def T.wf:T→Prop
 | .leaf l=>0<l.length∧l.length≤8
 | .inner h ks=>0<ks.length∧ks.length≤8∧2≤h∧T.wfL (h - 1) ks
def T.wfL (h:Nat):List T→Prop
 | []=>True
 | k::r=>k.ht=h∧k.wf∧T.wfL h r
end
theorem T.wfL_app (h:Nat) (a b:List T):T.wfL h (a++b)↔T.wfL h a∧T.wfL h b:=by
 induction a with
 | nil=>simp [T.wfL]
 | cons x a ih=>simp only [List.cons_append,T.wfL,ih,and_assoc]
theorem T.wfL_mem {h:Nat} {l:List T} (hw:T.wfL h l) : ∀k∈l,k.ht=h∧k.wf:=by
 induction l with
 | nil=>intro k hk;cases hk
 | cons x l ih=>
  intro k hk;simp only [T.wfL] at hw;rcases List.mem_cons.1 hk with rfl|hk
  ·exact ⟨hw.1,hw.2.1⟩
  ·exact ih hw.2.2 k hk
theorem T.wf_ht {t:T} (h:t.wf):1≤t.ht:=by
 cases t with
 | leaf l=>simp [T.ht]
 | inner h ks=>simp only [T.wf] at h;simp only [T.ht];omega
def i6 (l:List It):List T:=if l.length≤8 then [.leaf l] else [.leaf (l.take (l.length / 2)),.leaf (l.drop (l.length / 2))]
def fY (ks:List T):T:= .inner ((match ks with|[]=>0|k::_=>k.ht)+1) ks
def gb (ks:List T):List T:=if ks.length≤8 then [fY ks] else [fY (ks.take (ks.length / 2)),fY (ks.drop (ks.length / 2))]
def c9:Nat→T→T→List T
 | 0,_,_=>[]
 | n+1,a,b=>
  if b.ht<a.ht then (match a with
   | .inner _ ks=>gb (ks.dropLast++(match ks.getLast? with
    | some k=>c9 n k b
    | none=>[]))
   | .leaf _=>[])
  else if a.ht<b.ht then (match b with
   | .inner _ (k::ks)=>gb (c9 n a k++ks)
   | _=>[])
  else match a,b with
   | .leaf x,.leaf y=>i6 (x++y)
   | .inner _ x,.inner _ y=>gb (x++y)
   | _,_=>[]
def fZ:Option T→Option T→Option T
 | none,b=>b
 | some a,none=>some a
 | some a,some b=>match c9 (a.ht+b.ht) a b with
  | [t]=>some t
  | l=>some (fY l)
structure Oy (h:Nat) (l:List It) (r:List T):Prop where
 items:T.itemsL r=l
 wf:T.wfL h r
 pos:0<r.length
 two:r.length≤2
theorem Dh {l:List It} (h0:0<l.length) (h:l.length≤16):Oy 1 l (i6 l):=by
 unfold i6;split
 ·exact ⟨by simp [T.itemsL,T.items],by simp [T.wfL,T.ht,T.wf];omega,by simp,by simp⟩
 ·exact ⟨by simp [T.itemsL,T.items],by simp [T.wfL,T.ht,T.wf];omega,by simp,by simp⟩
theorem kn {h:Nat} {ks:List T} (h0:0<ks.length) (h1:ks.length≤8) (h2:1≤h) (hw:T.wfL h ks):(fY ks).ht=h+1∧(fY ks).wf∧(fY ks).items=T.itemsL ks:=by
 match ks,h0,hw with
 | k::r,h0,hw=>
  have hk:=hw;simp only [T.wfL] at hk;unfold fY;refine ⟨by show k.ht+1=h+1;rw [hk.1],?_,by simp only [T.items]⟩;simp only [T.wf];rw [hk.1];exact ⟨h0,h1,by omega,by simpa using hw⟩
theorem T.wfL_take {h:Nat} {ks:List T} (n:Nat) (hw:T.wfL h ks):T.wfL h (ks.take n)∧T.wfL h (ks.drop n):=by
 rw [←T.wfL_app,List.take_append_drop];exact hw
theorem n8 {h:Nat} {ks:List T} (h0:0<ks.length) (h1:ks.length≤16) (h2:1≤h) (hw:T.wfL h ks):Oy (h+1) (T.itemsL ks) (gb ks):=by
 unfold gb;split
 ·obtain ⟨a,b,c⟩:=kn h0 (by omega) h2 hw;exact ⟨by simp [T.itemsL,c],by simp [T.wfL,a,b],by simp,by simp⟩
 ·obtain ⟨w1,w2⟩:=T.wfL_take (ks.length / 2) hw;obtain ⟨a,b,c⟩:=kn (ks:=ks.take (ks.length / 2)) (by simp;omega) (by simp;omega) h2 w1;obtain ⟨a',b',c'⟩:=kn (ks:=ks.drop (ks.length / 2)) (by simp;omega) (by simp;omega) h2 w2;refine ⟨?_,by simp [T.wfL,a,b,a',b'],by simp,by simp⟩;simp only [T.itemsL,c,c',List.append_nil];rw [←T.itemsL_app,List.take_append_drop]
theorem T.leaf_ht {t:T} (hw:t.wf) (h:t.ht=1) : ∃l,t = .leaf l:=by
 cases t with
 | leaf l=>exact ⟨l,rfl⟩
 | inner h' ks=>simp only [T.wf] at hw;simp only [T.ht] at h;omega
theorem T.inner_ht {t:T} (h:2≤t.ht) : ∃h' ks,t = .inner h' ks:=by
 cases t with
 | leaf l=>simp [T.ht] at h
 | inner h' ks=>exact ⟨h',ks,rfl⟩
theorem T.ht_inner (h:Nat) (ks:List T):(T.inner h ks).ht=h:=rfl
theorem T.ht_leaf (l:List It):(T.leaf l).ht=1:=rfl
theorem mG : ∀(n:Nat) (a b:T),a.wf→b.wf→a.ht+b.ht≤n→Oy (max a.ht b.ht) (a.items++b.items) (c9 n a b):=by
 intro n;induction n with
 | zero=>intro a b ha hb h;have:=T.wf_ht ha;omega
 | succ n ih=>
  intro a b ha hb hn;have h1:=T.wf_ht ha;have h2:=T.wf_ht hb;unfold c9;split
  ·rename_i hlt;obtain ⟨h,ks,rfl⟩:=T.inner_ht (t:=a) (by omega);simp only [T.wf] at ha;obtain ⟨k0,k1,k2,kw⟩:=ha;simp only [T.ht_inner] at hlt hn ⊢;rcases List.eq_nil_or_concat ks with rfl|⟨o,k,rfl⟩
   ·simp at k0
   ·simp only [List.concat_eq_append] at *
    rw [T.wfL_app] at kw;obtain ⟨w1,w2⟩:=kw;simp only [T.wfL] at w2;have m:=ih k b w2.2.1 hb (by omega);simp only [List.dropLast_concat,List.getLast?_concat];have hm:max k.ht b.ht=h - 1:=by omega
    rw [hm] at m;have:=n8 (h:=h - 1) (ks:=o++c9 n k b) (by have:=m.pos;simp;omega) (by have:=m.two;simp at k1 ⊢;omega) (by omega) ((T.wfL_app _ _ _).2 ⟨w1,m.wf⟩);rw [T.itemsL_app,m.items] at this;rw [show max h b.ht=h - 1+1 by omega];simp only [T.items,T.itemsL_app,T.itemsL,List.append_nil,List.append_assoc] at this ⊢;exact this
  ·split
   ·rename_i hge hlt;obtain ⟨h,ks,rfl⟩:=T.inner_ht (t:=b) (by omega);simp only [T.wf] at hb;obtain ⟨k0,k1,k2,kw⟩:=hb;simp only [T.ht_inner] at hlt hn hge ⊢;match ks,k0,k1,kw with
    | k::r,k0,k1,kw=>
     simp only [T.wfL] at kw;obtain ⟨w0,w1,w2⟩:=kw;have m:=ih a k ha w1 (by omega);have hm:max a.ht k.ht=h - 1:=by omega
     rw [hm] at m;simp only;have:=n8 (h:=h - 1) (ks:=c9 n a k++r) (by have:=m.pos;simp;omega) (by have:=m.two;simp at k1 ⊢;omega) (by omega) ((T.wfL_app _ _ _).2 ⟨m.wf,w2⟩);rw [T.itemsL_app,m.items] at this;rw [show max a.ht h=h - 1+1 by omega];simp only [T.items,T.itemsL,List.append_assoc] at this ⊢;exact this
   ·rename_i hge1 hge2;have he:a.ht=b.ht:=by omega
    rcases Nat.lt_or_ge a.ht 2 with hl|hl
    ·obtain ⟨x,rfl⟩:=T.leaf_ht ha (by omega);obtain ⟨y,rfl⟩:=T.leaf_ht hb (by omega);simp only [T.wf] at ha hb;have:=Dh (l:=x++y) (by simp;omega) (by simp;omega);simpa only [T.items,T.ht_leaf,Nat.max_self] using this
    ·obtain ⟨h,ks,rfl⟩:=T.inner_ht (t:=a) hl;obtain ⟨h',ks',rfl⟩:=T.inner_ht (t:=b) (by omega);simp only [T.ht_inner] at he;subst he;simp only [T.wf] at ha hb;have:=n8 (h:=h - 1) (ks:=ks++ks') (by simp;omega) (by simp;omega) (by omega) ((T.wfL_app _ _ _).2 ⟨ha.2.2.2,hb.2.2.2⟩);simp only [T.ht_inner,T.items];rw [T.itemsL_app] at this;rw [show max h h=h - 1+1 by omega];exact this
def ao:Option T→List It
 | none=>[]
 | some t=>t.items
def DA:Option T→Prop
 | none=>True
 | some t=>t.wf
def BJ:Option T→Nat
 | none=>0
 | some t=>t.ht
theorem zM {a b:Option T} (ha:DA a) (hb:DA b):DA (fZ a b)∧ao (fZ a b)=ao a++ao b∧BJ (fZ a b)≤max (BJ a) (BJ b)+1:=by
 match a,b,ha,hb with
 | none,b,_,hb=>exact ⟨hb,by simp [fZ,ao],by simp only [fZ];omega⟩
 | some a,none,ha,_=>exact ⟨ha,by simp [fZ,ao],by simp only [fZ];omega⟩
 | some a,some b,ha,hb=>
  have m:=mG (a.ht+b.ht) a b ha hb (Nat.le_refl _);simp only [fZ];split
  ·rename_i t ht;have m1:=m.items;have m2:=m.wf;rw [ht] at m1 m2;simp only [T.itemsL,List.append_nil] at m1;simp only [T.wfL] at m2;exact ⟨m2.2.1,m1,by simp only [BJ];omega⟩
  ·have:=kn (h:=max a.ht b.ht) m.pos (by have:=m.two;omega) (by have:=T.wf_ht ha;omega) m.wf;refine ⟨this.2.1,?_,?_⟩
   ·simp only [ao];rw [this.2.2,m.items]
   ·simp only [BJ];omega
def d5 (l:List It):Nat→Option T
 | 0=>none
 | i+1=>if i % 8=0 then fZ (d5 l i) (some (.leaf ((l.drop i).take 8))) else d5 l i
theorem qe (l:List It) : ∀i,i≤l.length→DA (d5 l i)∧ao (d5 l i)=l.take (8*((i+7) / 8)):=by
 intro i;induction i with
 | zero=>intro _;exact ⟨trivial,by simp [d5,ao]⟩
 | succ i ih=>
  intro hi;obtain ⟨h1,h2⟩:=ih (by omega);unfold d5;split
  ·rename_i h8;have hl:DA (some (.leaf ((l.drop i).take 8))):=by simp only [DA,T.wf];simp;omega
   obtain ⟨g1,g2,_⟩:=zM h1 hl;refine ⟨g1,?_⟩;rw [g2,h2];simp only [ao,T.items];rw [show 8*((i+1+7) / 8)=i+8 by omega,show 8*((i+7) / 8)=i by omega,List.take_add]
  ·rename_i h8;exact ⟨h1,by rw [h2];congr 1;omega⟩
end Go.Proofs.YtkkanlcjjpoklaaGreatDoor
namespace Go.Proofs.YtkkanlcjjpoklaaGreatDoor
def nd (s:Sm) (d:Nat):Int:=match d with|0=>s.d0|1=>s.d1|2=>s.d2|_=>s.n
def bm (d:Nat) (v b:Int) (s:Sm):Bool:=decide (v<nd s d)||(b==0&&nd s d==v)
def kJ (R:Sm→Bool):Sm→List It→Sm
 | s,[]=>s
 | s,i::r=>if R (a6 s (jo i))=true then s else kJ R (a6 s (jo i)) r
mutual
def gW (R:Sm→Bool):T→Sm→Sm × Nat
 | .leaf l,s=>(kJ R s l,1)
 | .inner _ ks,s=>((gX R ks s).1,(gX R ks s).2+1)
def gX (R:Sm→Bool):List T→Sm→Sm × Nat
 | [],s=>(s,0)
 | k::r,s=>if R (a6 s (ay k.items))=true then gW R k s else gX R r (a6 s (ay k.items))
end
def Up (R:Sm→Bool):Prop:= ∀s i,bZ i→R s=true→R (a6 s (jo i))=true
theorem kC (i:It) (l:List It) (s:Sm) (hs:0≤s.n):a6 s (ay (i::l))=a6 (a6 s (jo i)) (ay l):=by
 have e:ay (i::l)=a6 (jo i) (ay l):=by
  have:=j4 [i] l;rw [List.singleton_append] at this;rw [this];congr 1;simp only [ay,List.foldl_cons,List.foldl_nil];apply Sm.ext'<;>simp [a6,Sm.zero,jo]
 rw [e,qs hs (by simp [jo]) (by rw [fe];omega)]
theorem DF (s:Sm) (i:It):(a6 s (jo i)).n=s.n+1:=rfl
theorem KY {R:Sm→Bool} (hu:Up R) : ∀(l:List It) (s:Sm),0≤s.n→(∀i∈l,bZ i)→R s=true→R (a6 s (ay l))=true
 | [],s,_,_,h=>by
  have:ay []=Sm.zero:=rfl;rw [this,dQ];exact h
 | i::l,s,hs,hi,h=>by
  rw [kC i l s hs];exact KY hu l _ (by rw [DF];omega) (fun j hj=>hi j (by simp [hj])) (hu s i (hi i (by simp)) h)
theorem wm {R:Sm→Bool} (hu:Up R) (r:List It) : ∀(l:List It) (s:Sm),0≤s.n→(∀i∈l,bZ i)→R (a6 s (ay l))=false→kJ R s (l++r)=kJ R (a6 s (ay l)) r
 | [],s,_,_,h=>by
  have:ay []=Sm.zero:=rfl;rw [this,dQ];rfl
 | i::l,s,hs,hi,h=>by
  rw [kC i l s hs] at h ⊢;have hn:0≤(a6 s (jo i)).n:=by rw [DF];omega
  have h1:R (a6 s (jo i))=false:=by
   cases hr:R (a6 s (jo i)) with
   | false=>rfl
   | true=>
    have:=KY hu l _ hn (fun j hj=>hi j (by simp [hj])) hr;rw [this] at h;cases h
  rw [List.cons_append,kJ,h1,if_neg (by simp)];exact wm hu r l _ hn (fun j hj=>hi j (by simp [hj])) h
theorem wo {R:Sm→Bool} (r:List It) : ∀(l:List It) (s:Sm),0≤s.n→l≠[]→R (a6 s (ay l))=true→kJ R s (l++r)=kJ R s l
 | [],s,_,h0,_=>(h0 rfl).elim
 | i::l,s,hs,_,h=>by
  rw [kC i l s hs] at h;rw [List.cons_append,kJ,kJ];split
  ·rfl
  ·rename_i hr;cases l with
   | nil=>
    have:ay []=Sm.zero:=rfl;rw [this,dQ] at h;exact (hr h).elim
   | cons j l=>exact wo r (j::l) _ (by rw [DF];omega) (by simp) h
mutual
theorem T.ne {t:T} (h:t.wf):t.items≠[]:=by
 match t,h with
 | .leaf l,h=>simp only [T.wf] at h;simp only [T.items];rintro rfl;simp at h
 | .inner g ks,h=>
  simp only [T.wf] at h;simp only [T.items];match ks,h with
  | k::r,h=>
   simp only [T.wfL] at h;simp only [T.itemsL];have:=T.ne h.2.2.2.2.1;intro e;exact this (List.append_eq_nil_iff.1 e).1
end
mutual
theorem uY {R:Sm→Bool} (hu:Up R) (t:T) (s:Sm) (hs:0≤s.n) (hw:t.wf) (hi : ∀i∈t.items,bZ i):(gW R t s).1=kJ R s t.items:=by
 match t,hw,hi with
 | .leaf l,_,_=>rw [gW,T.items]
 | .inner g ks,hw,hi=>
  rw [gW,T.items];simp only [T.wf] at hw;simp only [T.items] at hi;exact qS hu ks s hs hw.2.2.2 hi
theorem qS {R:Sm→Bool} (hu:Up R) {g:Nat} (ks:List T) (s:Sm) (hs:0≤s.n) (hw:T.wfL g ks) (hi : ∀i∈T.itemsL ks,bZ i):(gX R ks s).1=kJ R s (T.itemsL ks):=by
 match ks,hw,hi with
 | [],_,_=>rw [gX,T.itemsL];rfl
 | k::r,hw,hi=>
  simp only [T.wfL] at hw;simp only [T.itemsL,List.mem_append] at hi;rw [gX,T.itemsL];have hn:0≤(a6 s (ay k.items)).n:=by show 0≤s.n+(ay k.items).n;rw [fe];omega
  split
  ·rename_i hr;rw [wo _ _ _ hs (T.ne hw.2.1) hr];exact uY hu k s hs hw.2.1 (fun i q=>hi i (.inl q))
  ·rename_i hr;rw [wm hu _ _ _ hs (fun i q=>hi i (.inl q)) (by simpa using hr)];exact qS hu r _ hn hw.2.2 (fun i q=>hi i (.inr q))
end
mutual
theorem jy {R:Sm→Bool} (t:T) (s:Sm) (hw:t.wf):1≤(gW R t s).2∧(gW R t s).2≤t.ht:=by
 match t,hw with
 | .leaf l,_=>rw [gW];simp [T.ht]
 | .inner g ks,hw=>
  simp only [T.wf] at hw;rw [gW];have:=uX (R:=R) ks s hw.2.2.2;simp only [T.ht];omega
theorem uX {R:Sm→Bool} {g:Nat} (ks:List T) (s:Sm) (hw:T.wfL g ks):(gX R ks s).2≤g:=by
 match ks,hw with
 | [],_=>rw [gX];omega
 | k::r,hw=>
  simp only [T.wfL] at hw;rw [gX];split
  ·have:=(jy (R:=R) k s hw.2.1).2;omega
  ·exact uX r _ hw.2.2
end
theorem wq (R:Sm→Bool) : ∀(l:List It) (s:Sm),0≤s.n → ∃j,j≤l.length∧kJ R s l=a6 s (ay (l.take j))∧(∀i,0<i→i≤j→R (a6 s (ay (l.take i)))=false)∧(j<l.length→R (a6 s (ay (l.take (j+1))))=true)
 | [],s,_=>⟨0,by simp,by show s=a6 s Sm.zero;rw [dQ],by intro i h1 h2;omega,by simp⟩
 | i::l,s,hs=>by
  rw [kJ];have e1 : ∀j,a6 s (ay ((i::l).take (j+1)))=a6 (a6 s (jo i)) (ay (l.take j)):=fun j=>by rw [List.take_succ_cons,kC _ _ _ hs]
  split
  ·rename_i hr;refine ⟨0,by simp,?_,by intro i h1 h2;omega,fun _ =>?_⟩
   ·show s=a6 s Sm.zero;rw [dQ]
   ·rw [e1 0];show R (a6 _ Sm.zero)=true;rw [dQ];exact hr
  ·rename_i hr;obtain ⟨j,h1,h2,h3,h4⟩:=wq R l (a6 s (jo i)) (by rw [DF];omega);refine ⟨j+1,by simp;omega,by rw [h2,e1],fun k k1 k2 =>?_,fun h =>?_⟩
   ·obtain ⟨k,rfl⟩ : ∃k',k=k'+1:=⟨k - 1,by omega⟩
    rw [e1];by_cases hk:k=0
    ·subst hk;show R (a6 _ Sm.zero)=false;rw [dQ];simpa using hr
    ·exact h3 k (by omega) (by omega)
   ·rw [e1];exact h4 (by simpa using h)
theorem Lq (s t:Sm) (d:Nat) (hd:d≤3):nd (a6 s t) d=nd s d+nd t d:=by
 have h4:d=0∨d=1∨d=2∨d=3:=by omega
 rcases h4 with rfl|rfl|rfl|rfl<;>rfl
theorem J8 (d:Nat) (hd:d≤3) (v b:Int):Up (bm d v b):=by
 intro s i hi h;unfold bm at h ⊢;rw [Lq _ _ _ hd];have h0:0≤nd (jo i) d:=by
  unfold bZ at hi;have h4:d=0∨d=1∨d=2∨d=3:=by omega
  rcases h4 with rfl|rfl|rfl|rfl<;>simp only [nd,jo]<;>omega
 simp only [Bool.or_eq_true,Bool.and_eq_true,decide_eq_true_eq,beq_iff_eq] at h ⊢;omega
end Go.Proofs.YtkkanlcjjpoklaaGreatDoor
