/- What the theorem leans on, part 7. -/
import Derived.Test.YtkkanlcjjpoklaaGreatDoorSpTPAF
set_option linter.unusedVariables false
namespace Go.Proofs.YtkkanlcjjpoklaaGreatDoor
def fN {α:Type} (n:Nat) (k:Nat→α):α:=match n with
 | 0=>k 0
 | m+1=>k (Nat.succ m)
def fI {α:Type} (i:Int) (k:Int→α):α:=match i with
 | .ofNat n=>fN n fun n=>k (.ofNat n)
 | .negSucc n=>fN n fun n=>k (.negSucc n)
def fB {α:Type} (b:Bool) (k:Bool→α):α:=match b with
 | true=>k true
 | false=>k false
def I0 {α:Type} (v:Value) (k:Value→α):α:=match v with
 | .int kd i=>fI i fun i=>k (.int kd i)
 | .bool b=>fB b fun b=>k (.bool b)
 | v=>k v
def fD {α:Type} (x:D) (k:D→α):α:=match x with
 | .lit v=>I0 v fun v=>k (.lit v)
 | x=>k x
def fV {α:Type} (v:V) (k:V→α):α:=match v with
 | .d x=>fD x fun x=>k (.d x)
 | .so id kk lo n=>fN lo fun lo=>fN n fun n=>k (.so id kk lo n)
 | v=>k v
def fL {α:Type} : List D→(List D→α)→α
 | [],k=>k []
 | x::r,k=>fL r fun r=>k (x::r)
def IZ {α:Type} (b:bu) (k:bu→α):α:=match b with
 | .row n es tq=>fL es fun es=>k (.row n es tq)
 | b=>k b
def zN (o:BinOp) (b:Int):Bool:=match o with
 | .quo=> !(b==0)
 | .rem=> !(b==0)
 | .shl=>decide (0≤b)
 | .shr=>decide (0≤b)
 | _=>true
def mw (o:BinOp) (a b:ByteArray):Bool:=match o with
 | .add=>decide (((a.size+b.size:Nat):Int)≤9223372036854775807)
 | _=>true
def Le (o q:Option (List CK)):Bool:=match o,q with
 | some ks,some ks'=>bR ks ks'
 | _,_=>false
def DZ (P:Program) (o:BinOp) (t:Nat) (x y:V):Bool:=match x with
 | .d (.lit (.int _ _))=>(match y with
  | .d (.lit (.int _ b))=>zN o b
  | _=>true)
 | .d (.lit (.string a))=>(match y with
  | .d (.lit (.string b))=>mw o a b
  | _=>true)
 | .d (.agg xs)=>(match y with
  | .d (.agg _)=>Le (De P t) (fq xs)
  | _=>true)
 | _=>true
def Kn (lo hi:Option Int) (mx:Option Int) (n:Nat):Bool:=
 decide (0≤lo.getD 0)&&decide (lo.getD 0≤hi.getD n)&&decide (hi.getD n≤mx.getD n)&&decide (mx.getD n≤n)
def JB (x:V) (lo hi mx:Option V):Bool:=match qt lo,qt hi,qt mx with
 | some lo,some hi,some mx=>(match x with
  | .d (.lit (.string s))=>Kn lo hi mx s.size
  | .d (.sd _ _ es)=>Kn lo hi mx es.length
  | .so _ _ _ n=>Kn lo hi mx n&&(decide (lo.getD 0<n)||decide (lo.getD 0=0))
  | _=>true)
 | _,_,_=>true
def JA (i:V) (n:Nat):Bool:=match i9 i with
 | some i=>decide (0≤i)&&decide (i<n)
 | none=>true
def D0 (P:Program) (t:Nat) (a i:V):Bool:=match a with
 | .d (.sd _ _ es)=>JA i es.length
 | .so _ _ _ m=>JA i m
 | _=>(match Fb P t with
  | some x=>JA i x.1
  | none=>true)
def Jy (P:Program) (t:Nat) (a i:V):Bool:=match a with
 | .d (.lit (.string s))=>JA i s.size
 | _=>(match Fb P t with
  | some x=>JA i x.1
  | none=>true)
def A5 (k:Nat) (x:D):Bool:=decide (x.cells.length=k)&&(V.d x).cellOk
def Jv (P:Program) (t:Nat) (ps:List (Nat × V)):Bool:=match sA P t with
 | some x=>(match tI 0 ps with
  | some es=>es.all (A5 x.1)
  | none=>true)
 | none=>true
def Jz (P:Program) (t:Nat) (l c:V):Bool:=match H6 P t with
 | some (_,bytes,_)=>(match i9 l,i9 c with
  | some l,some c=>decide (0≤l)&&decide (l≤c)&&decide (c≤1099511627776)&&decide (c*bytes≤140737488355328)
  | _,_=>true)
 | none=>true
def JC (P:Program) (t:Nat) (a x:V) (σ:ae):Bool:=match a with
 | .pe i k ix j=>(match cW P t,σ.get i,x with
  | some (s,_),some (.row _ es _),.d y=>decide (ix<es.length)&&(if j=0∧s=k then A5 k y else A5 s y)
  | _,_,_=>true)
 | _=>true
def ym (σ:ae) (x:V):Bool:=match x with
 | .so id _ lo n=>(match σ.get id with
  | some (.row _ es _)=>decide (lo+n≤es.length)
  | _=>true)
 | _=>true
def Lf (n bytes:Nat):Bool:=decide (n≤140737488355328)&&decide (n*bytes≤140737488355328)
def DY (bytes:Nat) (s:V) (new:List D) (σ:ae):Bool:=match s with
 | .d (.lit _)=>Lf new.length bytes
 | .d (.sd _ _ es)=>Lf (es.length+new.length) bytes&&(es.isEmpty || !new.isEmpty)
 | .so i0 _ lo n=>(match σ.get i0 with
  | some (.row _ es _)=>decide (lo=0)&&decide (n=es.length)&&Lf (es.length+new.length) bytes
  | _=>true)
 | _=>true
def DX (P:Program) (t:Nat) (s x:V) (σ:ae):Bool:=match sA P t with
 | some (k,bytes)=>ym σ x&&(match dM k σ x with
  | some y=>DY bytes s y.2 σ
  | none=>true)
 | none=>true
def Jw (d x:V) (σ:ae):Bool:=ym σ x&&ym σ d
def nl (y:D):Bool:=match y with
 | .lit (.int .u8 _)=>true
 | _=>false
def Jx (P:Program) (s:Nat) (x:V) (σ:ae):Bool:=if Kf P s=true then ym σ x&&(match dM 1 σ x with
 | some y=>y.2.all nl
 | none=>true) else true
def JD (x n:V) (σ:ae):Bool:=match x,n with
 | .pe id _ _ _,.d (.lit (.int _ m))=>(match σ.get id with
  | some (.row _ es _)=>(es.take m.toNat).all nl
  | _=>true)
 | _,_=>true
def lG (P:Program) (c:Call) (g:Operand→V) (σ:ae):Bool:=match c.callee,c.args.toList,c.argTypes.toList with
 | .builtin .append,[s,x],[t,_]=>DX P t (g s) (g x) σ
 | .builtin .copy,[d,x],_=>Jw (g d) (g x) σ
 | .builtin .unsafeString,[x,n],_=>JD (g x) (g n) σ
 | .builtin .clear,[x],_=>(match g x with
  | .so id _ lo n=>(match σ.get id with
   | some (.row _ es _)=>decide (lo+n=es.length)
   | _=>true)
  | _=>true)
 | _,_,_=>true
def xg (P:Program) (op:Op) (g:Operand→V) (σ:ae):Bool:=match op with
 | .binOp o t x y _=>DZ P o t (g x) (g y)
 | .slice _ x lo hi mx=>JB (g x) (lo.map g) (hi.map g) (mx.map g)
 | .indexAddr t x i=>D0 P t (g x) (g i)
 | .index t x i=>Jy P t (g x) (g i)
 | .buildSlice t _ ps=>Jv P t (ps.toList.map fun p=>(p.1,g p.2))
 | .makeSlice t l c=>Jz P t (g l) (g c)
 | .store t a x=>JC P t (g a) (g x) σ
 | .convert s _ x=>Jx P s (g x) σ
 | .call c=>lG P c g σ
 | .mapUpdate t _ _ _=>(Bt P t).isNone
 | .lookup t _ _ _=>(Bt P t).isNone
 | _=>true
def EH (o:BinOp) (a b:ByteArray):Option V:=match o with
 | .add=>some (.d (.lit (.string ⟨⟨a.data.toList++b.data.toList⟩⟩)))
 | .eql=>some (.d (.lit (.bool (a.data.toList==b.data.toList))))
 | .neq=>some (.d (.lit (.bool (!(a.data.toList==b.data.toList)))))
 | _=>none
def ES (op:Op) (g:Operand→V):Option (BinOp × ByteArray × ByteArray):=match op with
 | .binOp o _ x y _=>(match g x with
  | .d (.lit (.string a))=>(match g y with
   | .d (.lit (.string b))=>some (o,a,b)
   | _=>none)
  | _=>none)
 | _=>none
def F2 (k:Nat) (es:List D) (i j:Nat) (x:Nat × Bool):Option V:=match es[i]? with
 | some e=>(rF x.2 j x.1 k e).map .d
 | none=>none
def vj (P:Program) (t:Nat) (a:V) (σ:ae):Option V:=match cW P t with
 | none=>none
 | some x=>match a with
  | .d (.pd k es i j)=>F2 k es i j x
  | .po id o=>(match σ.get id with
   | some (.cell cs _)=>ip x.2 o x.1 cs
   | _=>none)
  | .pe id k i j=>(match σ.get id with
   | some (.row k' es _)=>if k=k' then F2 k es i j x else none
   | _=>none)
  | _=>none
def DQ (x:V) (σ:ae):Option (V × ae):=match x with
 | .it id=>(match σ.get id with
  | some (.iter s pos)=>if pos<s.size then some (.tup [.d (.lit (.bool true)),.d (.lit (.int .i64 pos)),.d (.lit (.int .i32 (Utf8.decode s pos).1))],σ.set id (.iter s (pos+(Utf8.decode s pos).2))) else some (.tup [.d (.lit (.bool false))],σ)
  | _=>none)
 | _=>none
def sD {α:Type} (v:V) (k:Nat→List V→Option α):Option α:=match v with
 | .d (.fn f caps)=>k f (caps.map .d)
 | .fn f caps=>k f caps
 | _=>none
def iP (v:V) (al:List V):List V:=match v with
 | .d (.fn _ caps)=>al++caps.map .d
 | .fn _ caps=>al++caps
 | .d (.bf _ fs)=>fs.map .d++(al++[])
 | _=>al
def nf {α:Type} (v:V) (al:List V) (k:Nat→List V→Option α):Option α:=match v with
 | .d (.fn f _)=>k f (iP v al)
 | .fn f _=>k f (iP v al)
 | .d (.bf f _)=>k f (iP v al)
 | _=>none
def zP (c a b:V):Option V:=match c with
 | .d (.lit (.bool t))=>some (match t with|true=>a|false=>b)
 | _=>none
abbrev Ft:=Nat→List V→ae→Nat→Option (V × ae)
structure Ap where
 call:Ft
 rnd:Ft
def EZ (P:Program) (op:Op) (g:Operand→V) (σ:ae) (id:Nat):Option (V × ae):=match ES op g with
 | some (o,a,b)=>if mw o a b=true then (EH o a b).map fun v=>(v,σ) else none
 | none=>if xg P op g σ=true then (match cz P op g σ id with
  | some r=>some (r.2.1,r.2.2)
  | none=>none) else none
def o8 (P:Program) (op:Op) (g:Operand→V) (σ:ae) (id:Nat):Option (V × ae):=match op with
 | .pick c a b=>(zP (g c) (g a) (g b)).map fun v=>(v,[])
 | .load t x=>(vj P t (g x) σ).map fun v=>(v,[])
 | .call c=>(match c.callee with
  | .builtin _=>if xg P op g σ=true then (match aW P op g σ id with
   | some r=>some (r.2.1,r.2.2)
   | none=>none) else none
  | _=>none)
 | op=>match ES op g with
  | some (o,a,b)=>if mw o a b=true then (EH o a b).map fun v=>(v,[]) else none
  | none=>if xg P op g σ=true then (match aW P op g σ id with
   | some r=>some (r.2.1,r.2.2)
   | none=>none) else none
def dQ (σ:ae) (vs:List V):List Nat:=Bf σ (Bf σ (Bf σ (oz [] vs)))
def qP (P:Program) (run:Ap) (f:Nat) (args:List V) (σ:ae) (id:Nat):Option (V × ae):=
 if bN P f=true then
  (if Cm (dQ σ args) id σ=true then
   (match run.call f (args.map (V.sel (fw (dQ σ args)))) (σ.sel (fw (dQ σ args))) (dQ σ args).length with
   | some r=>some (r.1.sel (bk (dQ σ args) id),jr σ (dQ σ args)++r.2.sel (bk (dQ σ args) id))
   | none=>none) else none)
 else (match od P f args with
  | some v=>some (v,σ)
  | none=>none)
def mL (P:Program) (run:Ap) (op:Op) (g:Operand→V) (σ:ae) (id:Nat):Option (V × ae):=match op with
 | .pick c a b=>(zP (g c) (g a) (g b)).map fun v=>(v,σ)
 | .load t x=>(vj P t (g x) σ).map fun v=>(v,σ)
 | .next x isStr=>if isStr=true then DQ (g x) σ else none
 | .call c=>(match c.callee with
  | .value f=>(match g f with
   | .yl i=>run.rnd i (c.args.toList.map g) σ id
   | v=>nf v (c.args.toList.map g) fun k al=>qP P run k al σ id)
  | .builtin _=>EZ P op g σ id
  | .invoke _ _=>none)
 | op=>EZ P op g σ id
def jw (ops:Array Oper) (o:Oper) (e:aC):Option (Bool × aC):=match o.guard with
 | none=>some (true,e)
 | some (j,want)=>match (ops[j]?).bind (·.dst) with
  | none=>none
  | some d=>match e.get d with
   | .d (.lit (.bool b))=>some (b==want,e.put d (.d (.lit (.bool b))))
   | .tup []=>some (false,e)
   | _=>none
def bn {α:Type} (s:String):Option α:=none
def xH {α:Type} (σ:ae) (k:ae→α):α:=match σ with
 | []=>k []
 | (i,b)::r=>IZ b fun b=>k ((i,b)::r)
def BH (P:Program) (G:Gl) (run:Ap) (ops:Array Oper) (base:Nat):Nat→List Oper→aC→ae→Option (aC × ae)
 | _,[],e,σ=>some (e,σ)
 | i,o::r,e,σ=>match jw ops o e with
  | some (true,e)=>(match mL P run o.op (di G e.get) σ (base+4*i) with
   | some (v,σ')=>fV v fun v=>xH σ' fun σ'=>BH P G run ops base (i+1) r (e.putO o.dst v) σ'
   | none=>bn o.pos)
  | some (false,e)=>BH P G run ops base (i+1) r (e.putO o.dst (.tup [])) σ
  | none=>bn o.pos
def Nw (vs:List V):Bool:=(oz [] vs).isEmpty
def CT (P:Program) (run:Ap) (f:Nat) (args:List V) (id:Nat):Option (V × ae):=
 if bN P f=true then
  (match run.call f (args.map (V.sel (fw []))) [] 0 with
   | some r=>some (r.1.sel (bk [] id),r.2.sel (bk [] id))
   | none=>none)
 else (match od P f args with
  | some v=>some (v,[])
  | none=>none)
def l7 (P:Program) (run:Ap) (lo:List Nat) (ops:Array Oper) (i:Nat) (op:Op) (g:Operand→V) (σp acc:ae) (id:Nat):Option (Bool × V × ae):=match op with
 | .call c=>(match c.callee with
  | .value f=>(match g f with
   | .yl j=>if eA lo ops i=true then (run.rnd j (c.args.toList.map g) (σp++acc) id).map fun r=>(false,r) else none
   | v=>nf v (c.args.toList.map g) fun k al=>if Nw al=true then (CT P run k al id).map fun r=>(true,r)
    else if eA lo ops i=true then (qP P run k al (σp++acc) id).map fun r=>(false,r) else none)
  | _=>none)
 | _=>none
def ij (P:Program) (G:Gl) (run:Ap) (ops:Array Oper) (base:Nat):Nat→List Oper→aC→ae→ae→Option (aC × ae)
 | _,[],e,σp,acc=>some (e,σp++acc)
 | i,o::r,e,σp,acc=>match jw ops o e with
  | some (true,e)=>
   if u7 o.op=true then (match mL P run o.op (di G e.get) (σp++acc) (base+4*i) with
    | some (v,σ')=>fV v fun v=>xH σ' fun σ'=>ij P G run ops base (i+1) r (e.putO o.dst v) σ' []
    | none=>bn o.pos)
   else if cp o.op=true then (match l7 P run [] ops i o.op (di G e.get) σp acc (base+4*i) with
    | some (true,v,new)=>fV v fun v=>ij P G run ops base (i+1) r (e.putO o.dst v) σp (acc++new)
    | some (false,v,σ')=>fV v fun v=>ij P G run ops base (i+1) r (e.putO o.dst v) σ' []
    | none=>bn o.pos)
   else (match o8 P o.op (di G e.get) σp (base+4*i) with
    | some (v,new)=>fV v fun v=>ij P G run ops base (i+1) r (e.putO o.dst v) σp (acc++new)
    | none=>bn o.pos)
  | some (false,e)=>ij P G run ops base (i+1) r (e.putO o.dst (.tup [])) σp acc
  | none=>bn o.pos
def vP:V→Option Nat
 | .po i _=>some i
 | .pe i _ _ _=>some i
 | _=>none
def wB (σk:ae) (op:Op) (g:Operand→V):Bool:=match op with
 | .store _ a _=>(match vP (g a) with
  | some i=>(σk.get i).isNone
  | none=>false)
 | _=>false
def H8:Ap:=⟨fun _ _ _ _=>none,fun _ _ _ _=>none⟩
def y5 (op:Op) (g:Operand→V):List V:=match op with
 | .call c=>(match c.callee with
  | .value f=>iP (g f) (c.args.toList.map g)
  | _=>[])
 | _=>[]
def K1 (op:Op) (g:Operand→V):Bool:=match op with
 | .call c=>(match c.callee with
  | .value f=>(match g f with
   | .yl _=>true
   | _=>false)
  | _=>false)
 | _=>false
def Ld (σk σ:ae) (op:Op) (g:Operand→V):Bool:= !K1 op g&&(dQ σ (y5 op g)).all fun j=>(σk.get j).isNone
def wr (P:Program) (G:Gl) (ops:Array Oper) (base:Nat):Nat→List Oper→aC→ae→List Nat→List (Nat × Option Nat)→Bool→Option (List Nat × List (Nat × Option Nat) × Bool)
 | _,[],_,_,ids,lds,oc=>some (ids,lds,oc)
 | i,o::r,e,σ,ids,lds,oc=>match jw ops o e with
  | some (true,e)=>(match mL P H8 o.op (di G e.get) σ (base+4*i) with
   | some (v,σ')=>fV v fun v=>xH σ' fun σ'=>wr P G ops base (i+1) r (e.putO o.dst v) σ'
    (match o.op with
     | .store _ a _=>(match vP (di G e.get a) with
      | some k=>k::ids
      | none=>ids)
     | _=>ids)
    (match o.op with
     | .load _ a=>(i,vP (di G e.get a))::lds
     | _=>lds) oc
   | none=>wr P G ops base (i+1) r (e.putO o.dst .unk) σ
    (match o.op with
     | .store _ a _=>(match vP (di G e.get a) with
      | some k=>k::ids
      | none=>ids)
     | op=>dQ σ (y5 op (di G e.get))++ids) lds (oc||(cp o.op && !eA [] ops i && !(dQ σ (y5 o.op (di G e.get))).isEmpty)))
  | some (false,e)=>wr P G ops base (i+1) r (e.putO o.dst (.tup [])) σ ids lds oc
  | none=>wr P G ops base (i+1) r (e.putO o.dst .unk) σ ids lds oc
def Kj (ids:List Nat):List (Nat × Option Nat)→List Nat
 | []=>[]
 | (i,none)::r=>i::Kj ids r
 | (i,some k)::r=>if ids.contains k=true then Kj ids r else i::Kj ids r
def FT:List Nat→ae→ae
 | [],σ=>σ
 | i::r,σ=>FT r (σ.del i)
def ik (P:Program) (G:Gl) (run:Ap) (lo:List Nat) (σk:ae) (ops:Array Oper) (base:Nat):Nat→List Oper→Bool→aC→ae→ae→Option (aC × ae)
 | _,[],_,e,σp,acc=>some (e,σp++acc)
 | i,o::r,kp,e,σp,acc=>match jw ops o e with
  | some (true,e)=>
   if u7 o.op=true then (if ((kp&&wB σk o.op (di G e.get))||sx lo ops i)=true then (match mL P run o.op (di G e.get) (σp++acc) (base+4*i) with
    | some (v,σ')=>fV v fun v=>xH σ' fun σ'=>ik P G run lo σk ops base (i+1) r (kp&&wB σk o.op (di G e.get)) (e.putO o.dst v) σ' []
    | none=>bn o.pos) else bn o.pos)
   else if cp o.op=true then (match l7 P run lo ops i o.op (di G e.get) σp acc (base+4*i) with
    | some (true,v,new)=>fV v fun v=>ik P G run lo σk ops base (i+1) r kp (e.putO o.dst v) σp (acc++new)
    | some (false,v,σ')=>if ((kp&&Ld σk (σp++acc) o.op (di G e.get))||sx lo ops i)=true then (fV v fun v=>ik P G run lo σk ops base (i+1) r (kp&&Ld σk (σp++acc) o.op (di G e.get)) (e.putO o.dst v) σ' []) else bn o.pos
    | none=>bn o.pos)
   else if lo.contains i=true then (match o8 P o.op (di G e.get) σk (base+4*i) with
    | some (v,[])=>fV v fun v=>ik P G run lo σk ops base (i+1) r kp (e.putO o.dst v) σp acc
    | _=>bn o.pos)
   else (match o8 P o.op (di G e.get) σp (base+4*i) with
    | some (v,new)=>fV v fun v=>ik P G run lo σk ops base (i+1) r kp (e.putO o.dst v) σp (acc++new)
    | none=>bn o.pos)
  | some (false,e)=>ik P G run lo σk ops base (i+1) r kp (e.putO o.dst (.tup [])) σp acc
  | none=>bn o.pos
def Nl (op:Op):Bool:=match op with
 | .load _ _=>true
 | _=>false
def IH (B:List Nat) (i:Nat):Nat→List Oper→Bool
 | _,[]=>false
 | j,o::r=>((u7 o.op||cp o.op) && !(B.getD j 0).testBit i && !(B.getD i 0).testBit j)||IH B i (j+1) r
def Np (ops:Array Oper) (lds:List (Nat × Option Nat)):List Nat:=(lds.map (·.1)).filter fun i=>IH (jq [] ops.toList) i 0 ops.toList
def QQ (ops:Array Oper) (lds:List (Nat × Option Nat)) (σ:ae):List Nat:=(σ.map (·.1)).filter fun k=> !((lds.filter fun x=>IH (jq [] ops.toList) x.1 0 ops.toList).any fun x=>x.2==some k)
def HV (P:Program) (G:Gl) (run:Ap) (ops:Array Oper) (st:St):Option (aC × ae):=
 if bM [] ops=true∧((ops.toList.any fun o=>cp o.op)&&ops.toList.any fun o=>Nl o.op)=false then ij P G run ops st.nx 0 ops.toList st.env st.sg []
 else match wr P G ops st.nx 0 ops.toList st.env st.sg [] [] false with
 | some (ids,lds,oc)=>if bM [] ops=true∧oc=false then ij P G run ops st.nx 0 ops.toList st.env st.sg []
  else if bM (Kj ids lds) ops=true∧qs (Kj ids lds) 0 ops.toList=true then ik P G run (Kj ids lds) (FT ids st.sg) ops st.nx 0 ops.toList true st.env st.sg []
  else if bM (Np ops lds) ops=true∧qs (Np ops lds) 0 ops.toList=true then ik P G run (Np ops lds) (FT (QQ ops lds st.sg) st.sg) ops st.nx 0 ops.toList true st.env st.sg []
  else bn ((ops.toList.head?).elim "draw" fun o=>o.pos)
 | none=>none
def IX:Value→Value→Bool
 | .int k n,.int k' n'=>decide (k=k')&&decide (n=n')
 | .bool a,.bool b=>a==b
 | .string a,.string b=>a.data.toList==b.data.toList
 | .pointer none,.pointer none=>true
 | .slice none 0 0,.slice none 0 0=>true
 | .nilIface,.nilIface=>true
 | _,_=>false
mutual
def Ck:D→D→Bool
 | .lit a,.lit b=>IX a b
 | .agg a,.agg b=>sR a b
 | .sd k f a,.sd k' f' b=>k==k'&&f==f'&&sR a b
 | .pd k a i j,.pd k' b i' j'=>k==k'&&i==i'&&j==j'&&sR a b
 | .fn f a,.fn g b=>f==g&&sR a b
 | .ifc t a,.ifc u b=>t==u&&Ck a b
 | .bf f a,.bf g b=>f==g&&sR a b
 | _,_=>false
def sR:List D→List D→Bool
 | [],[]=>true
 | x::xs,y::ys=>Ck x y&&sR xs ys
 | _,_=>false
end
def Ki:List V→List D→Bool
 | [],[]=>true
 | .d x::xs,y::ys=>Ck x y&&Ki xs ys
 | _,_=>false
abbrev sq:=List (Nat × List D × V)
def orc:sq→Nat→List V→Option V
 | [],_,_=>none
 | (g,az,r)::t,f,args=>match Nat.beq g f with
  | true=>(match Ki args az with
   | true=>some r
   | false=>orc t f args)
  | false=>orc t f args
structure xc where
 fn:Nat→Bool
 trim:Bool:=false
 orc:sq:=[]
instance:CoeFun xc (fun _=>Nat→Bool):=⟨xc.fn⟩
def JI (M:xc) (f:Nat) (args:List V) (σ:ae) (m:Nat):Option V:=match σ,m with
 | [],0=>orc M.orc f args
 | _,_=>none
def zI (M:xc) (g:Operand→V) (op:Op):List V:=match op with
 | .buildSlice _ _ ps=>ps.toList.map fun p=>g p.2
 | .makeInterface _ x=>[g x]
 | .store _ a x=>(match g a with
  | .pe _ _ _ _=>[g x]
  | _=>[])
 | .call c=>(match c.callee with
  | .value f=>(match g f with
   | .d (.fn k _)=>if M k=true then [] else c.args.toList.map g
   | .fn k caps=>if M k=true then [] else c.args.toList.map g++caps
   | .d (.bf k _)=>if M k=true then [] else c.args.toList.map g
   | _=>[])
  | _=>[])
 | _=>[]
def Jp (M:xc) (g:Operand→V) (ops:List Oper):List V:=ops.flatMap fun o=>zI M g o.op
def vr (P:Program) (G:Gl) (M:xc) (ops:Array Oper) (base:Nat):Nat→List Oper→aC→ae→List V→List V
 | _,[],_,_,acc=>acc
 | i,o::r,e,σ,acc=>match jw ops o e with
  | some (true,e)=>(match mL P H8 o.op (di G e.get) σ (base+4*i) with
   | some (v,σ')=>fV v fun v=>xH σ' fun σ'=>vr P G M ops base (i+1) r (e.putO o.dst v) σ' (zI M (di G e.get) o.op++acc)
   | none=>vr P G M ops base (i+1) r (e.putO o.dst .unk) σ (zI M (di G e.get) o.op++acc))
  | some (false,e)=>vr P G M ops base (i+1) r (e.putO o.dst (.tup [])) σ acc
  | none=>vr P G M ops base (i+1) r (e.putO o.dst .unk) σ (zI M (di G e.get) o.op++acc)
def Nm (op:Op):Bool:=match op with
 | .buildSlice _ _ _=>true
 | .makeInterface _ _=>true
 | .call c=>(match c.callee with
  | .value _=>true
  | _=>false)
 | _=>false
def La (P:Program) (G:Gl) (M:xc) (ops:Array Oper) (st:St):List V:=
 if (ops.toList.any fun o=>Nm o.op)=true then vr P G M ops st.nx 0 ops.toList st.env st.sg [] else Jp M (di G st.env.get) ops.toList
def eW:Nat→List Nat→St→St
 | 0,_,st=>st
 | _,[],st=>st
 | n+1,i::r,st=>match st.sg.get i with
  | some (.cell cs _)=>eW n r ((eW n (oz [] cs) st).frz i)
  | some _=>eW n r (st.frz i)
  | none=>eW n r st
def ML (i m:Nat):V→Nat
 | .so j _ lo n=>if j=i then Nat.max m (lo+n) else m
 | .pe j _ a _=>if j=i then Nat.max m (a+1) else m
 | _=>m
def PL (i m:Nat):V→Nat
 | .agg l=>l.foldl (ML i) m
 | .tup l=>l.foldl (ML i) m
 | .fn _ l=>l.foldl (ML i) m
 | v=>ML i m v
def PK (i:Nat):aC→Nat→Nat
 | [],m=>m
 | (_,v)::r,m=>PK i r (PL i m v)
def Nq (i:Nat):ae→Nat→Nat
 | [],m=>m
 | (_,.cell cs _)::r,m=>Nq i r (cs.foldl (PL i) m)
 | _::r,m=>Nq i r m
def mN (e:aC) (σ:ae):ae→ae
 | []=>[]
 | (i,.row k es ty)::r=>fN (Nq i σ (PK i e 0)) fun m=>if m<es.length then fL (es.take m) fun es=>(i,.row k es ty)::mN e σ r else (i,.row k es ty)::mN e σ r
 | x::r=>x::mN e σ r
def K0 (op:Op):Bool:=match op with
 | .call c=>(match c.callee with
  | .builtin .append=>true
  | _=>false)
 | _=>false
def EQ (M:xc) (ops:Array Oper) (st:St):St:=if M.trim=true then (if (ops.toList.any fun o=>K0 o.op)=true then ⟨st.env,mN st.env st.sg st.sg,st.nx⟩ else st) else st
def keepM:Nat→aC→aC
 | _,[]=>[]
 | m,(k,v)::r=>if Nat.testBit m k=true then (k,v)::keepM (m ^^^ 2 ^ k) r else keepM m r
def JR (P:Program) (G:Gl) (M:xc) (run:Ap) (lm:Nat) (ops:Array Oper) (draw:Bool) (st:St):Option (Exit × St):=
 match (match draw with
  | true=>HV P G run ops st
  | false=>BH P G run ops st.nx 0 ops.toList st.env st.sg) with
 | some (e,σ)=>fN (st.nx+4*ops.size) fun nx=>some (.normal,⟨keepM lm e,σ,nx⟩)
 | none=>none
def we (P:Program):List ResultVar→St→Option (List V)
 | [],_=>some []
 | .tmp t::r,st=>(we P r st).map fun vs=>st.env.get t::vs
 | .cell a t::r,st=>match vj P t (st.env.get a) st.sg with
  | some v=>(we P r st).map fun vs=>v::vs
  | none=>none
def zc (P:Program) (M:xc) (rs:List ResultVar) (f m:Nat) (st:St):Option (V × ae):=
 match we P rs st with
 | none=>bn "result"
 | some vs0=>
  let st:=if M f=true then st else eW 50 (oz [] vs0) st
  match we P rs st with
  | none=>bn "result"
  | some vs=>
   let l:=Gk m (dQ st.sg (vs++(List.range m).map fun i=> .po i 0))
   if l.length≤4 then some ((m5 vs).sel (iF m l),st.sg.sel (iF m l)) else bn "names"
def DP (x:Operand) (m:Nat):Nat:=match x with
 | .tmp t=>m ||| 2 ^ t
 | _=>m
def H5:List Oper→Nat→Nat→Nat
 | [],_,m=>m
 | o::r,d,m=>H5 r (match o.dst with|some t=>d ||| 2 ^ t|none=>d)
  (m ||| ((o.op.operands.toList.foldr DP 0) &&& (d ^^^ (2 ^ 600 - 1))))
def jh:Code→Nat→Nat
 | .region _ ops _,m=>H5 ops.toList 0 m
 | .seq a b,m=>jh b (jh a m)
 | .cond c a b,m=>jh b (jh a (DP c m))
 | .block _ c,m=>jh c m
 | .loop c,m=>jh c m
 | .scope c,m=>jh c m
 | .rangeFunc g _ a c,m=>DP g (jh a (jh c m))
 | _,m=>m
def DO:List ResultVar→Nat→Nat
 | [],m=>m
 | .tmp t::r,m=>DO r (m ||| 2 ^ t)
 | .cell t _::r,m=>DO r (m ||| 2 ^ t)
def H4 (fn:Func) (c:Code):Nat:=fN (DO fn.results.toList (jh c 0)) id
abbrev db:=Nat→Nat→Code→St→Option (Exit × St)
def KC:Nat:=2 ^ 600 - 1
def JT (ih:db):Ft:=fun i args σ id=>match σ.get i with
 | some (.rc y none e)=>
  if i<id∧y.ps.toList.all (fun p=>decide (p<y.n))=true∧args.length=y.ps.size∧lF y.asg=true∧lF y.body=true∧aE y.n y.asg=true∧aE y.n y.body=true then
   (match ih y.n KC y.asg ⟨g8 y.ps.toList (args.map (V.sel (gL id))) (e.sel (gL id)),(σ.del i).sel (gL id),id⟩ with
   | some (.normal,st1)=>(match ih y.n KC y.body st1 with
    | some (ex,st2)=>(match (match ex with
     | .normal=>some none
     | .ret=>some (some Code.ret)
     | .exit k=>some (some (Code.exit k))
     | _=>none) with
     | some j=>if (Gk id (dQ st2.sg ((σ.filter fun p=>decide (p.1<id)).map fun p=> .po p.1 0))).length≤4 then
      some (.d (.lit (.bool j.isNone)),(i,.rc y j e)::st2.sg.sel (jG σ id (Gk id (dQ st2.sg ((σ.filter fun p=>decide (p.1<id)).map fun p=> .po p.1 0))))) else bn "names of a round"
     | none=>none)
    | none=>none)
   | _=>none) else bn "round"
 | _=>bn "no round"
def GM (st st':St):Option (Exit × St):=match st'.sg.get st.nx with
 | some (.rc _ none _)=>some (.normal,⟨st.env,st'.sg.del st.nx,st'.nx⟩)
 | some (.rc _ (some .ret) _)=>some (.ret,⟨st.env,st'.sg.del st.nx,st'.nx⟩)
 | some (.rc _ (some (.exit k)) _)=>some (.exit k,⟨st.env,st'.sg.del st.nx,st'.nx⟩)
 | _=>bn "behind a loop"
def JU (P:Program) (ih:db) (n:Nat) (ps:Array Nat) (asg body:Code) (st:St) (k:Nat) (caps:List V):Option (Exit × St):=match P.funcs[k]? with
 | none=>none
 | some fn=>match fn.body with
  | none=>none
  | some c=>if bN P k=true∧fn.results.toList.isEmpty=true∧caps.length+1≤fn.ntmps∧aE fn.ntmps c=true then
   (match ih fn.ntmps (H4 fn c) c ⟨fg 0 (.yl st.nx::caps),(st.nx,.rc ⟨n,ps,asg,body⟩ none st.env)::st.sg,st.nx+1⟩ with
   | some (.normal,st')=>GM st st'
   | some (.ret,st')=>GM st st'
   | _=>none) else bn fn.name
def Gj (P:Program) (M:xc) (code:db) (f:Nat) (args:List V) (σ:ae) (m:Nat):Option (V × ae):=match JI M f args σ m with
 | some v=>some (v,[])
 | none=>match P.funcs[f]? with
 | none=>none
 | some fn=>match fn.body with
  | none=>none
  | some c=>if aE fn.ntmps c=true∧args.length≤fn.ntmps then
   (match code fn.ntmps (H4 fn c) c (if M f=true then ⟨fg 0 args,σ,m⟩ else eW 50 (List.range m) ⟨fg 0 args,σ,m⟩) with
   | some (.normal,st)=>zc P M fn.results.toList f m st
   | some (.ret,st)=>zc P M fn.results.toList f m st
   | _=>bn fn.name) else bn fn.name
def CN (P:Program) (G:Gl) (M:xc) (ih:db) (n lm:Nat) (c:Code) (st:St):Option (Exit × St):=match c with
 | .skip=>some (.normal,st)
 | .region _ ops draw=>JR P G M ⟨Gj P M ih,JT ih⟩ lm ops draw (EQ M ops (eW 50 (oz [] (La P G M ops st)) st))
 | .seq a b=>(match ih n lm a st with
  | some (.normal,st)=>ih n lm b st
  | r=>r)
 | .cond c a b=>(match di G st.env.get c with
  | .d (.lit (.bool true))=>ih n lm a st
  | .d (.lit (.bool false))=>ih n lm b st
  | _=>none)
 | .block id c=>(match ih n lm c st with
  | some (.exit i,st)=>if i=id then some (.normal,st) else some (.exit i,st)
  | r=>r)
 | .loop c=>(match ih n lm c st with
  | some (.normal,st)=>ih n lm (.loop c) st
  | r=>r)
 | .exit id=>some (.exit id,st)
 | .ret=>some (.ret,st)
 | .label _=>some (.normal,st)
 | .rangeFunc g ps a c=>sD (di G st.env.get g) fun k caps=>JU P ih n ps a c st k caps
 | .scope c=>(match ih n lm c st with
  | some (.goto _,_)=>none
  | r=>r)
 | _=>none
def CZ (P:Program) (G:Gl) (M:xc):Nat→db
 | 0=>fun _ _ _ _=>bn "fuel"
 | n+1=>CN P G M (CZ P G M n)
def JW (P:Program) (G:Gl) (M:xc) (n:Nat):Ft:=Gj P M (CZ P G M n)
end Go.Proofs.YtkkanlcjjpoklaaGreatDoor
set_option linter.unusedSimpArgs false
set_option linter.unusedVariables false
namespace Go.Proofs.YtkkanlcjjpoklaaGreatDoor
theorem zq {α:Type} (n:Nat) (k:Nat→α):fN n k=k n:=by cases n<;>rfl
theorem KQ {α:Type} (i:Int) (k:Int→α):fI i k=k i:=by cases i<;>simp [fI,zq]
theorem KO {α:Type} (b:Bool) (k:Bool→α):fB b k=k b:=by cases b<;>rfl
theorem Ge {α:Type} (v:Value) (k:Value→α):I0 v k=k v:=by unfold I0;split<;>simp [KQ,KO]
theorem KP {α:Type} (x:D) (k:D→α):fD x k=k x:=by unfold fD;split<;>simp [Ge]
theorem jf {α:Type} (v:V) (k:V→α):fV v k=k v:=by unfold fV;split<;>simp [KP,zq]
theorem HY {α:Type} (l:List D) (k:List D→α):fL l k=k l:=by
 induction l generalizing k with
 | nil=>rfl
 | cons x r ih=>simp [fL,ih]
theorem Gb {α:Type} (b:bu) (k:bu→α):IZ b k=k b:=by unfold IZ;split<;>simp [HY]
theorem sU {α:Type} (σ:ae) (k:ae→α):xH σ k=k σ:=by unfold xH;split<;>simp [Gb]
section
variable {P:Program} {g:Operand→V} {σ:ae} {id:Nat}
theorem vA {o:BinOp} {t:Nat} {cst:Bool} {x y:V} {p:Prop} {v:V} (h:DZ P o t x y=true) (hr:ql P o t cst x y=some (p,v)):p:=by
 unfold ql at hr;split at hr
 ·have h':zN o _=true:=h;split at hr
  ·cases o<;>simp only [iH,reduceCtorEq,Option.some.injEq,Prod.mk.injEq] at hr<;>(obtain ⟨rfl,_⟩:=hr;simpa [zN] using h')
  ·split at hr
   ·cases o<;>simp only [oD,reduceCtorEq,Option.some.injEq,Prod.mk.injEq] at hr<;>(obtain ⟨rfl,_⟩:=hr;first|trivial|simpa [zN] using h')
   ·cases hr
 ·have h':mw o _ _=true:=h;cases o<;>simp only [lX,reduceCtorEq,Option.some.injEq,Prod.mk.injEq] at hr<;>(obtain ⟨rfl,_⟩:=hr;first|trivial|simpa [mw] using h')
 ·have key : ∀q,IW P t cst x y=some q→q.1:=by
   intro q hq;unfold IW at hq;split at hq
   ·split at hq
    ·split at hq
     ·injection hq with hq;subst hq;rename_i ks ks' vs us h1 h2 h3 h4 hs;simp only [DZ,h1] at h;unfold Le at h;split at h
      ·rename_i k1 k2 e1 e2;injection e2 with e2;subst e2;have:=fR h;subst this;exact ue.of e1
      ·cases h
     ·cases hq
    ·cases hq
   ·split at hq
    ·injection hq with hq;subst hq;trivial
    ·cases hq
   ·split at hq
    ·injection hq with hq;subst hq;trivial
    ·cases hq
   ·split at hq
    ·simp only [Option.map_eq_some_iff] at hq;obtain ⟨b,_,rfl⟩:=hq;trivial
    ·cases hq
  split at hr
  ·simp only [Option.map_eq_some_iff] at hr;obtain ⟨q,hq,e⟩:=hr;injection e with e1 _;subst e1;exact key q hq
  ·simp only [Option.map_eq_some_iff] at hr;obtain ⟨q,hq,e⟩:=hr;injection e with e1 _;subst e1;exact key q hq
  ·cases hr
theorem dy {i:V} {n:Nat} {k:Int} (h:JA i n=true) (hk:i9 i=some k):0≤k∧k<n:=by
 simpa [JA,hk] using h
theorem yq {t:Nat} {x:V} {lo hi mx:Option V} {p:Prop} {v:V} (h:JB x lo hi mx=true) (hr:Ii P t x lo hi mx=some (p,v)):p:=by
 unfold Ii at hr;unfold JB at h;split at hr
 ·rename_i lo' hi' mx' e1 e2 e3;simp only [e1,e2,e3] at h;split at hr
  ·split at hr
   ·rename_i hc;injection hr with hr;injection hr with hr _;subst hr;simp [Kn,hc.2] at h;omega
   ·cases hr
  ·split at hr
   ·split at hr
    ·simp [Kn] at h;split at hr<;>first
      | (injection hr with hr;injection hr with hr _;subst hr;first|trivial|(simp at h;omega))
      | cases hr
    ·cases hr
   ·cases hr
  ·split at hr
   ·split at hr
    ·rename_i hc;injection hr with hr;injection hr with hr _;subst hr;simp [Kn,hc.2] at h;omega
    ·cases hr
   ·cases hr
  ·cases hr
 ·cases hr
theorem yo {t:Nat} {a i:V} {n:Int} {p:Prop} {v:V} (h:D0 P t a i=true) (hn:i9 i=some n) (hr:xV P t a n=some (p,v)):p:=by
 unfold xV at hr;split at hr
 ·split at hr
  ·injection hr with hr;injection hr with hr _;subst hr;exact dy h hn
  ·cases hr
 ·split at hr
  ·injection hr with hr;injection hr with hr _;subst hr;exact dy h hn
  ·cases hr
 ·split at hr
  ·rename_i len s _ ha;split at hr
   ·injection hr with hr;injection hr with hr _;subst hr;simp only [D0,ha] at h;exact dy h hn
   ·injection hr with hr;injection hr with hr _;subst hr;simp only [D0,ha] at h;exact dy h hn
   ·injection hr with hr;injection hr with hr _;subst hr;simp only [D0,ha] at h;exact dy h hn
   ·cases hr
  ·cases hr
theorem yn {t:Nat} {a i:V} {n:Int} {p:Prop} {v:V} (h:Jy P t a i=true) (hn:i9 i=some n) (hr:oA P t a n=some (p,v)):p:=by
 unfold oA at hr;split at hr
 ·split at hr
  ·injection hr with hr;injection hr with hr _;subst hr;exact dy h hn
  ·cases hr
 ·split at hr
  ·rename_i len s ag ha;simp only [Option.map_eq_some_iff] at hr;obtain ⟨y,_,e⟩:=hr;injection e with e _;subst e;simp only [Jy,ha] at h;exact dy h hn
  ·cases hr
 ·cases hr
theorem jv {k:Nat} {x:D} (h:A5 k x=true):Cw k x:=by
 simpa [A5,Cw] using h
theorem vH {k:Nat} : ∀ {es:List D},es.all (A5 k)=true→fX k es
 | [],_=>trivial
 | x::r,h=>by
  simp only [List.all_cons,Bool.and_eq_true] at h;exact ⟨jv h.1,vH h.2⟩
theorem gn {k:Nat} {x:V} {p:Prop} {new:List D} (h:ym σ x=true) (hr:dM k σ x=some (p,new)):p:=by
 unfold dM at hr;split at hr
 ·split at hr
  ·injection hr with hr;injection hr with hr _;subst hr;trivial
  ·cases hr
 ·injection hr with hr;injection hr with hr _;subst hr;trivial
 ·injection hr with hr;injection hr with hr _;subst hr;trivial
 ·split at hr
  ·rename_i hg;split at hr
   ·injection hr with hr;injection hr with hr _;subst hr;simpa [ym,hg] using h
   ·cases hr
  ·cases hr
 ·split at hr
  ·injection hr with hr;injection hr with hr _;subst hr;trivial
  ·cases hr
 ·cases hr
theorem lH {n b:Nat} (h:Lf n b=true):dT n b:=by simpa [Lf,dT] using h
theorem Jt {t t':Nat} {s x:V} {p:Prop} {v:V} {new:ae} (h:DX P t s x σ=true) (hr:nI P t t' s x σ id=some (p,v,new)):p:=by
 unfold nI at hr;split at hr
 ·rename_i k bytes ha;split at hr
  ·split at hr
   ·rename_i p' es' he;simp only [DX,ha,he,Bool.and_eq_true] at h;have hp:=gn h.1 he;split at hr
    ·injection hr with hr;injection hr with hr _;subst hr;exact ⟨hp,lH h.2⟩
    ·split at hr
     ·injection hr with hr;injection hr with hr _;subst hr;simp only [DY,Bool.and_eq_true,Bool.or_eq_true,List.isEmpty_iff,Bool.not_eq_true',List.isEmpty_eq_false_iff] at h;exact ⟨hp,by rw [List.length_append];exact lH h.2.1,h.2.2⟩
     ·cases hr
    ·cases hr
   ·cases hr
  ·cases hr
 ·cases hr
theorem Ju {t t':Nat} {s x:V} {p:Prop} {v:V} {s':ae} (h:DX P t s x σ=true) (hr:qk P t t' s x σ id=some (p,v,s')):p:=by
 unfold qk at hr;split at hr
 ·rename_i k bytes i0 k0 lo n ha;split at hr
  ·split at hr
   ·rename_i k' es p' new hg he;split at hr
    ·injection hr with hr;injection hr with hr _;subst hr;simp only [DX,ha,he,DY,hg,Bool.and_eq_true,decide_eq_true_eq] at h;exact ⟨gn h.1 he,h.2.1.1,h.2.1.2,by rw [List.length_append];exact lH h.2.2⟩
    ·cases hr
   ·cases hr
  ·cases hr
 ·cases hr
theorem yh {t t':Nat} {d x:V} {p:Prop} {v:V} {s':ae} (h:Jw d x σ=true) (hr:HU P t t' d x σ=some (p,v,s')):p:=by
 unfold HU at hr;simp only [Jw,Bool.and_eq_true] at h;split at hr
 ·split at hr
  ·split at hr
   ·rename_i k' es p' new hg he;split at hr
    ·injection hr with hr;injection hr with hr _;subst hr;have h2:=h.2;simp [ym,hg] at h2;exact ⟨gn h.1 he,h2⟩
    ·cases hr
   ·cases hr
  ·cases hr
 ·cases hr
theorem yj {s d:Nat} {x:V} {p:Prop} {v:V} {s':ae} (h:Jx P s x σ=true) (hr:Kb P s d x σ=some (p,v,s')):p:=by
 unfold Kb at hr;split at hr
 ·rename_i hc;simp only [Bool.and_eq_true] at hc;split at hr
  ·rename_i p' es he;injection hr with hr;injection hr with hr _;subst hr;simp only [Jx,hc.1.1,if_true,he,Bool.and_eq_true,List.all_eq_true] at h;refine ⟨gn h.1 he,fun y hy =>?_⟩;have:=h.2 y hy;unfold nl at this;split at this
   ·exact ⟨_,rfl⟩
   ·cases this
  ·cases hr
 ·cases hr
theorem yr {t:Nat} {a x:V} {p:Prop} {v:V} {s':ae} (h:JC P t a x σ=true) (hr:EG P t a x σ=some (p,v,s')):p:=by
 unfold EG at hr;split at hr
 ·split at hr
  ·split at hr
   ·injection hr with hr;injection hr with hr _;subst hr;trivial
   ·cases hr
  ·cases hr
 ·rename_i s _ i k ix j hl;split at hr
  ·rename_i hg;simp only [JC,hl,hg,Bool.and_eq_true,decide_eq_true_eq] at h;split at hr
   ·split at hr
    ·rename_i hc;injection hr with hr;injection hr with hr _;subst hr;rw [if_pos hc] at h;exact ⟨h.1,jv h.2⟩
    ·rename_i hc;split at hr
     ·injection hr with hr;injection hr with hr _;subst hr;rw [if_neg hc] at h;exact ⟨h.1,jv h.2⟩
     ·cases hr
   ·cases hr
  ·cases hr
 ·cases hr
theorem GT {op:Op} {p:Prop} {v:V} (h:xg P op g σ=true) (hr:bD P op g=some (p,v)):p:=by
 have T : ∀ {q:Option (Prop × V)},q=some (p,v)→(∀y,q=some y→y.1)→p:=fun e k=>k _ e
 unfold bD at hr;split at hr;case h_1=>injection hr with hr;injection hr with hr _;subst hr;trivial
 case h_2=>injection hr with hr;injection hr with hr _;subst hr;trivial
 case h_3=>
  unfold jA at hr;split at hr<;>first|(injection hr with hr;injection hr with hr _;subst hr;trivial)|cases hr
 case h_4=>exact vA h hr
 case h_5=>
  unfold J5 at hr;split at hr<;>first|(injection hr with hr;injection hr with hr _;subst hr;trivial)|cases hr
 case h_6=>
  unfold IS at hr;split at hr
  ·cases hr
  ·split at hr<;>first|(injection hr with hr;injection hr with hr _;subst hr;trivial)|cases hr
 case h_7=>
  unfold Jo at hr;split at hr<;>first|(injection hr with hr;injection hr with hr _;subst hr;trivial)|cases hr
 case h_8=>
  unfold Kl at hr;split at hr
  ·split at hr
   ·split at hr
    ·split at hr<;>(injection hr with hr;injection hr with hr _;subst hr;trivial)
    ·cases hr
   ·split at hr
    ·simp only [Option.map_eq_some_iff] at hr;obtain ⟨_,_,e⟩:=hr;injection e with e _;subst e;trivial
    ·cases hr
  ·cases hr
 case h_9=>exact yq h hr
 case h_10=>
  unfold I4 at hr;split at hr
  ·split at hr
   ·cases hr
   ·split at hr<;>first|(injection hr with hr;injection hr with hr _;subst hr;trivial)|cases hr
  ·cases hr
 case h_11=>
  unfold I5 at hr;split at hr
  ·split at hr<;>first|(simp only [Option.map_eq_some_iff] at hr;obtain ⟨_,_,e⟩:=hr;injection e with e _;subst e;trivial)|cases hr
  ·cases hr
 case h_12=>
  split at hr
  ·rename_i n hn;exact yo h hn hr
  ·cases hr
 case h_13=>
  split at hr
  ·rename_i n hn;exact yn h hn hr
  ·cases hr
 case h_14=>
  unfold J4 at hr;split at hr
  ·cases hr
  ·cases hr
  ·split at hr
   ·split at hr
    ·injection hr with hr;injection hr with hr _;subst hr;trivial
    ·split at hr
     ·simp only [Option.map_eq_some_iff] at hr;obtain ⟨_,_,e⟩:=hr;injection e with e _;subst e;trivial
     ·cases hr
   ·split at hr
    ·simp only [Option.map_eq_some_iff] at hr;obtain ⟨_,_,e⟩:=hr;injection e with e _;subst e;trivial
    ·cases hr
   ·cases hr
 case h_15=>
  unfold IY at hr;split at hr
  ·simp only [Option.map_eq_some_iff] at hr;obtain ⟨_,_,e⟩:=hr;injection e with e _;subst e;trivial
  ·cases hr
 case h_16=>
  unfold IB at hr;split at hr
  ·simp only [Option.map_eq_some_iff] at hr;obtain ⟨_,_,e⟩:=hr;injection e with e _;subst e;trivial
  ·cases hr
 case h_17=>
  unfold gU at hr;split at hr
  ·unfold oJ at hr;split at hr
   ·split at hr<;>first|(injection hr with hr;injection hr with hr _;subst hr;trivial)|cases hr
   ·split at hr<;>first|(injection hr with hr;injection hr with hr _;subst hr;trivial)|cases hr
   ·cases hr
  ·unfold GH at hr;split at hr<;>first|(injection hr with hr;injection hr with hr _;subst hr;trivial)|cases hr
  ·unfold GH at hr;split at hr<;>first|(injection hr with hr;injection hr with hr _;subst hr;trivial)|cases hr
  ·unfold yS at hr;repeat' split at hr
   all_goals first|(injection hr with hr;injection hr with hr _;subst hr;trivial)|cases hr
  ·unfold yc at hr;split at hr<;>first|(injection hr with hr;injection hr with hr _;subst hr;trivial)|cases hr
  ·unfold yc at hr;split at hr<;>first|(injection hr with hr;injection hr with hr _;subst hr;trivial)|cases hr
  ·cases hr
 case h_18=>cases hr
theorem CF {op:Op} {p:Prop} {v:V} {new:ae} (h:xg P op g σ=true) (hr:aR P op g σ id=some (p,v,new)):p:=by
 unfold aR at hr;split at hr
 ·split at hr
  ·split at hr
   ·injection hr with hr;injection hr with hr _;subst hr;trivial
   ·cases hr
  ·cases hr
 ·split at hr
  ·injection hr with hr;injection hr with hr _;subst hr;trivial
  ·cases hr
 ·split at hr
  ·rename_i k _ es ha hs;split at hr
   ·injection hr with hr;injection hr with hr _;subst hr;have h':Jv P _ _=true:=h;simp only [Jv,ha,hs] at h';exact vH h'
   ·cases hr
  ·cases hr
 ·split at hr
  ·injection hr with hr;injection hr with hr _;subst hr;trivial
  ·cases hr
 ·split at hr
  ·rename_i l' c' k bytes z h1 h2 h3;injection hr with hr;injection hr with hr _;subst hr;have h':Jz P _ _ _=true:=h;simp [Jz,h1,h2,h3] at h';omega
  ·cases hr
 ·split at hr
  ·rename_i c s x t t' e1 e2 e3;simp only [xg,lG,e1,e2,e3] at h;exact Jt h hr
  ·cases hr
 ·injection hr with hr;injection hr with hr _;subst hr;trivial
 ·cases hr
theorem yt {t:Nat} {x n:V} {p:Prop} {v:V} {s':ae} (h:JD x n σ=true) (hr:HA P t x n σ=some (p,v,s')):p:=by
 unfold HA at hr;split at hr
 ·injection hr with hr;injection hr with hr _;subst hr;trivial
 ·split at hr
  ·rename_i hg;split at hr
   ·injection hr with hr;injection hr with hr _;subst hr;simp only [JD,hg] at h;intro y hy;have h1:=List.all_eq_true.1 h y hy;unfold nl at h1;split at h1
    ·exact ⟨_,rfl⟩
    ·cases h1
   ·cases hr
  ·cases hr
 ·cases hr
theorem IU {op:Op} {p:Prop} {v:V} {s':ae} (h:xg P op g σ=true) (hr:eR P op g σ id=some (p,v,s')):p:=by
 unfold eR at hr;split at hr
 ·exact yr h hr
 ·unfold Kg at hr;split at hr
  ·rename_i r hu;injection hr with hr;subst hr;unfold EV at hu;repeat' split at hu
   all_goals first|(injection hu with hu;injection hu with hu _;subst hu;trivial)|cases hu
  ·exact yj h hr
 ·split at hr
  ·rename_i c s x t t' e1 e2 e3;simp only [xg,lG,e1,e2,e3] at h;exact Ju h hr
  ·rename_i c d x t t' e1 e2 e3;simp only [xg,lG,e1,e2,e3] at h;exact yh h hr
  ·rename_i c x n t t' e1 e2 e3;simp only [xg,lG,e1,e2,e3] at h;exact yt h hr
  ·rename_i c x t e1 e2 e3;simp only [xg,lG,e1,e2,e3] at h;unfold IK at hr;repeat' split at hr
   all_goals first
    | (injection hr with hr;injection hr with hr _;subst hr;trivial)
    | (cases hr;done)
    | (injection hr with hr;injection hr with hr _;subst hr;simp_all;done)
  ·cases hr
 ·simp only [xg,Option.isNone_iff_eq_none] at h;unfold K8 at hr;repeat' split at hr
  all_goals first|(injection hr with hr;injection hr with hr _;subst hr;trivial)|(cases hr;done)|(simp [K9,h] at hr;done)
 ·simp only [xg,Option.isNone_iff_eq_none] at h;unfold K5 at hr;repeat' split at hr
  all_goals first|(injection hr with hr;injection hr with hr _;subst hr;trivial)|(cases hr;done)|(simp [K6,h] at hr;done)
 ·cases hr
theorem o9 {op:Op} {p:Prop} {v:V} {new:ae} (h:xg P op g σ=true) (hr:aW P op g σ id=some (p,v,new)):p:=by
 unfold aW at hr;split at hr
 ·rename_i h1;injection hr with hr;injection hr with hr _;subst hr;exact GT h h1
 ·exact CF h hr
theorem Hg {op:Op} {p:Prop} {v:V} {s':ae} (h:xg P op g σ=true) (hr:cz P op g σ id=some (p,v,s')):p:=by
 unfold cz at hr;split at hr
 ·rename_i h1;injection hr with hr;injection hr with hr _;subst hr;exact o9 h h1
 ·exact IU h hr
end
section
variable {P:Program} {G:Gl} {run:Ap} {g:Operand→V} {σ:ae} {id:Nat}
def mc (P:Program) (G:Gl) (run:Ap):Prop:=(∀f args σ m r σ',run.call f args σ m=some (r,σ')→aq P G f args σ m r σ') ∧ ∀i args σ id v σ',run.rnd i args σ id=some (v,σ')→md P G i args σ id v σ'
theorem pT {o:BinOp} {t:Nat} {cst:Bool} {a b:ByteArray} {v:V} (h:EH o a b=some v) : ∃p,ql P o t cst (.d (.lit (.string a))) (.d (.lit (.string b)))=some (p,v)∧(mw o a b=true→p):=by
 have e1:(⟨⟨a.data.toList++b.data.toList⟩⟩:ByteArray)=a++b:=by
  apply ByteArray.ext;rw [ByteArray.data_append];apply Array.toList_inj.1;simp
 have e2:(a.data.toList==b.data.toList)=(a.toList==b.toList):=by
  rw [ByteArray.toList_eq,ByteArray.toList_eq]
 cases o<;>simp only [EH,reduceCtorEq,Option.some.injEq] at h<;>subst h<;>simp only [ql,lX,Option.some.injEq,Prod.mk.injEq]
 ·exact ⟨_,⟨rfl,by rw [e1]⟩,fun h=>by simpa [mw] using h⟩
 ·exact ⟨_,⟨rfl,by rw [e2]⟩,fun _=>trivial⟩
 ·exact ⟨_,⟨rfl,by rw [e2]⟩,fun _=>trivial⟩
theorem sc {op:Op} {o:BinOp} {a b:ByteArray} (h:ES op g=some (o,a,b)) : ∃t x y u,op = .binOp o t x y u∧g x = .d (.lit (.string a))∧g y = .d (.lit (.string b)):=by
 unfold ES at h;split at h
 ·split at h
  ·split at h
   ·rename_i o' t x y u _ a' ha _ b' hb;simp only [Option.some.injEq,Prod.mk.injEq] at h;obtain ⟨rfl,rfl,rfl⟩:=h;exact ⟨t,x,y,u,rfl,ha,hb⟩
   ·cases h
  ·cases h
 ·cases h
theorem yB {op:Op} {v:V} {new:ae} (h:(match ES op g with
 | some (o,a,b)=>if mw o a b=true then (EH o a b).map fun v=>(v,([]:ae)) else none
 | none=>if xg P op g σ=true then (match aW P op g σ id with
  | some r=>some (r.2.1,r.2.2)
  | none=>none) else none)=some (v,new)) : ∃p,aW P op g σ id=some (p,v,new)∧p:=by
 split at h
 ·rename_i o a b ht;obtain ⟨t,x,y,u,rfl,hx,hy⟩:=sc ht;split at h
  ·rename_i hok;simp only [Option.map_eq_some_iff] at h;obtain ⟨v',hv,e⟩:=h;injection e with e1 e2;subst e1;subst e2;obtain ⟨p,h1,h2⟩:=pT (P:=P) (t:=t) (cst:=dm x||dm y) hv;exact ⟨p,by simp only [aW,bD,hx,hy,h1],h2 hok⟩
  ·cases h
 ·split at h
  ·rename_i hok;split at h
   ·rename_i r hr;obtain ⟨p,v',n'⟩:=r;simp only [Option.some.injEq,Prod.mk.injEq] at h;obtain ⟨rfl,rfl⟩:=h;exact ⟨p,hr,o9 hok hr⟩
   ·cases h
  ·cases h
theorem jK {op:Op} {v:V} {s:ae} (h:EZ P op g σ id=some (v,s)) : ∃p,cz P op g σ id=some (p,v,s)∧p:=by
 unfold EZ at h;split at h
 ·rename_i o a b ht;obtain ⟨t,x,y,u,rfl,hx,hy⟩:=sc ht;split at h
  ·rename_i hok;simp only [Option.map_eq_some_iff] at h;obtain ⟨v',hv,e⟩:=h;injection e with e1 e2;subst e1;subst e2;obtain ⟨p,h1,h2⟩:=pT (P:=P) (t:=t) (cst:=dm x||dm y) hv;exact ⟨p,by simp only [cz,aW,bD,hx,hy,h1,List.append_nil],h2 hok⟩
  ·cases h
 ·split at h
  ·rename_i hok;split at h
   ·rename_i r hr;obtain ⟨p,v',n'⟩:=r;simp only [Option.some.injEq,Prod.mk.injEq] at h;obtain ⟨rfl,rfl⟩:=h;exact ⟨p,hr,Hg hok hr⟩
   ·cases h
  ·cases h
theorem n7 {k:Nat} {es:List D} {i j:Nat} {x:Nat × Bool} {v:V} {K:V→Prop} (h:F2 k es i j x=some v) (hK:K v):fC k es i j x K:=by
 unfold F2 at h;split at h
 ·rename_i e he;simp only [Option.map_eq_some_iff] at h;obtain ⟨y,hy,rfl⟩:=h;refine ⟨(List.getElem?_eq_some_iff.1 he).1,fun e' he' =>?_⟩;rw [he] at he';injection he' with he';subst he';rw [hy];exact hK
 ·cases h
theorem ig {t:Nat} {a:V} {v:V} {K:V→Prop} (h:vj P t a σ=some v) (hK:K v):dp P t a σ K:=by
 unfold vj at h;split at h
 ·cases h
 ·rename_i x hx;split at h
  ·simp only [vf,hx,bT];exact n7 h hK
  ·split at h
   ·rename_i cs hg;simp only [vi,hx,bT,hg,nR];rw [h];exact hK
   ·cases h
  ·split at h
   ·rename_i k' es tq hg;split at h
    ·rename_i hk;simp only [vg,hx,bT,hg,BT];exact ⟨hk,n7 h hK⟩
    ·cases h
   ·cases h
  ·cases h
theorem vu {x:V} {v:V} {s:ae} {K:V→ae→Prop} (h:DQ x σ=some (v,s)) (hK:K v s):ji x σ K:=by
 unfold DQ at h;split at h
 ·split at h
  ·rename_i s' pos hg;rw [vt];simp only [bT,hg,oF];split at h<;>rename_i hlt<;>simp only [Option.some.injEq,Prod.mk.injEq] at h<;>obtain ⟨rfl,rfl⟩:=h
   ·simp only [decide_eq_true hlt,nO];exact hK
   ·simp only [decide_eq_false hlt,ld];exact hK
  ·cases h
 ·cases h
theorem mA {c a b v:V} {K:V→Prop} (h:zP c a b=some v) (hK:K v):gD c a b K:=by
 unfold zP at h;split at h
 ·rename_i t;injection h with h;subst h;cases t
  ·exact ⟨(fun e=>by cases e),fun _=>hK⟩
  ·exact ⟨fun _=>hK,(fun e=>by cases e)⟩
 ·cases h
theorem fh {α:Type} {v:V} {al:List V} {k:Nat→List V→Option α} {y:α} (h:nf v al k=some y) : ∃f,k f (iP v al)=some y ∧ ∀(C:Nat→List V→Prop) Y,C f (iP v al)→a8 v (fun k caps=>C k (al++caps)) Y (fun k fs=>C k (fs++(al++[]))):=by
 unfold nf at h;split at h
 ·exact ⟨_,h,fun C _ hK=>hK⟩
 ·exact ⟨_,h,fun C _ hK=>hK⟩
 ·exact ⟨_,h,fun C _ hK=>hK⟩
 ·cases h
theorem mf (ho:mc P G run) {f:Nat} {args:List V} {v:V} {s:ae} {K:V→ae→Prop} (h:qP P run f args σ id=some (v,s)) (hK:K v s):aB P G f args σ id K:=by
 unfold qP at h;split at h
 ·rename_i he;split at h
  ·rename_i hl;split at h
   ·rename_i r hr;obtain ⟨r,s'⟩:=r;simp only [Option.some.injEq,Prod.mk.injEq] at h;obtain ⟨rfl,rfl⟩:=h;exact aB.of _ he (ho.1 _ _ _ _ _ _ hr) hl hK
   ·cases h
  ·cases h
 ·split at h
  ·rename_i he;simp only [Option.some.injEq,Prod.mk.injEq] at h;obtain ⟨rfl,rfl⟩:=h;exact ⟨_,_,hK,.inr ⟨he,rfl⟩⟩
  ·cases h
theorem uq (ho:mc P G run) {f:Nat} {args:List V} {v:V} {s:ae} {K:V→ae→Prop} (h:CT P run f args id=some (v,s)) (hK:K v s):cJ P G f args σ id K:=by
 unfold CT at h;split at h
 ·rename_i he;split at h
  ·rename_i r hr;obtain ⟨r,s'⟩:=r;simp only [Option.some.injEq,Prod.mk.injEq] at h;obtain ⟨rfl,rfl⟩:=h;exact cJ.of he (ho.1 _ _ _ _ _ _ hr) hK
  ·cases h
 ·split at h
  ·rename_i he;simp only [Option.some.injEq,Prod.mk.injEq] at h;obtain ⟨rfl,rfl⟩:=h;exact ⟨_,_,hK,.inr ⟨he,rfl⟩⟩
  ·cases h
theorem nr {op:Op} {r:iO} {p:Prop} {v:V} {s:ae} {K:V→ae→Prop} (h:r=some (p,v,s)) (hp:p) (hK:K v s):d5 op r K:=by
 subst h;exact ⟨hp,hK⟩
theorem IF {t n:Nat} {parts:Array (Nat × Operand)} {p:Prop} {v:V} {s:ae} {r2:iO} {K:V→ae→Prop} (h:cz P (.buildSlice t n parts) g σ id=some (p,v,s)) (hp:p) (hK:K v s):Fd (aR P (.buildSlice t n parts) g σ id) r2 σ K:=by
 have h0:bD P (.buildSlice t n parts) g=none:=rfl;have h1:eR P (.buildSlice t n parts) g σ id=none:=rfl;unfold cz aW at h;rw [h0,h1] at h;unfold Fd;cases ha:aR P (.buildSlice t n parts) g σ id with
 | none=>rw [ha] at h;cases h
 | some x=>
  obtain ⟨p',v',n'⟩:=x;rw [ha] at h;simp only [Option.some.injEq,Prod.mk.injEq] at h;obtain ⟨rfl,rfl,rfl⟩:=h;exact ⟨hp,hK⟩
theorem iI (ho:mc P G run) {op:Op} {v:V} {s:ae} {K:V→ae→Prop} (h:mL P run op g σ id=some (v,s)) (hK:K v s):aG P G op g σ id K:=by
 unfold mL at h;unfold aG;split at h
 ·simp only [Option.map_eq_some_iff] at h;obtain ⟨v',hv,e⟩:=h;injection e with e1 e2;subst e1;subst e2;exact mA hv hK
 ·simp only [Option.map_eq_some_iff] at h;obtain ⟨v',hv,e⟩:=h;injection e with e1 e2;subst e1;subst e2;exact ig hv hK
 ·split at h
  ·rename_i hs;simp only [hs,if_true];exact vu h hK
  ·cases h
 ·split at h
  ·rename_i hc;simp only [hc];split at h
   ·rename_i i hi;simp only [hi,a8];exact ⟨_,_,hK,ho.2 _ _ _ _ _ _ h⟩
   ·obtain ⟨k,h1,h2⟩:=fh h;exact h2 (fun k al=>aB P G k al σ id K) _ (mf ho h1 hK)
  ·rename_i hc;simp only [hc];obtain ⟨p,h1,h2⟩:=jK h;exact nr h1 h2 hK
  ·cases h
 ·obtain ⟨p,h1,h2⟩:=jK h;split
  ·rename_i q1 _ _ _;exact absurd rfl (q1 _ _ _)
  ·rename_i _ q2 _ _;exact absurd rfl (q2 _ _)
  ·rename_i _ _ q3 _;exact absurd rfl (q3 _ _)
  ·rename_i _ _ _ q4;exact absurd rfl (q4 _)
  ·exact IF h1 h2 hK
  ·exact nr h1 h2 hK
theorem gt {op:Op} {v:V} {new:ae} {K:V→ae→Prop} (hv:cp op=false) (h:o8 P op g σ id=some (v,new)) (hK:K v new):aH P G op g σ id K:=by
 unfold o8 at h;unfold aH;split at h
 ·simp only [Option.map_eq_some_iff] at h;obtain ⟨v',hv,e⟩:=h;injection e with e1 e2;subst e1;subst e2;exact mA hv hK
 ·simp only [Option.map_eq_some_iff] at h;obtain ⟨v',hv,e⟩:=h;injection e with e1 e2;subst e1;subst e2;exact ig hv hK
 ·rename_i c;split at h
  ·rename_i b hc;simp only [hc];split at h
   ·rename_i hok;split at h
    ·rename_i r hr;obtain ⟨p,v',n'⟩:=r;simp only [Option.some.injEq,Prod.mk.injEq] at h;obtain ⟨rfl,rfl⟩:=h;exact nr hr (o9 hok hr) hK
    ·cases h
   ·cases h
  ·cases h
 ·obtain ⟨p,h1,h2⟩:=yB h;split
  ·rename_i q1 _ _;exact absurd rfl (q1 _ _ _)
  ·rename_i _ q2 _;exact absurd rfl (q2 _ _)
  ·rename_i _ _ q3;exact absurd rfl (q3 _)
  ·exact nr h1 h2 hK
theorem co {ops:Array Oper} {o:Oper} {e e':aC} {b:Bool} {yes no:aC→Prop} (h:jw ops o e=some (b,e')) (hy:b=true→yes e') (hn:b=false→no e'):bO ops o e yes no:=by
 unfold jw at h;unfold bO;split at h
 ·rename_i hg;simp only [Option.some.injEq,Prod.mk.injEq] at h;obtain ⟨rfl,rfl⟩:=h;simp only [hg];exact hy rfl
 ·rename_i j want hg;simp only [hg];split at h
  ·cases h
  ·rename_i d hd;simp only [hd,bT];split at h
   ·rename_i b' hb;simp only [Option.some.injEq,Prod.mk.injEq] at h;obtain ⟨rfl,rfl⟩:=h;simp only [hb,mW];cases b'<;>cases want<;>simp_all [gI]
   ·rename_i hb;simp only [Option.some.injEq,Prod.mk.injEq] at h;obtain ⟨rfl,rfl⟩:=h;simp only [hb,mW];exact hn rfl
   ·cases h
theorem jB (ho:mc P G run) {ops:Array Oper} {base:Nat} : ∀(l:List Oper) (i:Nat) (e:aC) (σ:ae) (e':aC) (σ':ae) (K:aC→ae→Prop),BH P G run ops base i l e σ=some (e',σ')→K e' σ'→ky P G ops base i l e σ K
 | [],i,e,σ,e',σ',K,h,hK=>by
  simp only [BH,Option.some.injEq,Prod.mk.injEq] at h;obtain ⟨rfl,rfl⟩:=h;exact hK
 | o::r,i,e,σ,e',σ',K,h,hK=>by
  unfold BH at h;unfold ky;split at h
  ·rename_i e1 hg;refine co hg (fun _ =>?_) (fun hb=>by cases hb);split at h
   ·rename_i v s1 hs;rw [jf,sU] at h;exact iI ho hs (jB ho r (i+1) _ _ e' σ' K h hK)
   ·cases h
  ·rename_i e1 hg;exact co hg (fun hb=>by cases hb) (fun _=>jB ho r (i+1) _ _ e' σ' K h hK)
  ·cases h
theorem d6 (ho:mc P G run) {lo:List Nat} {ops:Array Oper} {i:Nat} {op:Op} {σp acc:ae} {b:Bool} {v:V} {s:ae} {Kq Ke:V→ae→Prop} (h:l7 P run lo ops i op g σp acc id=some (b,v,s)) (hq:b=true→Kq v s) (he:b=false→Ke v s):eM P G lo ops i op g σp acc id Kq Ke:=by
 unfold l7 at h;unfold eM;split at h
 ·split at h
  ·rename_i f hf;simp only [hf];split at h
   ·rename_i j hj;simp only [hj,a8];split at h
    ·rename_i hl;simp only [Option.map_eq_some_iff] at h;obtain ⟨q,hq',e2⟩:=h;injection e2 with e3 e2;subst e2;exact ⟨hl,_,_,he e3.symm,ho.2 _ _ _ _ _ _ hq'⟩
    ·cases h
   obtain ⟨k,h1,h2⟩:=fh h;refine h2 (fun k al=>dO P G lo ops i k al σp acc id Kq Ke) _ ?_;split at h1
   ·simp only [Option.map_eq_some_iff] at h1;obtain ⟨q,hq',e2⟩:=h1;injection e2 with e3 e2;subst e2;exact .inl (uq ho hq' (hq e3.symm))
   ·split at h1
    ·rename_i hl;simp only [Option.map_eq_some_iff] at h1;obtain ⟨q,hq',e2⟩:=h1;injection e2 with e3 e2;subst e2;exact .inr ⟨hl,mf ho hq' (he e3.symm)⟩
    ·cases h1
  ·cases h
 ·cases h
theorem mz (ho:mc P G run) {ops:Array Oper} {base:Nat} : ∀(l:List Oper) (i:Nat) (e:aC) (σp acc:ae) (e':aC) (σ':ae) (K:aC→ae→Prop),ij P G run ops base i l e σp acc=some (e',σ')→K e' σ'→opsL P G [] [] ops base i l e σp acc K
 | [],i,e,σp,acc,e',σ',K,h,hK=>by
  simp only [ij,Option.some.injEq,Prod.mk.injEq] at h;obtain ⟨rfl,rfl⟩:=h;exact hK
 | o::r,i,e,σp,acc,e',σ',K,h,hK=>by
  unfold ij at h;unfold opsL;have ih:=fun e1 s1 s2 h=>mz ho (ops:=ops) (base:=base) r (i+1) e1 s1 s2 e' σ' K h hK
  split at h
  ·rename_i e1 hg;refine co hg (fun _ =>?_) (fun hb=>by cases hb);split at h
   ·rename_i hE;rw [if_pos hE];split at h
    ·rename_i v s1 hs;rw [jf,sU] at h;exact iI ho hs (ih _ _ _ h)
    ·cases h
   ·rename_i hE;rw [if_neg hE];split at h
    ·rename_i hV;rw [if_pos hV];split at h
     ·rename_i v new hc;rw [jf] at h;exact d6 ho hc (fun _=>ih _ _ _ h) (fun e=>by cases e)
     ·rename_i v s1 hc;rw [jf] at h;exact d6 ho hc (fun e=>by cases e) (fun _=>ih _ _ _ h)
     ·cases h
    ·rename_i hV;rw [if_neg hV,if_neg (by simp)];split at h
     ·rename_i v new hq;rw [jf] at h;exact gt (by simpa using hV) hq (ih _ _ _ h)
     ·cases h
  ·rename_i e1 hg;exact co hg (fun hb=>by cases hb) (fun _=>ih _ _ _ h)
  ·cases h
theorem xJ (σ:ae) (i j:Nat) (c:bu) (h:j≠i):(σ.set i c).get j=σ.get j:=by
 induction σ with
 | nil=>rfl
 | cons x r ih=>
  obtain ⟨k,b⟩:=x;simp only [ae.set];split
  ·rename_i hk;subst hk;simp only [ae.get];rw [if_neg (Ne.symm h),if_neg (Ne.symm h)]
  ·simp only [ae.get,ih]
theorem He {t:Nat} {a x:V} {σ σ':ae} {p:Prop} {v:V} (h:EG P t a x σ=some (p,v,σ')) : ∃i blk,vP a=some i∧σ'=σ.set i blk:=by
 unfold EG at h;split at h
 ·split at h
  ·split at h
   ·injection h with h;injection h with _ h;injection h with _ h;exact ⟨_,_,rfl,h.symm⟩
   ·cases h
  ·cases h
 ·split at h
  ·split at h
   ·split at h
    ·injection h with h;injection h with _ h;injection h with _ h;exact ⟨_,_,rfl,h.symm⟩
    ·split at h
     ·injection h with h;injection h with _ h;injection h with _ h;exact ⟨_,_,rfl,h.symm⟩
     ·cases h
   ·cases h
  ·cases h
 ·cases h
theorem B8 {op:Op} {v:V} {σ s σk:ae} (hs:ar σk σ) (hok:wB σk op g=true) (h:mL P run op g σ id=some (v,s)):ar σk s:=by
 unfold wB at hok;split at hok
 ·rename_i t a x;split at hok
  ·rename_i i hi;have hk:σk.get i=none:=by simpa using hok
   have h1:EZ P (.store t a x) g σ id=some (v,s):=h;obtain ⟨p,h2,_⟩:=jK h1;have h3:EG P t (g a) (g x) σ=some (p,v,s):=h2;obtain ⟨j,blk,e1,rfl⟩:=He h3;rw [hi] at e1;injection e1 with e1;subst e1;intro k b hb;have hne:k≠i:=fun e=>by subst e;rw [hk] at hb;cases hb
   rw [xJ _ _ _ _ hne];exact hs k b hb
  ·cases hok
 ·cases hok
theorem pU {σk σ acc:ae} (h:ar σk σ):ar σk (σ++acc):=fun i b hb=>by
 rw [bt,h i b hb]
theorem Eo {lo:List Nat} {ops:Array Oper} {i:Nat} {σk σ:ae} {K:Prop} (h:ar σk σ∨sx lo ops i=true) (k:K):tH (DG lo ops i σk) σ K:=by
 rcases h with h|h
 ·exact tH.of h k
 ·exact tH.late k h
theorem gW : ∀(ids:List Nat) (σ:ae),ar (FT ids σ) σ
 | [],σ=>fun _ _ h=>h
 | i::r,σ=>fun j b h=>by
  have:=gW r (σ.del i) j b h;rw [ae.get_del] at this;split at this
  ·cases this
  ·exact this
theorem AH {f:Nat} {args:List V} {v:V} {s σk:ae} (hs:ar σk σ) (hok:(dQ σ args).all (fun j=>(σk.get j).isNone)=true) (h:qP P run f args σ id=some (v,s)):ar σk s:=by
 unfold qP at h;split at h
 ·split at h
  ·split at h
   ·simp only [Option.some.injEq,Prod.mk.injEq] at h;obtain ⟨_,rfl⟩:=h;intro k b hb;have hk:k∉dQ σ args:=fun hm=>by
     have:=List.all_eq_true.1 hok k hm;rw [hb] at this;cases this
    rw [bt,oo,if_neg hk,hs k b hb]
   ·cases h
  ·cases h
 ·split at h
  ·simp only [Option.some.injEq,Prod.mk.injEq] at h;obtain ⟨_,rfl⟩:=h;exact hs
  ·cases h
theorem CU {lo:List Nat} {ops:Array Oper} {i:Nat} {op:Op} {σp acc σk s:ae} {v:V} (hs:ar σk (σp++acc)) (hok:Ld σk (σp++acc) op g=true) (h:l7 P run lo ops i op g σp acc id=some (false,v,s)):ar σk s:=by
 unfold Ld at hok;simp only [Bool.and_eq_true,Bool.not_eq_true'] at hok;obtain ⟨h1,h2⟩:=hok;unfold l7 at h;split at h
 ·rename_i c;split at h
  ·rename_i f hf;simp only [y5,K1,hf] at h1 h2;split at h
   ·rename_i j hj;simp only [hj] at h1;cases h1
   ·obtain ⟨k,h,_⟩:=fh h;split at h
    ·simp only [Option.map_eq_some_iff] at h;obtain ⟨q,_,e2⟩:=h;injection e2 with e3;cases e3
    ·split at h
     ·simp only [Option.map_eq_some_iff] at h;obtain ⟨q,hq,e2⟩:=h;injection e2 with _ e2;subst e2;exact AH hs h2 hq
     ·cases h
  ·cases h
 ·cases h
theorem im (ho:mc P G run) {lo:List Nat} {σk:ae} {ops:Array Oper} {base:Nat} : ∀(l:List Oper) (i:Nat) (kp:Bool) (e:aC) (σp acc:ae) (e':aC) (σ':ae) (K:aC→ae→Prop),(kp=true→ar σk σp)→ik P G run lo σk ops base i l kp e σp acc=some (e',σ')→K e' σ'→opsL P G lo σk ops base i l e σp acc K
 | [],i,kp,e,σp,acc,e',σ',K,_,h,hK=>by
  simp only [ik,Option.some.injEq,Prod.mk.injEq] at h;obtain ⟨rfl,rfl⟩:=h;exact hK
 | o::r,i,kp,e,σp,acc,e',σ',K,hs,h,hK=>by
  unfold ik at h;unfold opsL;have ih:=fun kp e1 s1 s2 hs h=>im ho (lo:=lo) (σk:=σk) (ops:=ops) (base:=base) r (i+1) kp e1 s1 s2 e' σ' K hs h hK
  split at h
  ·rename_i e1 hg;refine co hg (fun _ =>?_) (fun hb=>by cases hb);split at h
   ·rename_i hE;rw [if_pos hE];split at h
    ·rename_i hok;split at h
     ·rename_i v s1 hx;rw [jf,sU] at h;have hs1:(kp&&wB σk o.op (di G e1.get))=true→ar σk s1:=fun hh=>by
       rw [Bool.and_eq_true] at hh;exact B8 (pU (hs hh.1)) hh.2 hx
      exact iI ho hx (Eo ((Bool.or_eq_true _ _▸hok).imp hs1 id) (ih _ _ _ _ hs1 h))
     ·cases h
    ·cases h
   ·rename_i hE;rw [if_neg hE];split at h
    ·rename_i hV;rw [if_pos hV];split at h
     ·rename_i v new hc;rw [jf] at h;exact d6 ho hc (fun _=>ih _ _ _ _ hs h) (fun e=>by cases e)
     ·rename_i v s1 hc;split at h
      ·rename_i hok;rw [jf] at h;have hs1:(kp&&Ld σk (σp++acc) o.op (di G e1.get))=true→ar σk s1:=fun hh=>by
        rw [Bool.and_eq_true] at hh;exact CU (pU (hs hh.1)) hh.2 hc
       exact d6 ho hc (fun e=>by cases e) (fun _=>Eo ((Bool.or_eq_true _ _▸hok).imp hs1 id) (ih _ _ _ _ hs1 h))
      ·cases h
     ·cases h
    ·rename_i hV;rw [if_neg hV];split at h
     ·rename_i hl;rw [if_pos hl];split at h
      ·rename_i v hq;rw [jf] at h;exact gt (by simpa using hV) hq ⟨rfl,ih _ _ _ _ hs h⟩
      ·cases h
     ·rename_i hl;rw [if_neg hl];split at h
      ·rename_i v new hq;rw [jf] at h;exact gt (by simpa using hV) hq (ih _ _ _ _ hs h)
      ·cases h
  ·rename_i e1 hg;exact co hg (fun hb=>by cases hb) (fun _=>ih _ _ _ _ hs h)
  ·cases h
end
end Go.Proofs.YtkkanlcjjpoklaaGreatDoor
set_option linter.unusedVariables false
set_option linter.unusedSimpArgs false
namespace Go.Proofs.YtkkanlcjjpoklaaGreatDoor
theorem lD : ∀(e:aC) (m j:Nat),Nat.testBit m j=false→(keepM m e).get j = .unk
 | [],m,j,_=>by simp [keepM,aC.get]
 | (k,v)::r,m,j,h=>by
  unfold keepM;split
  ·rename_i hk;have hne:k≠j:=by rintro rfl;rw [h] at hk;cases hk
   show (if k=j then v else (keepM _ r).get j) = .unk;rw [if_neg hne];exact lD r _ j (by rw [Nat.testBit_xor,h,Nat.testBit_two_pow_of_ne hne];rfl)
  ·exact lD r m j h
theorem lq : ∀(e:aC) (m j:Nat),(keepM m e).get j=e.get j∨(keepM m e).get j = .unk
 | [],m,j=>by simp [keepM]
 | (k,v)::r,m,j=>by
  unfold keepM;split
  ·show (if k=j then v else (keepM _ r).get j)=(if k=j then v else aC.get r j)∨(if k=j then v else (keepM _ r).get j) = .unk;split
   ·exact .inl rfl
   ·exact lq r _ j
  ·rename_i hk;by_cases hj:k=j
   ·subst hj;exact .inr (lD r m k (by simpa using hk))
   ·show _=(if k=j then v else aC.get r j)∨_;rw [if_neg hj];exact lq r m j
section
variable {P:Program} {G:Gl} {M:xc}
theorem dC.keepM {C:qf} {e:aC} {σ:ae} {nx lim:Nat} {a:Act} {w:World} (h:dC C G e σ nx lim a w) (lm:Nat):dC C G (keepM lm e) σ nx lim a w:=by
 obtain ⟨I,β,h1,h2,h3,h4⟩:=h;refine ⟨I,β,h1,h2,fun t =>?_,h4⟩;rcases lq e lm t with h|h
 ·rw [h];exact h3 t
 ·rw [h];trivial
theorem aj.weak {w w':World} {I I':Nat→Prop} {β β':bA} {σ σ' σ'':ae} {nx nx':Nat} (h:aj w I β σ nx w' I' β' σ' nx') (he : ∀j b,σ''.get j=some b → ∃c,σ'.get j=some c∧(gH w' I' β' j c→gH w' I' β' j b)):aj w I β σ nx w' I' β' σ'' nx':=
 { h with
  mem:=⟨fun id b hb=>by obtain ⟨c,h1,h2⟩:=he id b hb;exact h2 (h.mem.own id c h1),fun i j b b' k c c' h1 h2=>by
   obtain ⟨x,h3,_⟩:=he _ _ h1;obtain ⟨y,h4,_⟩:=he _ _ h2;exact h.mem.inj i j x y k c c' h3 h4,h.mem.free,h.mem.lt⟩
  own':=fun b ⟨id,blk,c,h1,h2⟩=>by obtain ⟨x,h3,_⟩:=he _ _ h1;exact h.own' b ⟨id,x,c,h3,h2⟩ }
theorem gH.take {w:World} {I:Nat→Prop} {β:bA} {id k:Nat} {es:List D} {ty:Option Nat} (m:Nat) (h:gH w I β id (.row k es ty)):gH w I β id (.row k (es.take m) ty):=by
 rcases h with ⟨h1,h2⟩|⟨b,cap,cur,t,h1,h2,h3,h4,h5,h6⟩
 ·exact .inl ⟨h1,by rw [h2];simp⟩
 ·refine .inr ⟨b,cap,cur,t,h1,h2,h3,by simp;omega,h5,fun i e hi=>h6 i e ?_⟩;rw [List.getElem?_take] at hi;split at hi
  ·exact hi
  ·cases hi
theorem Cc (e:aC) (σ0:ae) : ∀(σ:ae) (j:Nat) (b:bu),(mN e σ0 σ).get j=some b → ∃c,σ.get j=some c ∧ ∀(w:World) (I:Nat→Prop) (β:bA),gH w I β j c→gH w I β j b:=by
 intro σ;induction σ with
 | nil=>intro j b h;cases h
 | cons x r ih=>
  intro j b h;have key : ∀(i:Nat) (c c':bu),(∀(w:World) (I:Nat→Prop) (β:bA),gH w I β i c→gH w I β i c')→ae.get ((i,c')::mN e σ0 r) j=some b → ∃d,ae.get ((i,c)::r) j=some d ∧ ∀(w:World) (I:Nat→Prop) (β:bA),gH w I β j d→gH w I β j b:=by
   clear h;intro i c c' hc hq;simp only [ae.get] at hq ⊢;by_cases e:i=j
   ·rw [if_pos e] at hq ⊢;subst e;injection hq with hq;subst hq;exact ⟨c,rfl,hc⟩
   ·rw [if_neg e] at hq ⊢;exact ih j b hq
  obtain ⟨i,c⟩:=x;cases c with
  | row k es ty=>
   simp only [mN,zq,HY] at h;split at h
   ·exact key i _ _ (fun _ _ _ h=>h.take _) h
   ·exact key i _ _ (fun _ _ _ h=>h) h
  | _=>exact key i _ _ (fun _ _ _ h=>h) h
theorem ER (M:xc) (ops:Array Oper) (m:Nat) (st:St):bK G m st (EQ M ops st):=by
 unfold EQ;split
 ·split
  ·intro C a w _ hr;obtain ⟨I,β,h1,h2,h3,h4,h5,h6⟩:=hr;have he : ∀j b,(mN st.env st.sg st.sg).get j=some b → ∃c,st.sg.get j=some c∧(gH w I β j c→gH w I β j b):=fun j b hb=>by
    obtain ⟨c,h7,h8⟩:=Cc _ _ _ _ _ hb;exact ⟨c,h7,h8 w I β⟩
   exact ⟨I,β,h1.weak he,h2,h3,h4,h5.sub (fun b ⟨j,bl,c,g1,g2⟩=>by obtain ⟨x,h7,_⟩:=he _ _ g1;exact ⟨j,x,c,h7,g2⟩) (fun b h=> .inl h),h6⟩
  ·exact bK.refl G m st
 ·exact bK.refl G m st
theorem et (m:Nat) : ∀(n:Nat) (l:List Nat) (st:St),bK G m st (eW n l st)
 | 0,_,st=>by unfold eW;exact bK.refl G m st
 | n+1,[],st=>by unfold eW;exact bK.refl G m st
 | n+1,i::r,st=>by
  unfold eW;split
  ·exact ((et m n _ st).trans (bK.frz G m _ i)).trans (et m n r _)
  ·exact (bK.frz G m _ i).trans (et m n r _)
  ·exact et m n r st
abbrev jo (e:Exit) (st:St):Exit→St→Prop:=fun e' s'=>e'=e∧s'=st
theorem AW.le {n m:Nat} {c:Code} {st st':St} {Q:Exit→St→Prop} (hle:bK G m st st') (h:AW P G n m c st' Q):AW P G n m c st Q:=
 fun fr hfr C a w hn hm hr=>h fr hfr C a w hn hm (hle C a w hm hr)
theorem yD (ho:P.follows .mixedOrders=true) {run:Ap} (hrun:mc P G run) {lm:Nat} {id:Nat} {ops:Array Oper} {draw:Bool} {st st':St} {e:Exit} {n m:Nat} (hok:aE n (.region id ops draw)=true) (h:JR P G M run lm ops draw st=some (e,st')):AW P G n m (.region id ops draw) st (jo e st'):=by
 intro fr hfr C a w hn hm hr;simp only [aE] at hok;have hdst : ∀(i:Nat) o x,ops[i]? = some o→o.dst=some x→x<C.n:=fun i o x hi hx=>by rw [hn];exact n6 _ hok i o x (by simpa using hi) hx
 have hr':dC C G st.env st.sg (st.nx+4*ops.size) st.nx a w:=dC.bump hr (by omega);unfold JR at h;split at h
 ·rename_i e1 σ1 h1;rw [zq] at h;simp only [Option.some.injEq,Prod.mk.injEq] at h;obtain ⟨rfl,rfl⟩:=h;cases draw with
  | false=>
   simp only at h1;refine wpIn_region ?_;have:=gq (P:=P) (G:=G) (C:=C) (fr:=fr) (ops:=ops) (base:=st.nx) (nx:=st.nx+4*ops.size) (Q:=fun e a' w'=> ∃st'',jo .normal ⟨keepM lm e1,σ1,st.nx+4*ops.size⟩ e st''∧na C G st'' a' w') (Nat.le_refl _) hdst (K:=fun e σ=>e=e1∧σ=σ1) (fun e σ a w hK hrel=>⟨_,⟨rfl,rfl⟩,by obtain ⟨rfl,rfl⟩:=hK;exact hrel.keepM lm⟩) ops.toList 0 st.env st.sg a w rfl (jB hrun _ _ _ _ _ _ _ h1 ⟨rfl,rfl⟩) (by simpa using hr') (Nat.zero_le _);rw [List.range_eq_range'];simpa using this
  | true=>
   simp only at h1;have goD:bM [] ops=true→ij P G run ops st.nx 0 ops.toList st.env st.sg []=some (e1,σ1)→(Code.region id ops true).wpIn (Fr fr) 0 P (fun e a' w'=> ∃st',jo .normal ⟨keepM lm e1,σ1,st.nx+4*ops.size⟩ e st'∧na C G st' a' w') a w:=fun hd h1=>
    gp (C:=C) ho hd (oL _ _) (nx:=st.nx+4*ops.size) (Nat.le_refl _) hdst (K:=fun e σ=>e=e1∧σ=σ1) (fun e σ a w hK hrel=>⟨_,⟨rfl,rfl⟩,by obtain ⟨rfl,rfl⟩:=hK;exact hrel.keepM lm⟩) (fun _ _ h=>by cases h) (mz hrun _ _ _ _ _ _ _ _ h1 ⟨rfl,rfl⟩) hr'
   unfold HV at h1;split at h1
   ·rename_i hd;exact goD hd.1 h1
   ·split at h1
    ·rename_i ids lds oc _;split at h1
     ·rename_i hd;exact goD hd.1 h1
     ·split at h1
      ·rename_i hd;exact gp (C:=C) ho hd.1 hd.2 (nx:=st.nx+4*ops.size) (Nat.le_refl _) hdst (K:=fun e σ=>e=e1∧σ=σ1) (fun e σ a w hK hrel=>⟨_,⟨rfl,rfl⟩,by obtain ⟨rfl,rfl⟩:=hK;exact hrel.keepM lm⟩) (gW ids _) (im hrun _ _ _ _ _ _ _ _ _ (fun _=>gW ids _) h1 ⟨rfl,rfl⟩) hr'
      ·split at h1
       ·rename_i hd;exact gp (C:=C) ho hd.1 hd.2 (nx:=st.nx+4*ops.size) (Nat.le_refl _) hdst (K:=fun e σ=>e=e1∧σ=σ1) (fun e σ a w hK hrel=>⟨_,⟨rfl,rfl⟩,by obtain ⟨rfl,rfl⟩:=hK;exact hrel.keepM lm⟩) (gW _ _) (im hrun _ _ _ _ _ _ _ _ _ (fun _=>gW _ _) h1 ⟨rfl,rfl⟩) hr'
       ·cases h1
    ·cases h1
 ·cases h
theorem tE (fr:Option Nat) (k:Nat):(Fr fr).room k:=fun _ h=>by cases h
def AL (P:Program) (G:Gl) (n m:Nat) (c:Code) (st:St) (Q:Exit→St→Prop):Prop:=
 ∀fr,(fr=none∨lF c=true) → ∀(C:qf) a w,C.n=n→C.nx=m→na C G st a w → ∀(b:Frame) kk cs,b.roundOf=fr → ∃e a' w',(∃st',Q e st'∧na C G st' a' w')∧ArrivesIn (Machine.fenced P (Fr fr)) P (lone (b.atR a (.code c :: .inLoop c::kk)) cs w) b kk cs e a' w'
theorem AL.aw {n m:Nat} {c:Code} {st:St} {Q:Exit→St→Prop} (h:AL P G n m c st Q):AW P G n m (.loop c) st Q:=fun fr hfr C a w hn hm hr b kk cs hro hb hroom=>by
 obtain ⟨e,a',w',hq,harr⟩:=h fr hfr C a w hn hm hr b kk cs hro;exact ⟨e,a',w',hq,.of_steps (.one (fenced_calm hb hroom rfl) stepR_loop) harr⟩
theorem AL.round {n m:Nat} {c:Code} {st st1:St} {Q:Exit→St→Prop} (h:AW P G n m c st (jo .normal st1)) (k:AL P G n m c st1 Q):AL P G n m c st Q:=fun fr hfr C a w hn hm hr b kk cs hro=>by
 obtain ⟨e,a',w',⟨st',⟨rfl,rfl⟩,hr2⟩,harr⟩:=h fr hfr C a w hn hm hr b (.inLoop c::kk) cs hro trivial (tE fr _);obtain ⟨e2,a2,w2,hq2,harr2⟩:=k fr hfr C a' w' hn hm hr2 b kk cs hro;exact ⟨e2,a2,w2,hq2,.of_steps (StepsIn.trans harr (.one (fenced_calm (n:=0) trivial (tE fr _) rfl) stepR_inLoop)) harr2⟩
theorem AL.out {n m:Nat} {c:Code} {st st1:St} {e1:Exit} (hne:e1 ≠ .normal) (h:AW P G n m c st (jo e1 st1)):AL P G n m c st (jo e1 st1):=fun fr hfr C a w hn hm hr b kk cs hro=>by
 obtain ⟨e,a',w',⟨st',⟨rfl,rfl⟩,hr2⟩,harr⟩:=h fr hfr C a w hn hm hr b (.inLoop c::kk) cs hro trivial (tE fr _);exact ⟨_,a',w',⟨st',⟨rfl,rfl⟩,hr2⟩,.pass (x:= .inLoop c) rfl (fun _ _=> .inl hne) harr⟩
def gP (P:Program) (G:Gl) (code:db):Prop:= ∀n lm c st e st',code n lm c st=some (e,st') → ∀m,aE n c=true→AW P G n m c st (jo e st') ∧ ∀c',c = .loop c'→AL P G n m c' st (jo e st')
theorem gP.aw {code:db} (h:gP P G code) {lm:Nat} {c:Code} {st st':St} {e:Exit} {n:Nat} (hc:code n lm c st=some (e,st')) (hok:aE n c=true) (m:Nat):AW P G n m c st (jo e st'):=(h n lm c st e st' hc m hok).1
theorem jE {st:St} : ∀(rs:List ResultVar) (vs:List V) (K:List V→Prop),we P rs st=some vs→K vs→lN P rs st K
 | [],vs,K,h,hK=>by simp only [we,Option.some.injEq] at h;subst h;exact hK
 | .tmp t::r,vs,K,h,hK=>by
  simp only [we,Option.map_eq_some_iff] at h;obtain ⟨vs',h1,rfl⟩:=h;exact jE r vs' _ h1 hK
 | .cell a t::r,vs,K,h,hK=>by
  unfold we at h;split at h
  ·rename_i v hv;simp only [Option.map_eq_some_iff] at h;obtain ⟨vs',h1,rfl⟩:=h;exact ig hv (jE r vs' _ h1 hK)
  ·cases h
theorem mi {rs:List ResultVar} {f m:Nat} {st:St} {r:V} {σ':ae} (h:zc P M rs f m st=some (r,σ')):ah P G m rs r σ' st:=by
 unfold zc at h;split at h
 ·cases h
 ·rename_i vs0 _;simp only at h;have hle:bK G m st (if M f=true then st else eW 50 (oz [] vs0) st):=by
   split
   ·exact bK.refl G m st
   ·exact et m _ _ _
  revert h hle;generalize (if M f=true then st else eW 50 (oz [] vs0) st)=st1;intro h hle;split at h
  ·cases h
  ·rename_i vs hvs;split at h
   ·rename_i hl;simp only [Option.some.injEq,Prod.mk.injEq] at h;exact aN.via hle (aN.now (jE _ _ _ hvs ⟨_,h.1,by rw [h.2];exact fun _ _ h=>h,hl⟩))
   ·cases h
theorem xF {a b:Value} (h:IX a b=true):a=b:=by
 unfold IX at h;split at h
 ·simp at h;rw [h.1,h.2]
 ·simp at h;rw [h]
 ·rename_i a b;cases a;cases b;simp at h;simp [h]
 ·rfl
 ·rfl
 ·rfl
 ·cases h
mutual
theorem lj : ∀(a b:D),Ck a b=true→a=b
 | .lit a,b,h=>by
  cases b<;>simp only [Ck,Bool.false_eq_true] at h
  rw [xF h]
 | .agg a,b,h=>by
  cases b<;>simp only [Ck,Bool.false_eq_true] at h
  rw [du _ _ h]
 | .sd k f a,b,h=>by
  cases b<;>simp only [Ck,Bool.false_eq_true,Bool.and_eq_true,beq_iff_eq] at h
  rw [h.1.1,h.1.2,du _ _ h.2]
 | .pd k a i j,b,h=>by
  cases b<;>simp only [Ck,Bool.false_eq_true,Bool.and_eq_true,beq_iff_eq] at h
  rw [h.1.1.1,h.1.1.2,h.1.2,du _ _ h.2]
 | .fn f a,b,h=>by
  cases b<;>simp only [Ck,Bool.false_eq_true,Bool.and_eq_true,beq_iff_eq] at h
  rw [h.1,du _ _ h.2]
 | .ifc t a,b,h=>by
  cases b<;>simp only [Ck,Bool.false_eq_true,Bool.and_eq_true,beq_iff_eq] at h
  rw [h.1,lj _ _ h.2]
 | .bf f a,b,h=>by
  cases b<;>simp only [Ck,Bool.false_eq_true,Bool.and_eq_true,beq_iff_eq] at h
  rw [h.1,du _ _ h.2]
 | .ne k,b,h=>by cases b<;>simp only [Ck,Bool.false_eq_true] at h
theorem du : ∀(a b:List D),sR a b=true→a=b
 | [],b,h=>by
  cases b<;>simp only [sR,Bool.false_eq_true] at h
  rfl
 | x::xs,b,h=>by
  cases b<;>simp only [sR,Bool.false_eq_true,Bool.and_eq_true] at h
  rw [lj _ _ h.1,du _ _ h.2]
end
theorem qZ : ∀ {a:List V} {b:List D},Ki a b=true→a=b.map V.d
 | [],b,h=>by
  cases b<;>simp only [Ki,Bool.false_eq_true] at h
  rfl
 | x::xs,b,h=>by
  cases b with
  | nil=>cases x<;>simp only [Ki,Bool.false_eq_true] at h
  | cons y ys=>
   cases x<;>simp only [Ki,Bool.false_eq_true,Bool.and_eq_true] at h
   rw [lj _ _ h.1,qZ h.2];rfl
def aZ (P:Program) (G:Gl) (T:sq):Prop:= ∀x∈T,aq P G x.1 (x.2.1.map V.d) [] 0 x.2.2 []
theorem aZ.nil:aZ P G []:=fun x h=>by cases h
theorem aZ.cons {f:Nat} {az:List D} {r:V} {T:sq} (h:aq P G f (az.map V.d) [] 0 r []) (k:aZ P G T):aZ P G ((f,az,r)::T):=fun x hx=>by
 rcases List.mem_cons.1 hx with rfl|hx
 ·exact h
 ·exact k x hx
theorem lI : ∀ {T:sq} {f:Nat} {args:List V} {v:V},aZ P G T→orc T f args=some v→aq P G f args [] 0 v []
 | [],_,_,_,_,h=>by cases h
 | (g,az,r)::t,f,args,v,hT,h=>by
  have ht:aZ P G t:=fun x hx=>hT x (List.mem_cons_of_mem _ hx)
  simp only [orc] at h;split at h
  ·rename_i hg;split at h
   ·rename_i ha;injection h with h;have:=hT _ List.mem_cons_self;rw [Nat.eq_of_beq_eq_true hg,←qZ ha,h] at this;exact this
   ·exact lI ht h
  ·exact lI ht h
theorem yw {f:Nat} {args:List V} {σ:ae} {m:Nat} {v:V} (hT:aZ P G M.orc) (h:JI M f args σ m=some v):aq P G f args σ m v []:=by
 unfold JI at h;split at h
 ·exact lI hT h
 ·cases h
theorem om (hT:aZ P G M.orc) {code:db} (h:gP P G code) : ∀f args σ m r σ',Gj P M code f args σ m=some (r,σ')→aq P G f args σ m r σ':=by
 intro f args σ m r σ' hf;unfold Gj at hf;split at hf
 ·rename_i v hv;injection hf with hf;injection hf with h1 h2;subst h1;subst h2;exact yw hT hv
 split at hf
 ·cases hf
 ·rename_i fn hfn;split at hf
  ·cases hf
  ·rename_i c hc;split at hf
   ·rename_i hok;refine aq.of_aw hfn hc (rs:=fn.results.toList) (by simp) rfl hok.2 ?_;have hle:bK G m ⟨fg 0 args,σ,m⟩ (if M f=true then ⟨fg 0 args,σ,m⟩ else eW 50 (List.range m) ⟨fg 0 args,σ,m⟩):=by
     split
     ·exact bK.refl G m _
     ·exact et m _ _ _
    refine AW.le hle ?_;split at hf
    ·rename_i st hst;exact (h.aw hst hok.1 m).mono fun e s ⟨h1,h2⟩=>by subst h1;subst h2;exact mi hf
    ·rename_i st hst;exact (h.aw hst hok.1 m).mono fun e s ⟨h1,h2⟩=>by subst h1;subst h2;exact mi hf
    ·cases hf
   ·cases hf
theorem yG {ih:db} (hih:gP P G ih) : ∀i args σ id v σ',JT ih i args σ id=some (v,σ')→md P G i args σ id v σ':=by
 intro i args σ id v σ' h;unfold JT at h;split at h
 ·rename_i y e hg;split at h
  ·rename_i hc;obtain ⟨c1,c2,c3,c4,c5,c6,c7⟩:=hc;split at h
   ·rename_i st1 h1;split at h
    ·rename_i ex st2 h2;split at h
     ·rename_i j hj;split at h
      ·rename_i hl;simp only [Option.some.injEq,Prod.mk.injEq] at h;obtain ⟨rfl,rfl⟩:=h;refine md.of hg c1 c2 c3 c4 c5 ((hih.aw h1 c6 id).mono ?_);rintro ex1 st3 ⟨rfl,rfl⟩;refine (hih.aw h2 c7 id).mono ?_;rintro ex2 st4 ⟨rfl,rfl⟩;have fin:Cy G σ id i y e j (.d (.lit (.bool j.isNone))) ((i,.rc y j e)::st4.sg.sel (jG σ id (Gk id (dQ st4.sg ((σ.filter fun p=>decide (p.1<id)).map fun p=> .po p.1 0))))) st4:=⟨rfl,aN.now ⟨_,hl,fun _ _ h=>h⟩⟩
       cases ex2<;>simp only [Option.some.injEq,reduceCtorEq] at hj<;>subst hj<;>exact fin
      ·cases h
     ·cases h
    ·cases h
   ·cases h
  ·cases h
 ·cases h
theorem nQ {α:Type} {v:V} {k:Nat→List V→Option α} {y:α} (h:sD v k=some y) : ∃f caps,k f caps=some y ∧ ∀w I β x,ax w I β v x → ∃cv:List Value,x = .func (.func f) #[] cv.toArray∧bU w I β caps cv:=by
 unfold sD at h;split at h
 ·exact ⟨_,_,h,fun w I β x hd=>CV hd⟩
 ·exact ⟨_,_,h,fun w I β x hd=>qR hd⟩
 ·cases h
theorem yH {ih:db} (hih:gP P G ih) {n m:Nat} {g:Operand} {ps:Array Nat} {asg body:Code} {st st':St} {e:Exit} {k:Nat} {caps:List V} (hg : ∀w I β x,ax w I β (di G st.env.get g) x → ∃cv:List Value,x = .func (.func k) #[] cv.toArray∧bU w I β caps cv)
 (h:JU P ih n ps asg body st k caps=some (e,st')):AW P G n m (.rangeFunc g ps asg body) st (jo e st'):=by
 unfold JU at h;split at h
 ·cases h
 ·rename_i fn hf;split at h
  ·cases h
  ·rename_i c hb;split at h
   ·rename_i hc;obtain ⟨c1,c2,c3,c4⟩:=hc;have hrs:fn.results = #[]:=by
     apply Array.toList_inj.1;simpa using c2
    have fin : ∀st1,GM st st1=some (e,st')→Fs G st (jo e st') st1:=by
     intro st1 ho;unfold GM at ho;split at ho
     ·rename_i y' e' hx;simp only [Option.some.injEq,Prod.mk.injEq] at ho;exact aN.now ⟨_,_,_,hx,ho.1,ho.2⟩
     ·rename_i y' e' hx;simp only [Option.some.injEq,Prod.mk.injEq] at ho;exact aN.now ⟨_,_,_,hx,ho.1,ho.2⟩
     ·rename_i y' q e' hx;simp only [Option.some.injEq,Prod.mk.injEq] at ho;exact aN.now ⟨_,_,_,hx,ho.1,ho.2⟩
     ·cases ho
    split at h
    ·rename_i st1 h1;refine pb hg c1 hf hb hrs c3 ((hih.aw h1 c4 (st.nx+1)).mono ?_);rintro ex st2 ⟨rfl,rfl⟩;exact fin _ h
    ·rename_i st1 h1;refine pb hg c1 hf hb hrs c3 ((hih.aw h1 c4 (st.nx+1)).mono ?_);rintro ex st2 ⟨rfl,rfl⟩;exact fin _ h
    ·cases h
   ·cases h
theorem uo (ho:P.follows .mixedOrders=true) (hT:aZ P G M.orc) {ih:db} (hih:gP P G ih):gP P G (CN P G M ih):=by
 intro n lm c st e st' h m hok;have key : ∀ {c:Code},(∀c',c ≠ .loop c')→AW P G n m c st (jo e st')→AW P G n m c st (jo e st') ∧ ∀c',c = .loop c'→AL P G n m c' st (jo e st'):=fun hne h=>⟨h,fun c' e=>absurd e (hne c')⟩
 unfold CN at h;split at h
 ·simp only [Option.some.injEq,Prod.mk.injEq] at h;obtain ⟨rfl,rfl⟩:=h;exact key (fun _=>by simp) (fun _ _ C a w _ _ hr=>wpIn_skip ⟨st,⟨rfl,rfl⟩,hr⟩)
 ·exact key (fun _=>by simp) ((yD ho ⟨om hT hih,yG hih⟩ hok h).le ((et m _ _ _).trans (ER M _ m _)))
 ·rename_i x y;refine key (fun _=>by simp) ?_;simp only [aE,Bool.and_eq_true] at hok;split at h
  ·rename_i st1 h1;intro fr hfr C a w hn hm hr;refine wpIn_seq (wpIn_mono (hih.aw h1 hok.1 m fr (hfr.imp id (fun h=>(by simpa only [lF,Bool.and_eq_true] using h:_∧_).1)) C a w hn hm hr) ?_);rintro e2 a' w' ⟨st2,⟨rfl,rfl⟩,hr'⟩;exact hih.aw h hok.2 m fr (hfr.imp id (fun h=>(by simpa only [lF,Bool.and_eq_true] using h:_∧_).2)) C a' w' hn hm hr'
  ·rename_i hne;intro fr hfr C a w hn hm hr;refine wpIn_seq (wpIn_mono (hih.aw h hok.1 m fr (hfr.imp id (fun h=>(by simpa only [lF,Bool.and_eq_true] using h:_∧_).1)) C a w hn hm hr) ?_);rintro e2 a' w' ⟨st2,⟨rfl,rfl⟩,hr'⟩;cases e2 with
   | normal=>exact absurd h (hne st2)
   | _=>exact ⟨st2,⟨rfl,rfl⟩,hr'⟩
 ·rename_i cc x y;refine key (fun _=>by simp) ?_;simp only [aE,Bool.and_eq_true] at hok;have hd : ∀ {C:qf} {a:Act} {w:World} {b:Bool},na C G st a w→di G st.env.get cc = .d (.lit (.bool b))→a.eval cc = .bool b:=by
   intro C a w b hr hb;obtain ⟨I,β,h1,h2,h3,h4,h5,h6⟩:=id hr;have hd:=nh (e:=st.env) (a:=a) h3 h6 cc;rw [hb] at hd;exact an hd
  split at h
  ·rename_i hb;intro fr hfr C a w hn hm hr;exact wpIn_cond_true (hd hr hb) (hih.aw h hok.1 m fr (hfr.imp id (fun h=>(by simpa only [lF,Bool.and_eq_true] using h:_∧_).1)) C a w hn hm hr)
  ·rename_i hb;intro fr hfr C a w hn hm hr;exact wpIn_cond_false (hd hr hb) (hih.aw h hok.2 m fr (hfr.imp id (fun h=>(by simpa only [lF,Bool.and_eq_true] using h:_∧_).2)) C a w hn hm hr)
  ·cases h
 ·rename_i id x;refine key (fun _=>by simp) ?_;simp only [aE] at hok;split at h
  ·rename_i i st1 h1;intro fr hfr C a w hn hm hr;refine wpIn_block (wpIn_mono (hih.aw h1 hok m fr hfr C a w hn hm hr) ?_);rintro e2 a' w' ⟨st2,⟨rfl,rfl⟩,hr'⟩;simp only [Exit.inBlock];split at h<;>rename_i hi<;>simp only [Option.some.injEq,Prod.mk.injEq] at h<;>obtain ⟨rfl,rfl⟩:=h
   ·rw [if_pos hi];exact ⟨_,⟨rfl,rfl⟩,hr'⟩
   ·rw [if_neg hi];exact ⟨_,⟨rfl,rfl⟩,hr'⟩
  ·rename_i hne;intro fr hfr C a w hn hm hr;refine wpIn_block (wpIn_mono (hih.aw h hok m fr hfr C a w hn hm hr) ?_);rintro e2 a' w' ⟨st2,⟨rfl,rfl⟩,hr'⟩;cases e2 with
   | exit i=>exact absurd h (hne i st2)
   | _=>exact ⟨st2,⟨rfl,rfl⟩,hr'⟩
 ·rename_i x;have hok':aE n x=true:=hok;have hal:AL P G n m x st (jo e st'):=by
   split at h
   ·rename_i st1 h1;exact AL.round (hih.aw h1 hok' m) ((hih n lm _ st1 e st' h m hok).2 x rfl)
   ·rename_i hne;exact AL.out (fun he=>by subst he;exact hne st' h) (hih.aw h hok' m)
  exact ⟨hal.aw,fun c' e=>by injection e with e;subst e;exact hal⟩
 ·simp only [Option.some.injEq,Prod.mk.injEq] at h;obtain ⟨rfl,rfl⟩:=h;exact key (fun _=>by simp) (fun _ _ C a w _ _ hr=>wpIn_exit ⟨st,⟨rfl,rfl⟩,hr⟩)
 ·simp only [Option.some.injEq,Prod.mk.injEq] at h;obtain ⟨rfl,rfl⟩:=h;exact key (fun _=>by simp) (fun _ _ C a w _ _ hr=>wpIn_ret ⟨st,⟨rfl,rfl⟩,hr⟩)
 ·simp only [Option.some.injEq,Prod.mk.injEq] at h;obtain ⟨rfl,rfl⟩:=h;exact key (fun _=>by simp) (fun _ _ C a w _ _ hr=>wpIn_label ⟨st,⟨rfl,rfl⟩,hr⟩)
 ·rename_i g ps a c;refine key (fun _=>by simp) ?_;obtain ⟨k,caps,h1,h2⟩:=nQ h;exact yH hih h2 h1
 ·rename_i x;refine key (fun _=>by simp) ?_;simp only [aE] at hok;split at h
  ·cases h
  ·rename_i hne;intro fr hfr C a w hn hm hr;refine dS (wpIn_mono (hih.aw h hok m fr hfr C a w hn hm hr) ?_);rintro e2 a' w' ⟨st2,⟨rfl,rfl⟩,hr'⟩;cases e2 with
   | goto l=>exact absurd h (hne l st2)
   | _=>exact ⟨st2,⟨rfl,rfl⟩,hr'⟩
 ·cases h
theorem mh (ho:P.follows .mixedOrders=true) (hT:aZ P G M.orc) : ∀n,gP P G (CZ P G M n)
 | 0=>fun _ _ _ _ _ _ h=>by cases h
 | n+1=>uo ho hT (mh ho hT n)
theorem pi (ho:P.follows .mixedOrders=true) (hT:aZ P G M.orc) (n:Nat) : ∀f args σ m r σ',JW P G M n f args σ m=some (r,σ')→aq P G f args σ m r σ':=om hT (mh ho hT n)
end
end Go.Proofs.YtkkanlcjjpoklaaGreatDoor
set_option linter.unusedSimpArgs false
set_option linter.unusedVariables false
set_option maxRecDepth 8000
namespace Go.Proofs.YtkkanlcjjpoklaaGreatDoor
abbrev Nr:D:= .lit (.pointer none)
abbrev ap:D:= .lit (.slice none 0 0)
abbrev iD (n:Int):D:= .lit (.int .i64 n)
abbrev gu (r:Int):D:= .lit (.int .i32 r)
abbrev M0:Nat→Bool:=fun _=>false
theorem Dq (G:Gl) (M:Nat→Bool) (n:Nat) {f:Nat} {args:List V} {v:V} (h:JW Tryz.prog G ⟨M,false,[]⟩ n f args [] 0=some (v,[])):aq Tryz.prog G f args [] 0 v []:=pi ab aZ.nil n f args [] 0 _ _ h
theorem eZ {G:Gl} (M:Nat→Bool) {T:sq} (hT:aZ Tryz.prog G T) (n:Nat) {f:Nat} {args:List V} {v:V} (h:JW Tryz.prog G ⟨M,true,T⟩ n f args [] 0=some (v,[])):aq Tryz.prog G f args [] 0 v []:=pi ab hT n f args [] 0 _ _ h
def MB:Nat→Bool:=fun k=>Nat.testBit 14615733561351007526297951578888938829512932094920907590725980377571682228763262116808301215744 k
end Go.Proofs.YtkkanlcjjpoklaaGreatDoor
