/- What the theorem leans on, part 7. -/
import Derived.Test.YtkkanlcjjpoklaaGreatDoorStUPAD
import Derived.Test.YtkkanlcjjpoklaaGreatDoorStUPAF
set_option linter.unusedVariables false
namespace Go.Proofs.YtkkanlcjjpoklaaGreatDoor
def fN {α:Type} (n:Nat) (k:Nat→α):α:=match n with
 | 0=>k 0
 | m+1=>k (Nat.succ m)
def fI {α:Type} (i:Int) (k:Int→α):α:=match i with
 | .ofNat n=>fN n fun n=>k (.ofNat n)
 | .negSucc n=>fN n fun n=>k (.negSucc n)
def fB {α:Type} (b:Bool) (k:Bool→α):α:=match b with
 | true=>k true
 | false=>k false
def O7 {α:Type} (v:Value) (k:Value→α):α:=match v with
 | .int kd i=>fI i fun i=>k (.int kd i)
 | .bool b=>fB b fun b=>k (.bool b)
 | v=>k v
def fD {α:Type} (x:D) (k:D→α):α:=match x with
 | .lit v=>O7 v fun v=>k (.lit v)
 | x=>k x
def fV {α:Type} (v:V) (k:V→α):α:=match v with
 | .d x=>fD x fun x=>k (.d x)
 | .so id kk lo n=>fN lo fun lo=>fN n fun n=>k (.so id kk lo n)
 | v=>k v
def fL {α:Type} : List D→(List D→α)→α
 | [],k=>k []
 | x::r,k=>fL r fun r=>k (x::r)
def O6 {α:Type} (b:bF) (k:bF→α):α:=match b with
 | .row n es tq=>fL es fun es=>k (.row n es tq)
 | b=>k b
def Ev (o:BinOp) (b:Int):Bool:=match o with
 | .quo=> !(b==0)
 | .rem=> !(b==0)
 | .shl=>decide (0≤b)
 | .shr=>decide (0≤b)
 | _=>true
def oY (o:BinOp) (a b:ByteArray):Bool:=match o with
 | .add=>decide (((a.size+b.size:Nat):Int)≤9223372036854775807)
 | _=>true
def RN (o q:Option (List CK)):Bool:=match o,q with
 | some ks,some ks'=>cz ks ks'
 | _,_=>false
def JS (P:Program) (o:BinOp) (t:Nat) (x y:V):Bool:=match x with
 | .d (.lit (.int _ _))=>(match y with
  | .d (.lit (.int _ b))=>Ev o b
  | _=>true)
 | .d (.lit (.string a))=>(match y with
  | .d (.lit (.string b))=>oY o a b
  | _=>true)
 | .d (.agg xs)=>(match y with
  | .d (.agg _)=>RN (IH P t) (gQ xs)
  | _=>true)
 | _=>true
def QK (lo hi:Option Int) (mx:Option Int) (n:Nat):Bool:=
 decide (0≤lo.getD 0)&&decide (lo.getD 0≤hi.getD n)&&decide (hi.getD n≤mx.getD n)&&decide (mx.getD n≤n)
def PO (x:V) (lo hi mx:Option V):Bool:=match t6 lo,t6 hi,t6 mx with
 | some lo,some hi,some mx=>(match x with
  | .d (.lit (.string s))=>QK lo hi mx s.size
  | .d (.sd _ _ es)=>QK lo hi mx es.length
  | .so _ _ _ n=>QK lo hi mx n&&(decide (lo.getD 0<n)||decide (lo.getD 0=0))
  | _=>true)
 | _,_,_=>true
def PN (i:V) (n:Nat):Bool:=match kH i with
 | some i=>decide (0≤i)&&decide (i<n)
 | none=>true
def JT (P:Program) (t:Nat) (a i:V):Bool:=match a with
 | .d (.sd _ _ es)=>PN i es.length
 | .so _ _ _ m=>PN i m
 | _=>(match Lb P t with
  | some x=>PN i x.1
  | none=>true)
def PL (P:Program) (t:Nat) (a i:V):Bool:=match a with
 | .d (.lit (.string s))=>PN i s.size
 | _=>(match Lb P t with
  | some x=>PN i x.1
  | none=>true)
def FU (k:Nat) (x:D):Bool:=decide (x.cells.length=k)&&(V.d x).cellOk
def PI (P:Program) (t:Nat) (ps:List (Nat × V)):Bool:=match qv P t with
 | some x=>(match xU 0 ps with
  | some es=>es.all (FU x.1)
  | none=>true)
 | none=>true
def PM (P:Program) (t:Nat) (l c:V):Bool:=match Oa P t with
 | some (_,bytes,_)=>(match kH l,kH c with
  | some l,some c=>decide (0≤l)&&decide (l≤c)&&decide (c≤1099511627776)&&decide (c*bytes≤140737488355328)
  | _,_=>true)
 | none=>true
def PP (P:Program) (t:Nat) (a x:V) (σ:ak):Bool:=match a with
 | .pe i k ix j=>(match cF P t,σ.get i,x with
  | some (s,_),some (.row _ es _),.d y=>decide (ix<es.length)&&(if j=0∧s=k then FU k y else FU s y)
  | _,_,_=>true)
 | _=>true
def CN (σ:ak) (x:V):Bool:=match x with
 | .so id _ lo n=>(match σ.get id with
  | some (.row _ es _)=>decide (lo+n≤es.length)
  | _=>true)
 | _=>true
def RO (n bytes:Nat):Bool:=decide (n≤140737488355328)&&decide (n*bytes≤140737488355328)
def JR (bytes:Nat) (s:V) (new:List D) (σ:ak):Bool:=match s with
 | .d (.lit _)=>RO new.length bytes
 | .d (.sd _ _ es)=>RO (es.length+new.length) bytes&&(es.isEmpty || !new.isEmpty)
 | .so i0 _ lo n=>(match σ.get i0 with
  | some (.row _ es _)=>decide (lo=0)&&decide (n=es.length)&&RO (es.length+new.length) bytes
  | _=>true)
 | _=>true
def JQ (P:Program) (t:Nat) (s x:V) (σ:ak):Bool:=match qv P t with
 | some (k,bytes)=>CN σ x&&(match fb k σ x with
  | some y=>JR bytes s y.2 σ
  | none=>true)
 | none=>true
def PJ (d x:V) (σ:ak):Bool:=CN σ x&&CN σ d
def qa (y:D):Bool:=match y with
 | .lit (.int .u8 _)=>true
 | _=>false
def PK (P:Program) (s:Nat) (x:V) (σ:ak):Bool:=if LC P s=true then CN σ x&&(match fb 1 σ x with
 | some y=>y.2.all qa
 | none=>true) else true
def PQ (x n:V) (σ:ak):Bool:=match x,n with
 | .pe id _ _ _,.d (.lit (.int _ m))=>(match σ.get id with
  | some (.row _ es _)=>(es.take m.toNat).all qa
  | _=>true)
 | _,_=>true
def nW (P:Program) (c:Call) (g:Operand→V) (σ:ak):Bool:=match c.callee,c.args.toList,c.argTypes.toList with
 | .builtin .append,[s,x],[t,_]=>JQ P t (g s) (g x) σ
 | .builtin .copy,[d,x],_=>PJ (g d) (g x) σ
 | .builtin .unsafeString,[x,n],_=>PQ (g x) (g n) σ
 | .builtin .clear,[x],_=>(match g x with
  | .so id _ lo n=>(match σ.get id with
   | some (.row _ es _)=>decide (lo+n=es.length)
   | _=>true)
  | _=>true)
 | _,_,_=>true
def BK (P:Program) (op:Op) (g:Operand→V) (σ:ak):Bool:=match op with
 | .binOp o t x y _=>JS P o t (g x) (g y)
 | .slice _ x lo hi mx=>PO (g x) (lo.map g) (hi.map g) (mx.map g)
 | .indexAddr t x i=>JT P t (g x) (g i)
 | .index t x i=>PL P t (g x) (g i)
 | .buildSlice t _ ps=>PI P t (ps.toList.map fun p=>(p.1,g p.2))
 | .makeSlice t l c=>PM P t (g l) (g c)
 | .store t a x=>PP P t (g a) (g x) σ
 | .convert s _ x=>PK P s (g x) σ
 | .call c=>nW P c g σ
 | .mapUpdate t _ _ _=>(CD P t).isNone
 | .lookup t _ _ _=>(CD P t).isNone
 | _=>true
def KJ (o:BinOp) (a b:ByteArray):Option V:=match o with
 | .add=>some (.d (.lit (.string ⟨⟨a.data.toList++b.data.toList⟩⟩)))
 | .eql=>some (.d (.lit (.bool (a.data.toList==b.data.toList))))
 | .neq=>some (.d (.lit (.bool (!(a.data.toList==b.data.toList)))))
 | _=>none
def KU (op:Op) (g:Operand→V):Option (BinOp × ByteArray × ByteArray):=match op with
 | .binOp o _ x y _=>(match g x with
  | .d (.lit (.string a))=>(match g y with
   | .d (.lit (.string b))=>some (o,a,b)
   | _=>none)
  | _=>none)
 | _=>none
def LV (k:Nat) (es:List D) (i j:Nat) (x:Nat × Bool):Option V:=match es[i]? with
 | some e=>(vV x.2 j x.1 k e).map .d
 | none=>none
def zW (P:Program) (t:Nat) (a:V) (σ:ak):Option V:=match cF P t with
 | none=>none
 | some x=>match a with
  | .d (.pd k es i j)=>LV k es i j x
  | .po id o=>(match σ.get id with
   | some (.cell cs _)=>jP x.2 o x.1 cs
   | _=>none)
  | .pe id k i j=>(match σ.get id with
   | some (.row k' es _)=>if k=k' then LV k es i j x else none
   | _=>none)
  | _=>none
def JI (x:V) (σ:ak):Option (V × ak):=match x with
 | .it id=>(match σ.get id with
  | some (.iter s pos)=>if pos<s.size then some (.tup [.d (.lit (.bool true)),.d (.lit (.int .i64 pos)),.d (.lit (.int .i32 (Utf8.decode s pos).1))],σ.set id (.iter s (pos+(Utf8.decode s pos).2))) else some (.tup [.d (.lit (.bool false))],σ)
  | _=>none)
 | _=>none
def wX {α:Type} (v:V) (k:Nat→List V→Option α):Option α:=match v with
 | .d (.fn f caps)=>k f (caps.map .d)
 | .fn f caps=>k f caps
 | _=>none
def ka (v:V) (al:List V):List V:=match v with
 | .d (.fn _ caps)=>al++caps.map .d
 | .fn _ caps=>al++caps
 | .d (.bf _ fs)=>fs.map .d++(al++[])
 | _=>al
def pT {α:Type} (v:V) (al:List V) (k:Nat→List V→Option α):Option α:=match v with
 | .d (.fn f _)=>k f (ka v al)
 | .fn f _=>k f (ka v al)
 | .d (.bf f _)=>k f (ka v al)
 | _=>none
def Ez (c a b:V):Option V:=match c with
 | .d (.lit (.bool t))=>some (match t with|true=>a|false=>b)
 | _=>none
abbrev Lm:=Nat→List V→ak→Nat→Option (V × ak)
structure E3 where
 call:Lm
 rnd:Lm
def K2 (P:Program) (op:Op) (g:Operand→V) (σ:ak) (id:Nat):Option (V × ak):=match KU op g with
 | some (o,a,b)=>if oY o a b=true then (KJ o a b).map fun v=>(v,σ) else none
 | none=>if BK P op g σ=true then (match cX P op g σ id with
  | some r=>some (r.2.1,r.2.2)
  | none=>none) else none
def sn (P:Program) (op:Op) (g:Operand→V) (σ:ak) (id:Nat):Option (V × ak):=match op with
 | .pick c a b=>(Ez (g c) (g a) (g b)).map fun v=>(v,[])
 | .load t x=>(zW P t (g x) σ).map fun v=>(v,[])
 | .call c=>(match c.callee with
  | .builtin _=>if BK P op g σ=true then (match a8 P op g σ id with
   | some r=>some (r.2.1,r.2.2)
   | none=>none) else none
  | _=>none)
 | op=>match KU op g with
  | some (o,a,b)=>if oY o a b=true then (KJ o a b).map fun v=>(v,[]) else none
  | none=>if BK P op g σ=true then (match a8 P op g σ id with
   | some r=>some (r.2.1,r.2.2)
   | none=>none) else none
def fg (σ:ak) (vs:List V):List Nat:=F7 σ (F7 σ (F7 σ (rx [] vs)))
def uT (P:Program) (run:E3) (f:Nat) (args:List V) (σ:ak) (id:Nat):Option (V × ak):=
 if cx P f=true then
  (if HH (fg σ args) id σ=true then
   (match run.call f (args.map (V.sel (fw (fg σ args)))) (σ.sel (fw (fg σ args))) (fg σ args).length with
   | some r=>some (r.1.sel (bk (fg σ args) id),ld σ (fg σ args)++r.2.sel (bk (fg σ args) id))
   | none=>none) else none)
 else (match rd P f args with
  | some v=>some (v,σ)
  | none=>none)
def pj (P:Program) (run:E3) (op:Op) (g:Operand→V) (σ:ak) (id:Nat):Option (V × ak):=match op with
 | .pick c a b=>(Ez (g c) (g a) (g b)).map fun v=>(v,σ)
 | .load t x=>(zW P t (g x) σ).map fun v=>(v,σ)
 | .next x isStr=>if isStr=true then JI (g x) σ else none
 | .call c=>(match c.callee with
  | .value f=>(match g f with
   | .yl i=>run.rnd i (c.args.toList.map g) σ id
   | v=>pT v (c.args.toList.map g) fun k al=>uT P run k al σ id)
  | .builtin _=>K2 P op g σ id
  | .invoke _ _=>none)
 | op=>K2 P op g σ id
def lp (ops:Array Oper) (o:Oper) (e:aN):Option (Bool × aN):=match o.guard with
 | none=>some (true,e)
 | some (j,want)=>match (ops[j]?).bind (·.dst) with
  | none=>none
  | some d=>match e.get d with
   | .d (.lit (.bool b))=>some (b==want,e.put d (.d (.lit (.bool b))))
   | .tup []=>some (false,e)
   | _=>none
def bQ {α:Type} (s:String):Option α:=none
def Cd {α:Type} (σ:ak) (k:ak→α):α:=match σ with
 | []=>k []
 | (i,b)::r=>O6 b fun b=>k ((i,b)::r)
def GI (P:Program) (G:Gl) (run:E3) (ops:Array Oper) (base:Nat):Nat→List Oper→aN→ak→Option (aN × ak)
 | _,[],e,σ=>some (e,σ)
 | i,o::r,e,σ=>match lp ops o e with
  | some (true,e)=>(match pj P run o.op (ep G e.get) σ (base+4*i) with
   | some (v,σ')=>fV v fun v=>Cd σ' fun σ'=>GI P G run ops base (i+1) r (e.putO o.dst v) σ'
   | none=>bQ o.pos)
  | some (false,e)=>GI P G run ops base (i+1) r (e.putO o.dst (.tup [])) σ
  | none=>bQ o.pos
def Vi (vs:List V):Bool:=(rx [] vs).isEmpty
def Ih (P:Program) (run:E3) (f:Nat) (args:List V) (id:Nat):Option (V × ak):=
 if cx P f=true then
  (match run.call f (args.map (V.sel (fw []))) [] 0 with
   | some r=>some (r.1.sel (bk [] id),r.2.sel (bk [] id))
   | none=>none)
 else (match rd P f args with
  | some v=>some (v,[])
  | none=>none)
def oG (P:Program) (run:E3) (lo:List Nat) (ops:Array Oper) (i:Nat) (op:Op) (g:Operand→V) (σp acc:ak) (id:Nat):Option (Bool × V × ak):=match op with
 | .call c=>(match c.callee with
  | .value f=>(match g f with
   | .yl j=>if f7 lo ops i=true then (run.rnd j (c.args.toList.map g) (σp++acc) id).map fun r=>(false,r) else none
   | v=>pT v (c.args.toList.map g) fun k al=>if Vi al=true then (Ih P run k al id).map fun r=>(true,r)
    else if f7 lo ops i=true then (uT P run k al (σp++acc) id).map fun r=>(false,r) else none)
  | _=>none)
 | _=>none
def jL (P:Program) (G:Gl) (run:E3) (ops:Array Oper) (base:Nat):Nat→List Oper→aN→ak→ak→Option (aN × ak)
 | _,[],e,σp,acc=>some (e,σp++acc)
 | i,o::r,e,σp,acc=>match lp ops o e with
  | some (true,e)=>
   if zJ o.op=true then (match pj P run o.op (ep G e.get) (σp++acc) (base+4*i) with
    | some (v,σ')=>fV v fun v=>Cd σ' fun σ'=>jL P G run ops base (i+1) r (e.putO o.dst v) σ' []
    | none=>bQ o.pos)
   else if dj o.op=true then (match oG P run [] ops i o.op (ep G e.get) σp acc (base+4*i) with
    | some (true,v,new)=>fV v fun v=>jL P G run ops base (i+1) r (e.putO o.dst v) σp (acc++new)
    | some (false,v,σ')=>fV v fun v=>jL P G run ops base (i+1) r (e.putO o.dst v) σ' []
    | none=>bQ o.pos)
   else (match sn P o.op (ep G e.get) σp (base+4*i) with
    | some (v,new)=>fV v fun v=>jL P G run ops base (i+1) r (e.putO o.dst v) σp (acc++new)
    | none=>bQ o.pos)
  | some (false,e)=>jL P G run ops base (i+1) r (e.putO o.dst (.tup [])) σp acc
  | none=>bQ o.pos
def Ap:V→Option Nat
 | .po i _=>some i
 | .pe i _ _ _=>some i
 | _=>none
def A7 (σk:ak) (op:Op) (g:Operand→V):Bool:=match op with
 | .store _ a _=>(match Ap (g a) with
  | some i=>(σk.get i).isNone
  | none=>false)
 | _=>false
def Oe:E3:=⟨fun _ _ _ _=>none,fun _ _ _ _=>none⟩
def DI (op:Op) (g:Operand→V):List V:=match op with
 | .call c=>(match c.callee with
  | .value f=>ka (g f) (c.args.toList.map g)
  | _=>[])
 | _=>[]
def RE (op:Op) (g:Operand→V):Bool:=match op with
 | .call c=>(match c.callee with
  | .value f=>(match g f with
   | .yl _=>true
   | _=>false)
  | _=>false)
 | _=>false
def RM (σk σ:ak) (op:Op) (g:Operand→V):Bool:= !RE op g&&(fg σ (DI op g)).all fun j=>(σk.get j).isNone
def AX (P:Program) (G:Gl) (ops:Array Oper) (base:Nat):Nat→List Oper→aN→ak→List Nat→List (Nat × Option Nat)→Bool→Option (List Nat × List (Nat × Option Nat) × Bool)
 | _,[],_,_,ids,lds,oc=>some (ids,lds,oc)
 | i,o::r,e,σ,ids,lds,oc=>match lp ops o e with
  | some (true,e)=>(match pj P Oe o.op (ep G e.get) σ (base+4*i) with
   | some (v,σ')=>fV v fun v=>Cd σ' fun σ'=>AX P G ops base (i+1) r (e.putO o.dst v) σ'
    (match o.op with
     | .store _ a _=>(match Ap (ep G e.get a) with
      | some k=>k::ids
      | none=>ids)
     | _=>ids)
    (match o.op with
     | .load _ a=>(i,Ap (ep G e.get a))::lds
     | _=>lds) oc
   | none=>AX P G ops base (i+1) r (e.putO o.dst .unk) σ
    (match o.op with
     | .store _ a _=>(match Ap (ep G e.get a) with
      | some k=>k::ids
      | none=>ids)
     | op=>fg σ (DI op (ep G e.get))++ids) lds (oc||(dj o.op && !f7 [] ops i && !(fg σ (DI o.op (ep G e.get))).isEmpty)))
  | some (false,e)=>AX P G ops base (i+1) r (e.putO o.dst (.tup [])) σ ids lds oc
  | none=>AX P G ops base (i+1) r (e.putO o.dst .unk) σ ids lds oc
def QI (ids:List Nat):List (Nat × Option Nat)→List Nat
 | []=>[]
 | (i,none)::r=>i::QI ids r
 | (i,some k)::r=>if ids.contains k=true then QI ids r else i::QI ids r
def LN:List Nat→ak→ak
 | [],σ=>σ
 | i::r,σ=>LN r (σ.del i)
def jM (P:Program) (G:Gl) (run:E3) (lo:List Nat) (σk:ak) (ops:Array Oper) (base:Nat):Nat→List Oper→Bool→aN→ak→ak→Option (aN × ak)
 | _,[],_,e,σp,acc=>some (e,σp++acc)
 | i,o::r,kp,e,σp,acc=>match lp ops o e with
  | some (true,e)=>
   if zJ o.op=true then (if ((kp&&A7 σk o.op (ep G e.get))||wR lo ops i)=true then (match pj P run o.op (ep G e.get) (σp++acc) (base+4*i) with
    | some (v,σ')=>fV v fun v=>Cd σ' fun σ'=>jM P G run lo σk ops base (i+1) r (kp&&A7 σk o.op (ep G e.get)) (e.putO o.dst v) σ' []
    | none=>bQ o.pos) else bQ o.pos)
   else if dj o.op=true then (match oG P run lo ops i o.op (ep G e.get) σp acc (base+4*i) with
    | some (true,v,new)=>fV v fun v=>jM P G run lo σk ops base (i+1) r kp (e.putO o.dst v) σp (acc++new)
    | some (false,v,σ')=>if ((kp&&RM σk (σp++acc) o.op (ep G e.get))||wR lo ops i)=true then (fV v fun v=>jM P G run lo σk ops base (i+1) r (kp&&RM σk (σp++acc) o.op (ep G e.get)) (e.putO o.dst v) σ' []) else bQ o.pos
    | none=>bQ o.pos)
   else if lo.contains i=true then (match sn P o.op (ep G e.get) σk (base+4*i) with
    | some (v,[])=>fV v fun v=>jM P G run lo σk ops base (i+1) r kp (e.putO o.dst v) σp acc
    | _=>bQ o.pos)
   else (match sn P o.op (ep G e.get) σp (base+4*i) with
    | some (v,new)=>fV v fun v=>jM P G run lo σk ops base (i+1) r kp (e.putO o.dst v) σp (acc++new)
    | none=>bQ o.pos)
  | some (false,e)=>jM P G run lo σk ops base (i+1) r kp (e.putO o.dst (.tup [])) σp acc
  | none=>bQ o.pos
def U2 (op:Op):Bool:=match op with
 | .load _ _=>true
 | _=>false
def OP (B:List Nat) (i:Nat):Nat→List Oper→Bool
 | _,[]=>false
 | j,o::r=>((zJ o.op||dj o.op) && !(B.getD j 0).testBit i && !(B.getD i 0).testBit j)||OP B i (j+1) r
def U7 (ops:Array Oper) (lds:List (Nat × Option Nat)):List Nat:=(lds.map (·.1)).filter fun i=>OP (kZ [] ops.toList) i 0 ops.toList
def ZW (ops:Array Oper) (lds:List (Nat × Option Nat)) (σ:ak):List Nat:=(σ.map (·.1)).filter fun k=> !((lds.filter fun x=>OP (kZ [] ops.toList) x.1 0 ops.toList).any fun x=>x.2==some k)
def NZ (P:Program) (G:Gl) (run:E3) (ops:Array Oper) (st:St):Option (aN × ak):=
 if ct [] ops=true∧((ops.toList.any fun o=>dj o.op)&&ops.toList.any fun o=>U2 o.op)=false then jL P G run ops st.nx 0 ops.toList st.env st.sg []
 else match AX P G ops st.nx 0 ops.toList st.env st.sg [] [] false with
 | some (ids,lds,oc)=>if ct [] ops=true∧oc=false then jL P G run ops st.nx 0 ops.toList st.env st.sg []
  else if ct (QI ids lds) ops=true∧t5 (QI ids lds) 0 ops.toList=true then jM P G run (QI ids lds) (LN ids st.sg) ops st.nx 0 ops.toList true st.env st.sg []
  else if ct (U7 ops lds) ops=true∧t5 (U7 ops lds) 0 ops.toList=true then jM P G run (U7 ops lds) (LN (ZW ops lds st.sg) st.sg) ops st.nx 0 ops.toList true st.env st.sg []
  else bQ ((ops.toList.head?).elim "draw" fun o=>o.pos)
 | none=>none
def O4:Value→Value→Bool
 | .int k n,.int k' n'=>decide (k=k')&&decide (n=n')
 | .bool a,.bool b=>a==b
 | .string a,.string b=>a.data.toList==b.data.toList
 | .pointer none,.pointer none=>true
 | .slice none 0 0,.slice none 0 0=>true
 | .nilIface,.nilIface=>true
 | _,_=>false
mutual
def HF:D→D→Bool
 | .lit a,.lit b=>O4 a b
 | .agg a,.agg b=>xi a b
 | .sd k f a,.sd k' f' b=>k==k'&&f==f'&&xi a b
 | .pd k a i j,.pd k' b i' j'=>k==k'&&i==i'&&j==j'&&xi a b
 | .fn f a,.fn g b=>f==g&&xi a b
 | .ifc t a,.ifc u b=>t==u&&HF a b
 | .bf f a,.bf g b=>f==g&&xi a b
 | _,_=>false
def xi:List D→List D→Bool
 | [],[]=>true
 | x::xs,y::ys=>HF x y&&xi xs ys
 | _,_=>false
end
def QG:List V→List D→Bool
 | [],[]=>true
 | .d x::xs,y::ys=>HF x y&&QG xs ys
 | _,_=>false
abbrev wM:=List (Nat × List D × V)
def orc:wM→Nat→List V→Option V
 | [],_,_=>none
 | (g,az,r)::t,f,args=>match Nat.beq g f with
  | true=>(match QG args az with
   | true=>some r
   | false=>orc t f args)
  | false=>orc t f args
structure BH where
 fn:Nat→Bool
 trim:Bool:=false
 orc:wM:=[]
instance:CoeFun BH (fun _=>Nat→Bool):=⟨BH.fn⟩
def PW (M:BH) (f:Nat) (args:List V) (σ:ak) (m:Nat):Option V:=match σ,m with
 | [],0=>orc M.orc f args
 | _,_=>none
def Eo (M:BH) (g:Operand→V) (op:Op):List V:=match op with
 | .buildSlice _ _ ps=>ps.toList.map fun p=>g p.2
 | .makeInterface _ x=>[g x]
 | .store _ a x=>(match g a with
  | .pe _ _ _ _=>[g x]
  | _=>[])
 | .call c=>(match c.callee with
  | .value f=>(match g f with
   | .d (.fn k _)=>if M k=true then [] else c.args.toList.map g
   | .fn k caps=>if M k=true then [] else c.args.toList.map g++caps
   | .d (.bf k _)=>if M k=true then [] else c.args.toList.map g
   | _=>[])
  | _=>[])
 | _=>[]
def PD (M:BH) (g:Operand→V) (ops:List Oper):List V:=ops.flatMap fun o=>Eo M g o.op
def Ac (P:Program) (G:Gl) (M:BH) (ops:Array Oper) (base:Nat):Nat→List Oper→aN→ak→List V→List V
 | _,[],_,_,acc=>acc
 | i,o::r,e,σ,acc=>match lp ops o e with
  | some (true,e)=>(match pj P Oe o.op (ep G e.get) σ (base+4*i) with
   | some (v,σ')=>fV v fun v=>Cd σ' fun σ'=>Ac P G M ops base (i+1) r (e.putO o.dst v) σ' (Eo M (ep G e.get) o.op++acc)
   | none=>Ac P G M ops base (i+1) r (e.putO o.dst .unk) σ (Eo M (ep G e.get) o.op++acc))
  | some (false,e)=>Ac P G M ops base (i+1) r (e.putO o.dst (.tup [])) σ acc
  | none=>Ac P G M ops base (i+1) r (e.putO o.dst .unk) σ (Eo M (ep G e.get) o.op++acc)
def U3 (op:Op):Bool:=match op with
 | .buildSlice _ _ _=>true
 | .makeInterface _ _=>true
 | .call c=>(match c.callee with
  | .value _=>true
  | _=>false)
 | _=>false
def RL (P:Program) (G:Gl) (M:BH) (ops:Array Oper) (st:St):List V:=
 if (ops.toList.any fun o=>U3 o.op)=true then Ac P G M ops st.nx 0 ops.toList st.env st.sg [] else PD M (ep G st.env.get) ops.toList
def gt:Nat→List Nat→St→St
 | 0,_,st=>st
 | _,[],st=>st
 | n+1,i::r,st=>match st.sg.get i with
  | some (.cell cs _)=>gt n r ((gt n (rx [] cs) st).frz i)
  | some _=>gt n r (st.frz i)
  | none=>gt n r st
def Ud (i m:Nat):V→Nat
 | .so j _ lo n=>if j=i then Nat.max m (lo+n) else m
 | .pe j _ a _=>if j=i then Nat.max m (a+1) else m
 | _=>m
def X5 (i m:Nat):V→Nat
 | .agg l=>l.foldl (Ud i) m
 | .tup l=>l.foldl (Ud i) m
 | .fn _ l=>l.foldl (Ud i) m
 | v=>Ud i m v
def X4 (i:Nat):aN→Nat→Nat
 | [],m=>m
 | (_,v)::r,m=>X4 i r (X5 i m v)
def U9 (i:Nat):ak→Nat→Nat
 | [],m=>m
 | (_,.cell cs _)::r,m=>U9 i r (cs.foldl (X5 i) m)
 | _::r,m=>U9 i r m
def pm (e:aN) (σ:ak):ak→ak
 | []=>[]
 | (i,.row k es ty)::r=>fN (U9 i σ (X4 i e 0)) fun m=>if m<es.length then fL (es.take m) fun es=>(i,.row k es ty)::pm e σ r else (i,.row k es ty)::pm e σ r
 | x::r=>x::pm e σ r
def RD (op:Op):Bool:=match op with
 | .call c=>(match c.callee with
  | .builtin .append=>true
  | _=>false)
 | _=>false
def KS (M:BH) (ops:Array Oper) (st:St):St:=if M.trim=true then (if (ops.toList.any fun o=>RD o.op)=true then ⟨st.env,pm st.env st.sg st.sg,st.nx⟩ else st) else st
def keepM:Nat→aN→aN
 | _,[]=>[]
 | m,(k,v)::r=>if Nat.testBit m k=true then (k,v)::keepM (m ^^^ 2 ^ k) r else keepM m r
def Qc (P:Program) (G:Gl) (M:BH) (run:E3) (lm:Nat) (ops:Array Oper) (draw:Bool) (st:St):Option (Exit × St):=
 match (match draw with
  | true=>NZ P G run ops st
  | false=>GI P G run ops st.nx 0 ops.toList st.env st.sg) with
 | some (e,σ)=>fN (st.nx+4*ops.size) fun nx=>some (.normal,⟨keepM lm e,σ,nx⟩)
 | none=>none
def AI (P:Program):List ResultVar→St→Option (List V)
 | [],_=>some []
 | .tmp t::r,st=>(AI P r st).map fun vs=>st.env.get t::vs
 | .cell a t::r,st=>match zW P t (st.env.get a) st.sg with
  | some v=>(AI P r st).map fun vs=>v::vs
  | none=>none
def DR (P:Program) (M:BH) (rs:List ResultVar) (f m:Nat) (st:St):Option (V × ak):=
 match AI P rs st with
 | none=>bQ "result"
 | some vs0=>
  let st:=if M f=true then st else gt 50 (rx [] vs0) st
  match AI P rs st with
  | none=>bQ "result"
  | some vs=>
   let l:=Me m (fg st.sg (vs++(List.range m).map fun i=> .po i 0))
   if l.length≤4 then some ((pH vs).sel (jZ m l),st.sg.sel (jZ m l)) else bQ "names"
def JG (x:Operand) (m:Nat):Nat:=match x with
 | .tmp t=>m ||| 2 ^ t
 | _=>m
def N9:List Oper→Nat→Nat→Nat
 | [],_,m=>m
 | o::r,d,m=>N9 r (match o.dst with|some t=>d ||| 2 ^ t|none=>d)
  (m ||| ((o.op.operands.toList.foldr JG 0) &&& (d ^^^ (2 ^ 600 - 1))))
def kR:Code→Nat→Nat
 | .region _ ops _,m=>N9 ops.toList 0 m
 | .seq a b,m=>kR b (kR a m)
 | .cond c a b,m=>kR b (kR a (JG c m))
 | .block _ c,m=>kR c m
 | .loop c,m=>kR c m
 | .scope c,m=>kR c m
 | .rangeFunc g _ a c,m=>JG g (kR a (kR c m))
 | _,m=>m
def JF:List ResultVar→Nat→Nat
 | [],m=>m
 | .tmp t::r,m=>JF r (m ||| 2 ^ t)
 | .cell t _::r,m=>JF r (m ||| 2 ^ t)
def N8 (fn:Func) (c:Code):Nat:=fN (JF fn.results.toList (kR c 0)) id
abbrev d7:=Nat→Nat→Code→St→Option (Exit × St)
def Q5:Nat:=2 ^ 600 - 1
def Qf (ih:d7):Lm:=fun i args σ id=>match σ.get i with
 | some (.rc y none e)=>
  if i<id∧y.ps.toList.all (fun p=>decide (p<y.n))=true∧args.length=y.ps.size∧nV y.asg=true∧nV y.body=true∧aP y.n y.asg=true∧aP y.n y.body=true then
   (match ih y.n Q5 y.asg ⟨jB y.ps.toList (args.map (V.sel (jn id))) (e.sel (jn id)),(σ.del i).sel (jn id),id⟩ with
   | some (.normal,st1)=>(match ih y.n Q5 y.body st1 with
    | some (ex,st2)=>(match (match ex with
     | .normal=>some none
     | .ret=>some (some Code.ret)
     | .exit k=>some (some (Code.exit k))
     | _=>none) with
     | some j=>if (Me id (fg st2.sg ((σ.filter fun p=>decide (p.1<id)).map fun p=> .po p.1 0))).length≤4 then
      some (.d (.lit (.bool j.isNone)),(i,.rc y j e)::st2.sg.sel (lN σ id (Me id (fg st2.sg ((σ.filter fun p=>decide (p.1<id)).map fun p=> .po p.1 0))))) else bQ "names of a round"
     | none=>none)
    | none=>none)
   | _=>none) else bQ "round"
 | _=>bQ "no round"
def MF (st st':St):Option (Exit × St):=match st'.sg.get st.nx with
 | some (.rc _ none _)=>some (.normal,⟨st.env,st'.sg.del st.nx,st'.nx⟩)
 | some (.rc _ (some .ret) _)=>some (.ret,⟨st.env,st'.sg.del st.nx,st'.nx⟩)
 | some (.rc _ (some (.exit k)) _)=>some (.exit k,⟨st.env,st'.sg.del st.nx,st'.nx⟩)
 | _=>bQ "behind a loop"
def Qg (P:Program) (ih:d7) (n:Nat) (ps:Array Nat) (asg body:Code) (st:St) (k:Nat) (caps:List V):Option (Exit × St):=match P.funcs[k]? with
 | none=>none
 | some fn=>match fn.body with
  | none=>none
  | some c=>if cx P k=true∧fn.results.toList.isEmpty=true∧caps.length+1≤fn.ntmps∧aP fn.ntmps c=true then
   (match ih fn.ntmps (N8 fn c) c ⟨gn 0 (.yl st.nx::caps),(st.nx,.rc ⟨n,ps,asg,body⟩ none st.env)::st.sg,st.nx+1⟩ with
   | some (.normal,st')=>MF st st'
   | some (.ret,st')=>MF st st'
   | _=>none) else bQ fn.name
def Md (P:Program) (M:BH) (code:d7) (f:Nat) (args:List V) (σ:ak) (m:Nat):Option (V × ak):=match PW M f args σ m with
 | some v=>some (v,[])
 | none=>match P.funcs[f]? with
 | none=>none
 | some fn=>match fn.body with
  | none=>none
  | some c=>if aP fn.ntmps c=true∧args.length≤fn.ntmps then
   (match code fn.ntmps (N8 fn c) c (if M f=true then ⟨gn 0 args,σ,m⟩ else gt 50 (List.range m) ⟨gn 0 args,σ,m⟩) with
   | some (.normal,st)=>DR P M fn.results.toList f m st
   | some (.ret,st)=>DR P M fn.results.toList f m st
   | _=>bQ fn.name) else bQ fn.name
def H6 (P:Program) (G:Gl) (M:BH) (ih:d7) (n lm:Nat) (c:Code) (st:St):Option (Exit × St):=match c with
 | .skip=>some (.normal,st)
 | .region _ ops draw=>Qc P G M ⟨Md P M ih,Qf ih⟩ lm ops draw (KS M ops (gt 50 (rx [] (RL P G M ops st)) st))
 | .seq a b=>(match ih n lm a st with
  | some (.normal,st)=>ih n lm b st
  | r=>r)
 | .cond c a b=>(match ep G st.env.get c with
  | .d (.lit (.bool true))=>ih n lm a st
  | .d (.lit (.bool false))=>ih n lm b st
  | _=>none)
 | .block id c=>(match ih n lm c st with
  | some (.exit i,st)=>if i=id then some (.normal,st) else some (.exit i,st)
  | r=>r)
 | .loop c=>(match ih n lm c st with
  | some (.normal,st)=>ih n lm (.loop c) st
  | r=>r)
 | .exit id=>some (.exit id,st)
 | .ret=>some (.ret,st)
 | .label _=>some (.normal,st)
 | .rangeFunc g ps a c=>wX (ep G st.env.get g) fun k caps=>Qg P ih n ps a c st k caps
 | .scope c=>(match ih n lm c st with
  | some (.goto _,_)=>none
  | r=>r)
 | _=>none
def In (P:Program) (G:Gl) (M:BH):Nat→d7
 | 0=>fun _ _ _ _=>bQ "fuel"
 | n+1=>H6 P G M (In P G M n)
def Kk (P:Program) (G:Gl) (M:BH) (n:Nat):Lm:=Md P M (In P G M n)
end Go.Proofs.YtkkanlcjjpoklaaGreatDoor
set_option linter.unusedSimpArgs false
set_option linter.unusedVariables false
namespace Go.Proofs.YtkkanlcjjpoklaaGreatDoor
theorem D5 {α:Type} (n:Nat) (k:Nat→α):fN n k=k n:=by cases n<;>rfl
theorem Rr {α:Type} (i:Int) (k:Int→α):fI i k=k i:=by cases i<;>simp [fI,D5]
theorem Ro {α:Type} (b:Bool) (k:Bool→α):fB b k=k b:=by cases b<;>rfl
theorem L6 {α:Type} (v:Value) (k:Value→α):O7 v k=k v:=by unfold O7;split<;>simp [Rr,Ro]
theorem Rq {α:Type} (x:D) (k:D→α):fD x k=k x:=by unfold fD;split<;>simp [L6]
theorem kP {α:Type} (v:V) (k:V→α):fV v k=k v:=by unfold fV;split<;>simp [Rq,D5]
theorem N2 {α:Type} (l:List D) (k:List D→α):fL l k=k l:=by
 induction l generalizing k with
 | nil=>rfl
 | cons x r ih=>simp [fL,ih]
theorem L3 {α:Type} (b:bF) (k:bF→α):O6 b k=k b:=by unfold O6;split<;>simp [N2]
theorem xk {α:Type} (σ:ak) (k:ak→α):Cd σ k=k σ:=by unfold Cd;split<;>simp [L3]
section
variable {P:Program} {g:Operand→V} {σ:ak} {id:Nat}
theorem Al {o:BinOp} {t:Nat} {cst:Bool} {x y:V} {p:Prop} {v:V} (h:JS P o t x y=true) (hr:tT P o t cst x y=some (p,v)):p:=by
 unfold tT at hr;split at hr
 ·have h':Ev o _=true:=h;split at hr
  ·cases o<;>simp only [j2,reduceCtorEq,Option.some.injEq,Prod.mk.injEq] at hr<;>(obtain ⟨rfl,_⟩:=hr;simpa [Ev] using h')
  ·split at hr
   ·cases o<;>simp only [rB,reduceCtorEq,Option.some.injEq,Prod.mk.injEq] at hr<;>(obtain ⟨rfl,_⟩:=hr;first|trivial|simpa [Ev] using h')
   ·cases hr
 ·have h':oY o _ _=true:=h;cases o<;>simp only [oC,reduceCtorEq,Option.some.injEq,Prod.mk.injEq] at hr<;>(obtain ⟨rfl,_⟩:=hr;first|trivial|simpa [oY] using h')
 ·have key : ∀q,O3 P t cst x y=some q→q.1:=by
   intro q hq;unfold O3 at hq;split at hq
   ·split at hq
    ·split at hq
     ·injection hq with hq;subst hq;rename_i ks ks' vs us h1 h2 h3 h4 hs;simp only [JS,h1] at h;unfold RN at h;split at h
      ·rename_i k1 k2 e1 e2;injection e2 with e2;subst e2;have:=io h;subst this;exact lV.of e1
      ·cases h
     ·cases hq
    ·cases hq
   ·split at hq
    ·injection hq with hq;subst hq;trivial
    ·cases hq
   ·split at hq
    ·injection hq with hq;subst hq;trivial
    ·cases hq
   ·split at hq
    ·simp only [Option.map_eq_some_iff] at hq;obtain ⟨b,_,rfl⟩:=hq;trivial
    ·cases hq
  split at hr
  ·simp only [Option.map_eq_some_iff] at hr;obtain ⟨q,hq,e⟩:=hr;injection e with e1 _;subst e1;exact key q hq
  ·simp only [Option.map_eq_some_iff] at hr;obtain ⟨q,hq,e⟩:=hr;injection e with e1 _;subst e1;exact key q hq
  ·cases hr
theorem eI {i:V} {n:Nat} {k:Int} (h:PN i n=true) (hk:kH i=some k):0≤k∧k<n:=by
 simpa [PN,hk] using h
theorem CR {t:Nat} {x:V} {lo hi mx:Option V} {p:Prop} {v:V} (h:PO x lo hi mx=true) (hr:Ol P t x lo hi mx=some (p,v)):p:=by
 unfold Ol at hr;unfold PO at h;split at hr
 ·rename_i lo' hi' mx' e1 e2 e3;simp only [e1,e2,e3] at h;split at hr
  ·split at hr
   ·rename_i hc;injection hr with hr;injection hr with hr _;subst hr;simp [QK,hc.2] at h;omega
   ·cases hr
  ·split at hr
   ·split at hr
    ·simp [QK] at h;split at hr<;>first
      | (injection hr with hr;injection hr with hr _;subst hr;first|trivial|(simp at h;omega))
      | cases hr
    ·cases hr
   ·cases hr
  ·split at hr
   ·split at hr
    ·rename_i hc;injection hr with hr;injection hr with hr _;subst hr;simp [QK,hc.2] at h;omega
    ·cases hr
   ·cases hr
  ·cases hr
 ·cases hr
theorem CP {t:Nat} {a i:V} {n:Int} {p:Prop} {v:V} (h:JT P t a i=true) (hn:kH i=some n) (hr:Cq P t a n=some (p,v)):p:=by
 unfold Cq at hr;split at hr
 ·split at hr
  ·injection hr with hr;injection hr with hr _;subst hr;exact eI h hn
  ·cases hr
 ·split at hr
  ·injection hr with hr;injection hr with hr _;subst hr;exact eI h hn
  ·cases hr
 ·split at hr
  ·rename_i len s _ ha;split at hr
   ·injection hr with hr;injection hr with hr _;subst hr;simp only [JT,ha] at h;exact eI h hn
   ·injection hr with hr;injection hr with hr _;subst hr;simp only [JT,ha] at h;exact eI h hn
   ·injection hr with hr;injection hr with hr _;subst hr;simp only [JT,ha] at h;exact eI h hn
   ·cases hr
  ·cases hr
theorem CO {t:Nat} {a i:V} {n:Int} {p:Prop} {v:V} (h:PL P t a i=true) (hn:kH i=some n) (hr:ry P t a n=some (p,v)):p:=by
 unfold ry at hr;split at hr
 ·split at hr
  ·injection hr with hr;injection hr with hr _;subst hr;exact eI h hn
  ·cases hr
 ·split at hr
  ·rename_i len s ag ha;simp only [Option.map_eq_some_iff] at hr;obtain ⟨y,_,e⟩:=hr;injection e with e _;subst e;simp only [PL,ha] at h;exact eI h hn
  ·cases hr
 ·cases hr
theorem lj {k:Nat} {x:D} (h:FU k x=true):HO k x:=by
 simpa [FU,HO] using h
theorem Am {k:Nat} : ∀ {es:List D},es.all (FU k)=true→iz k es
 | [],_=>trivial
 | x::r,h=>by
  simp only [List.all_cons,Bool.and_eq_true] at h;exact ⟨lj h.1,Am h.2⟩
theorem iU {k:Nat} {x:V} {p:Prop} {new:List D} (h:CN σ x=true) (hr:fb k σ x=some (p,new)):p:=by
 unfold fb at hr;split at hr
 ·split at hr
  ·injection hr with hr;injection hr with hr _;subst hr;trivial
  ·cases hr
 ·injection hr with hr;injection hr with hr _;subst hr;trivial
 ·injection hr with hr;injection hr with hr _;subst hr;trivial
 ·split at hr
  ·rename_i hg;split at hr
   ·injection hr with hr;injection hr with hr _;subst hr;simpa [CN,hg] using h
   ·cases hr
  ·cases hr
 ·split at hr
  ·injection hr with hr;injection hr with hr _;subst hr;trivial
  ·cases hr
 ·cases hr
theorem nX {n b:Nat} (h:RO n b=true):fk n b:=by simpa [RO,fk] using h
theorem PG {t t':Nat} {s x:V} {p:Prop} {v:V} {new:ak} (h:JQ P t s x σ=true) (hr:qx P t t' s x σ id=some (p,v,new)):p:=by
 unfold qx at hr;split at hr
 ·rename_i k bytes ha;split at hr
  ·split at hr
   ·rename_i p' es' he;simp only [JQ,ha,he,Bool.and_eq_true] at h;have hp:=iU h.1 he;split at hr
    ·injection hr with hr;injection hr with hr _;subst hr;exact ⟨hp,nX h.2⟩
    ·split at hr
     ·injection hr with hr;injection hr with hr _;subst hr;simp only [JR,Bool.and_eq_true,Bool.or_eq_true,List.isEmpty_iff,Bool.not_eq_true',List.isEmpty_eq_false_iff] at h;exact ⟨hp,by rw [List.length_append];exact nX h.2.1,h.2.2⟩
     ·cases hr
    ·cases hr
   ·cases hr
  ·cases hr
 ·cases hr
theorem PH {t t':Nat} {s x:V} {p:Prop} {v:V} {s':ak} (h:JQ P t s x σ=true) (hr:tR P t t' s x σ id=some (p,v,s')):p:=by
 unfold tR at hr;split at hr
 ·rename_i k bytes i0 k0 lo n ha;split at hr
  ·split at hr
   ·rename_i k' es p' new hg he;split at hr
    ·injection hr with hr;injection hr with hr _;subst hr;simp only [JQ,ha,he,JR,hg,Bool.and_eq_true,decide_eq_true_eq] at h;exact ⟨iU h.1 he,h.2.1.1,h.2.1.2,by rw [List.length_append];exact nX h.2.2⟩
    ·cases hr
   ·cases hr
  ·cases hr
 ·cases hr
theorem CL {t t':Nat} {d x:V} {p:Prop} {v:V} {s':ak} (h:PJ d x σ=true) (hr:NX P t t' d x σ=some (p,v,s')):p:=by
 unfold NX at hr;simp only [PJ,Bool.and_eq_true] at h;split at hr
 ·split at hr
  ·split at hr
   ·rename_i k' es p' new hg he;split at hr
    ·injection hr with hr;injection hr with hr _;subst hr;have h2:=h.2;simp [CN,hg] at h2;exact ⟨iU h.1 he,h2⟩
    ·cases hr
   ·cases hr
  ·cases hr
 ·cases hr
theorem CM {s d:Nat} {x:V} {p:Prop} {v:V} {s':ak} (h:PK P s x σ=true) (hr:QB P s d x σ=some (p,v,s')):p:=by
 unfold QB at hr;split at hr
 ·rename_i hc;simp only [Bool.and_eq_true] at hc;split at hr
  ·rename_i p' es he;injection hr with hr;injection hr with hr _;subst hr;simp only [PK,hc.1.1,if_true,he,Bool.and_eq_true,List.all_eq_true] at h;refine ⟨iU h.1 he,fun y hy =>?_⟩;have:=h.2 y hy;unfold qa at this;split at this
   ·exact ⟨_,rfl⟩
   ·cases this
  ·cases hr
 ·cases hr
theorem CS {t:Nat} {a x:V} {p:Prop} {v:V} {s':ak} (h:PP P t a x σ=true) (hr:KG P t a x σ=some (p,v,s')):p:=by
 unfold KG at hr;split at hr
 ·split at hr
  ·split at hr
   ·injection hr with hr;injection hr with hr _;subst hr;trivial
   ·cases hr
  ·cases hr
 ·rename_i s _ i k ix j hl;split at hr
  ·rename_i hg;simp only [PP,hl,hg,Bool.and_eq_true,decide_eq_true_eq] at h;split at hr
   ·split at hr
    ·rename_i hc;injection hr with hr;injection hr with hr _;subst hr;rw [if_pos hc] at h;exact ⟨h.1,lj h.2⟩
    ·rename_i hc;split at hr
     ·injection hr with hr;injection hr with hr _;subst hr;rw [if_neg hc] at h;exact ⟨h.1,lj h.2⟩
     ·cases hr
   ·cases hr
  ·cases hr
 ·cases hr
theorem ML {op:Op} {p:Prop} {v:V} (h:BK P op g σ=true) (hr:bX P op g=some (p,v)):p:=by
 have T : ∀ {q:Option (Prop × V)},q=some (p,v)→(∀y,q=some y→y.1)→p:=fun e k=>k _ e
 unfold bX at hr;split at hr;case h_1=>injection hr with hr;injection hr with hr _;subst hr;trivial
 case h_2=>injection hr with hr;injection hr with hr _;subst hr;trivial
 case h_3=>
  unfold lE at hr;split at hr<;>first|(injection hr with hr;injection hr with hr _;subst hr;trivial)|cases hr
 case h_4=>exact Al h hr
 case h_5=>
  unfold Qs at hr;split at hr<;>first|(injection hr with hr;injection hr with hr _;subst hr;trivial)|cases hr
 case h_6=>
  unfold OZ at hr;split at hr
  ·cases hr
  ·split at hr<;>first|(injection hr with hr;injection hr with hr _;subst hr;trivial)|cases hr
 case h_7=>
  unfold Py at hr;split at hr<;>first|(injection hr with hr;injection hr with hr _;subst hr;trivial)|cases hr
 case h_8=>
  unfold QJ at hr;split at hr
  ·split at hr
   ·split at hr
    ·split at hr<;>(injection hr with hr;injection hr with hr _;subst hr;trivial)
    ·cases hr
   ·split at hr
    ·simp only [Option.map_eq_some_iff] at hr;obtain ⟨_,_,e⟩:=hr;injection e with e _;subst e;trivial
    ·cases hr
  ·cases hr
 case h_9=>exact CR h hr
 case h_10=>
  unfold O8 at hr;split at hr
  ·split at hr
   ·cases hr
   ·split at hr<;>first|(injection hr with hr;injection hr with hr _;subst hr;trivial)|cases hr
  ·cases hr
 case h_11=>
  unfold O9 at hr;split at hr
  ·split at hr<;>first|(simp only [Option.map_eq_some_iff] at hr;obtain ⟨_,_,e⟩:=hr;injection e with e _;subst e;trivial)|cases hr
  ·cases hr
 case h_12=>
  split at hr
  ·rename_i n hn;exact CP h hn hr
  ·cases hr
 case h_13=>
  split at hr
  ·rename_i n hn;exact CO h hn hr
  ·cases hr
 case h_14=>
  unfold Qq at hr;split at hr
  ·cases hr
  ·cases hr
  ·split at hr
   ·split at hr
    ·injection hr with hr;injection hr with hr _;subst hr;trivial
    ·split at hr
     ·simp only [Option.map_eq_some_iff] at hr;obtain ⟨_,_,e⟩:=hr;injection e with e _;subst e;trivial
     ·cases hr
   ·split at hr
    ·simp only [Option.map_eq_some_iff] at hr;obtain ⟨_,_,e⟩:=hr;injection e with e _;subst e;trivial
    ·cases hr
   ·cases hr
 case h_15=>
  unfold O5 at hr;split at hr
  ·simp only [Option.map_eq_some_iff] at hr;obtain ⟨_,_,e⟩:=hr;injection e with e _;subst e;trivial
  ·cases hr
 case h_16=>
  unfold OK at hr;split at hr
  ·simp only [Option.map_eq_some_iff] at hr;obtain ⟨_,_,e⟩:=hr;injection e with e _;subst e;trivial
  ·cases hr
 case h_17=>
  unfold gU at hr;split at hr
  ·unfold rI at hr;split at hr
   ·split at hr<;>first|(injection hr with hr;injection hr with hr _;subst hr;trivial)|cases hr
   ·split at hr<;>first|(injection hr with hr;injection hr with hr _;subst hr;trivial)|cases hr
   ·cases hr
  ·unfold Lf at hr;split at hr<;>first|(injection hr with hr;injection hr with hr _;subst hr;trivial)|cases hr
  ·unfold Lf at hr;split at hr<;>first|(injection hr with hr;injection hr with hr _;subst hr;trivial)|cases hr
  ·unfold Dw at hr;repeat' split at hr
   all_goals first|(injection hr with hr;injection hr with hr _;subst hr;trivial)|cases hr
  ·unfold CG at hr;split at hr<;>first|(injection hr with hr;injection hr with hr _;subst hr;trivial)|cases hr
  ·unfold CG at hr;split at hr<;>first|(injection hr with hr;injection hr with hr _;subst hr;trivial)|cases hr
  ·cases hr
 case h_18=>cases hr
theorem HY {op:Op} {p:Prop} {v:V} {new:ak} (h:BK P op g σ=true) (hr:aR P op g σ id=some (p,v,new)):p:=by
 unfold aR at hr;split at hr
 ·split at hr
  ·split at hr
   ·injection hr with hr;injection hr with hr _;subst hr;trivial
   ·cases hr
  ·cases hr
 ·split at hr
  ·injection hr with hr;injection hr with hr _;subst hr;trivial
  ·cases hr
 ·split at hr
  ·rename_i k _ es ha hs;split at hr
   ·injection hr with hr;injection hr with hr _;subst hr;have h':PI P _ _=true:=h;simp only [PI,ha,hs] at h';exact Am h'
   ·cases hr
  ·cases hr
 ·split at hr
  ·injection hr with hr;injection hr with hr _;subst hr;trivial
  ·cases hr
 ·split at hr
  ·rename_i l' c' k bytes z h1 h2 h3;injection hr with hr;injection hr with hr _;subst hr;have h':PM P _ _ _=true:=h;simp [PM,h1,h2,h3] at h';omega
  ·cases hr
 ·split at hr
  ·rename_i c s x t t' e1 e2 e3;simp only [BK,nW,e1,e2,e3] at h;exact PG h hr
  ·cases hr
 ·injection hr with hr;injection hr with hr _;subst hr;trivial
 ·cases hr
theorem CT {t:Nat} {x n:V} {p:Prop} {v:V} {s':ak} (h:PQ x n σ=true) (hr:Nv P t x n σ=some (p,v,s')):p:=by
 unfold Nv at hr;split at hr
 ·injection hr with hr;injection hr with hr _;subst hr;trivial
 ·split at hr
  ·rename_i hg;split at hr
   ·injection hr with hr;injection hr with hr _;subst hr;simp only [PQ,hg] at h;intro y hy;have h1:=List.all_eq_true.1 h y hy;unfold qa at h1;split at h1
    ·exact ⟨_,rfl⟩
    ·cases h1
   ·cases hr
  ·cases hr
 ·cases hr
theorem O1 {op:Op} {p:Prop} {v:V} {s':ak} (h:BK P op g σ=true) (hr:eR P op g σ id=some (p,v,s')):p:=by
 unfold eR at hr;split at hr
 ·exact CS h hr
 ·unfold QD at hr;split at hr
  ·rename_i r hu;injection hr with hr;subst hr;unfold KX at hu;repeat' split at hu
   all_goals first|(injection hu with hu;injection hu with hu _;subst hu;trivial)|cases hu
  ·exact CM h hr
 ·split at hr
  ·rename_i c s x t t' e1 e2 e3;simp only [BK,nW,e1,e2,e3] at h;exact PH h hr
  ·rename_i c d x t t' e1 e2 e3;simp only [BK,nW,e1,e2,e3] at h;exact CL h hr
  ·rename_i c x n t t' e1 e2 e3;simp only [BK,nW,e1,e2,e3] at h;exact CT h hr
  ·rename_i c x t e1 e2 e3;simp only [BK,nW,e1,e2,e3] at h;unfold OS at hr;repeat' split at hr
   all_goals first
    | (injection hr with hr;injection hr with hr _;subst hr;trivial)
    | (cases hr;done)
    | (injection hr with hr;injection hr with hr _;subst hr;simp_all;done)
  ·cases hr
 ·simp only [BK,Option.isNone_iff_eq_none] at h;unfold PC at hr;repeat' split at hr
  all_goals first|(injection hr with hr;injection hr with hr _;subst hr;trivial)|(cases hr;done)|(simp [RK,h] at hr;done)
 ·simp only [BK,Option.isNone_iff_eq_none] at h;unfold Px at hr;repeat' split at hr
  all_goals first|(injection hr with hr;injection hr with hr _;subst hr;trivial)|(cases hr;done)|(simp [RJ,h] at hr;done)
 ·cases hr
theorem sq {op:Op} {p:Prop} {v:V} {new:ak} (h:BK P op g σ=true) (hr:a8 P op g σ id=some (p,v,new)):p:=by
 unfold a8 at hr;split at hr
 ·rename_i h1;injection hr with hr;injection hr with hr _;subst hr;exact ML h h1
 ·exact HY h hr
theorem Nc {op:Op} {p:Prop} {v:V} {s':ak} (h:BK P op g σ=true) (hr:cX P op g σ id=some (p,v,s')):p:=by
 unfold cX at hr;split at hr
 ·rename_i h1;injection hr with hr;injection hr with hr _;subst hr;exact sq h h1
 ·exact O1 h hr
end
section
variable {P:Program} {G:Gl} {run:E3} {g:Operand→V} {σ:ak} {id:Nat}
def oI (P:Program) (G:Gl) (run:E3):Prop:=(∀f args σ m r σ',run.call f args σ m=some (r,σ')→an P G f args σ m r σ') ∧ ∀i args σ id v σ',run.rnd i args σ id=some (v,σ')→oJ P G i args σ id v σ'
theorem th {o:BinOp} {t:Nat} {cst:Bool} {a b:ByteArray} {v:V} (h:KJ o a b=some v) : ∃p,tT P o t cst (.d (.lit (.string a))) (.d (.lit (.string b)))=some (p,v)∧(oY o a b=true→p):=by
 have e1:(⟨⟨a.data.toList++b.data.toList⟩⟩:ByteArray)=a++b:=by
  apply ByteArray.ext;rw [ByteArray.data_append];apply Array.toList_inj.1;simp
 have e2:(a.data.toList==b.data.toList)=(a.toList==b.toList):=by
  rw [ByteArray.toList_eq,ByteArray.toList_eq]
 cases o<;>simp only [KJ,reduceCtorEq,Option.some.injEq] at h<;>subst h<;>simp only [tT,oC,Option.some.injEq,Prod.mk.injEq]
 ·exact ⟨_,⟨rfl,by rw [e1]⟩,fun h=>by simpa [oY] using h⟩
 ·exact ⟨_,⟨rfl,by rw [e2]⟩,fun _=>trivial⟩
 ·exact ⟨_,⟨rfl,by rw [e2]⟩,fun _=>trivial⟩
theorem wE {op:Op} {o:BinOp} {a b:ByteArray} (h:KU op g=some (o,a,b)) : ∃t x y u,op = .binOp o t x y u∧g x = .d (.lit (.string a))∧g y = .d (.lit (.string b)):=by
 unfold KU at h;split at h
 ·split at h
  ·split at h
   ·rename_i o' t x y u _ a' ha _ b' hb;simp only [Option.some.injEq,Prod.mk.injEq] at h;obtain ⟨rfl,rfl,rfl⟩:=h;exact ⟨t,x,y,u,rfl,ha,hb⟩
   ·cases h
  ·cases h
 ·cases h
theorem C4 {op:Op} {v:V} {new:ak} (h:(match KU op g with
 | some (o,a,b)=>if oY o a b=true then (KJ o a b).map fun v=>(v,([]:ak)) else none
 | none=>if BK P op g σ=true then (match a8 P op g σ id with
  | some r=>some (r.2.1,r.2.2)
  | none=>none) else none)=some (v,new)) : ∃p,a8 P op g σ id=some (p,v,new)∧p:=by
 split at h
 ·rename_i o a b ht;obtain ⟨t,x,y,u,rfl,hx,hy⟩:=wE ht;split at h
  ·rename_i hok;simp only [Option.map_eq_some_iff] at h;obtain ⟨v',hv,e⟩:=h;injection e with e1 e2;subst e1;subst e2;obtain ⟨p,h1,h2⟩:=th (P:=P) (t:=t) (cst:=eA x||eA y) hv;exact ⟨p,by simp only [a8,bX,hx,hy,h1],h2 hok⟩
  ·cases h
 ·split at h
  ·rename_i hok;split at h
   ·rename_i r hr;obtain ⟨p,v',n'⟩:=r;simp only [Option.some.injEq,Prod.mk.injEq] at h;obtain ⟨rfl,rfl⟩:=h;exact ⟨p,hr,sq hok hr⟩
   ·cases h
  ·cases h
theorem lR {op:Op} {v:V} {s:ak} (h:K2 P op g σ id=some (v,s)) : ∃p,cX P op g σ id=some (p,v,s)∧p:=by
 unfold K2 at h;split at h
 ·rename_i o a b ht;obtain ⟨t,x,y,u,rfl,hx,hy⟩:=wE ht;split at h
  ·rename_i hok;simp only [Option.map_eq_some_iff] at h;obtain ⟨v',hv,e⟩:=h;injection e with e1 e2;subst e1;subst e2;obtain ⟨p,h1,h2⟩:=th (P:=P) (t:=t) (cst:=eA x||eA y) hv;exact ⟨p,by simp only [cX,a8,bX,hx,hy,h1,List.append_nil],h2 hok⟩
  ·cases h
 ·split at h
  ·rename_i hok;split at h
   ·rename_i r hr;obtain ⟨p,v',n'⟩:=r;simp only [Option.some.injEq,Prod.mk.injEq] at h;obtain ⟨rfl,rfl⟩:=h;exact ⟨p,hr,Nc hok hr⟩
   ·cases h
  ·cases h
theorem qX {k:Nat} {es:List D} {i j:Nat} {x:Nat × Bool} {v:V} {K:V→Prop} (h:LV k es i j x=some v) (hK:K v):gZ k es i j x K:=by
 unfold LV at h;split at h
 ·rename_i e he;simp only [Option.map_eq_some_iff] at h;obtain ⟨y,hy,rfl⟩:=h;refine ⟨(List.getElem?_eq_some_iff.1 he).1,fun e' he' =>?_⟩;rw [he] at he';injection he' with he';subst he';rw [hy];exact hK
 ·cases h
theorem jI {t:Nat} {a:V} {v:V} {K:V→Prop} (h:zW P t a σ=some v) (hK:K v):eB P t a σ K:=by
 unfold zW at h;split at h
 ·cases h
 ·rename_i x hx;split at h
  ·simp only [zS,hx,cp];exact qX h hK
  ·split at h
   ·rename_i cs hg;simp only [zV,hx,cp,hg,qI];rw [h];exact hK
   ·cases h
  ·split at h
   ·rename_i k' es tq hg;split at h
    ·rename_i hk;simp only [zU,hx,cp,hg,G3];exact ⟨hk,qX h hK⟩
    ·cases h
   ·cases h
  ·cases h
theorem Af {x:V} {v:V} {s:ak} {K:V→ak→Prop} (h:JI x σ=some (v,s)) (hK:K v s):kS x σ K:=by
 unfold JI at h;split at h
 ·split at h
  ·rename_i s' pos hg;rw [Ae];simp only [cp,hg,rD];split at h<;>rename_i hlt<;>simp only [Option.some.injEq,Prod.mk.injEq] at h<;>obtain ⟨rfl,rfl⟩:=h
   ·simp only [decide_eq_true hlt,qE];exact hK
   ·simp only [decide_eq_false hlt,ny];exact hK
  ·cases h
 ·cases h
theorem o4 {c a b v:V} {K:V→Prop} (h:Ez c a b=some v) (hK:K v):je c a b K:=by
 unfold Ez at h;split at h
 ·rename_i t;injection h with h;subst h;cases t
  ·exact ⟨(fun e=>by cases e),fun _=>hK⟩
  ·exact ⟨fun _=>hK,(fun e=>by cases e)⟩
 ·cases h
theorem gE {α:Type} {v:V} {al:List V} {k:Nat→List V→Option α} {y:α} (h:pT v al k=some y) : ∃f,k f (ka v al)=some y ∧ ∀(C:Nat→List V→Prop) Y,C f (ka v al)→bt v (fun k caps=>C k (al++caps)) Y (fun k fs=>C k (fs++(al++[]))):=by
 unfold pT at h;split at h
 ·exact ⟨_,h,fun C _ hK=>hK⟩
 ·exact ⟨_,h,fun C _ hK=>hK⟩
 ·exact ⟨_,h,fun C _ hK=>hK⟩
 ·cases h
theorem oL (ho:oI P G run) {f:Nat} {args:List V} {v:V} {s:ak} {K:V→ak→Prop} (h:uT P run f args σ id=some (v,s)) (hK:K v s):au P G f args σ id K:=by
 unfold uT at h;split at h
 ·rename_i he;split at h
  ·rename_i hl;split at h
   ·rename_i r hr;obtain ⟨r,s'⟩:=r;simp only [Option.some.injEq,Prod.mk.injEq] at h;obtain ⟨rfl,rfl⟩:=h;exact au.of _ he (ho.1 _ _ _ _ _ _ hr) hl hK
   ·cases h
  ·cases h
 ·split at h
  ·rename_i he;simp only [Option.some.injEq,Prod.mk.injEq] at h;obtain ⟨rfl,rfl⟩:=h;exact ⟨_,_,hK,.inr ⟨he,rfl⟩⟩
  ·cases h
theorem yV (ho:oI P G run) {f:Nat} {args:List V} {v:V} {s:ak} {K:V→ak→Prop} (h:Ih P run f args id=some (v,s)) (hK:K v s):dI P G f args σ id K:=by
 unfold Ih at h;split at h
 ·rename_i he;split at h
  ·rename_i r hr;obtain ⟨r,s'⟩:=r;simp only [Option.some.injEq,Prod.mk.injEq] at h;obtain ⟨rfl,rfl⟩:=h;exact dI.of he (ho.1 _ _ _ _ _ _ hr) hK
  ·cases h
 ·split at h
  ·rename_i he;simp only [Option.some.injEq,Prod.mk.injEq] at h;obtain ⟨rfl,rfl⟩:=h;exact ⟨_,_,hK,.inr ⟨he,rfl⟩⟩
  ·cases h
theorem qg {op:Op} {r:jt} {p:Prop} {v:V} {s:ak} {K:V→ak→Prop} (h:r=some (p,v,s)) (hp:p) (hK:K v s):eV op r K:=by
 subst h;exact ⟨hp,hK⟩
theorem OO {t n:Nat} {parts:Array (Nat × Operand)} {p:Prop} {v:V} {s:ak} {r2:jt} {K:V→ak→Prop} (h:cX P (.buildSlice t n parts) g σ id=some (p,v,s)) (hp:p) (hK:K v s):Ib (aR P (.buildSlice t n parts) g σ id) r2 σ K:=by
 have h0:bX P (.buildSlice t n parts) g=none:=rfl;have h1:eR P (.buildSlice t n parts) g σ id=none:=rfl;unfold cX a8 at h;rw [h0,h1] at h;unfold Ib;cases ha:aR P (.buildSlice t n parts) g σ id with
 | none=>rw [ha] at h;cases h
 | some x=>
  obtain ⟨p',v',n'⟩:=x;rw [ha] at h;simp only [Option.some.injEq,Prod.mk.injEq] at h;obtain ⟨rfl,rfl,rfl⟩:=h;exact ⟨hp,hK⟩
theorem j3 (ho:oI P G run) {op:Op} {v:V} {s:ak} {K:V→ak→Prop} (h:pj P run op g σ id=some (v,s)) (hK:K v s):aQ P G op g σ id K:=by
 unfold pj at h;unfold aQ;split at h
 ·simp only [Option.map_eq_some_iff] at h;obtain ⟨v',hv,e⟩:=h;injection e with e1 e2;subst e1;subst e2;exact o4 hv hK
 ·simp only [Option.map_eq_some_iff] at h;obtain ⟨v',hv,e⟩:=h;injection e with e1 e2;subst e1;subst e2;exact jI hv hK
 ·split at h
  ·rename_i hs;simp only [hs,if_true];exact Af h hK
  ·cases h
 ·split at h
  ·rename_i hc;simp only [hc];split at h
   ·rename_i i hi;simp only [hi,bt];exact ⟨_,_,hK,ho.2 _ _ _ _ _ _ h⟩
   ·obtain ⟨k,h1,h2⟩:=gE h;exact h2 (fun k al=>au P G k al σ id K) _ (oL ho h1 hK)
  ·rename_i hc;simp only [hc];obtain ⟨p,h1,h2⟩:=lR h;exact qg h1 h2 hK
  ·cases h
 ·obtain ⟨p,h1,h2⟩:=lR h;split
  ·rename_i q1 _ _ _;exact absurd rfl (q1 _ _ _)
  ·rename_i _ q2 _ _;exact absurd rfl (q2 _ _)
  ·rename_i _ _ q3 _;exact absurd rfl (q3 _ _)
  ·rename_i _ _ _ q4;exact absurd rfl (q4 _)
  ·exact OO h1 h2 hK
  ·exact qg h1 h2 hK
theorem i1 {op:Op} {v:V} {new:ak} {K:V→ak→Prop} (hv:dj op=false) (h:sn P op g σ id=some (v,new)) (hK:K v new):aV P G op g σ id K:=by
 unfold sn at h;unfold aV;split at h
 ·simp only [Option.map_eq_some_iff] at h;obtain ⟨v',hv,e⟩:=h;injection e with e1 e2;subst e1;subst e2;exact o4 hv hK
 ·simp only [Option.map_eq_some_iff] at h;obtain ⟨v',hv,e⟩:=h;injection e with e1 e2;subst e1;subst e2;exact jI hv hK
 ·rename_i c;split at h
  ·rename_i b hc;simp only [hc];split at h
   ·rename_i hok;split at h
    ·rename_i r hr;obtain ⟨p,v',n'⟩:=r;simp only [Option.some.injEq,Prod.mk.injEq] at h;obtain ⟨rfl,rfl⟩:=h;exact qg hr (sq hok hr) hK
    ·cases h
   ·cases h
  ·cases h
 ·obtain ⟨p,h1,h2⟩:=C4 h;split
  ·rename_i q1 _ _;exact absurd rfl (q1 _ _ _)
  ·rename_i _ q2 _;exact absurd rfl (q2 _ _)
  ·rename_i _ _ q3;exact absurd rfl (q3 _)
  ·exact qg h1 h2 hK
theorem dh {ops:Array Oper} {o:Oper} {e e':aN} {b:Bool} {yes no:aN→Prop} (h:lp ops o e=some (b,e')) (hy:b=true→yes e') (hn:b=false→no e'):cy ops o e yes no:=by
 unfold lp at h;unfold cy;split at h
 ·rename_i hg;simp only [Option.some.injEq,Prod.mk.injEq] at h;obtain ⟨rfl,rfl⟩:=h;simp only [hg];exact hy rfl
 ·rename_i j want hg;simp only [hg];split at h
  ·cases h
  ·rename_i d hd;simp only [hd,cp];split at h
   ·rename_i b' hb;simp only [Option.some.injEq,Prod.mk.injEq] at h;obtain ⟨rfl,rfl⟩:=h;simp only [hb,pD];cases b'<;>cases want<;>simp_all [jj]
   ·rename_i hb;simp only [Option.some.injEq,Prod.mk.injEq] at h;obtain ⟨rfl,rfl⟩:=h;simp only [hb,pD];exact hn rfl
   ·cases h
theorem lF (ho:oI P G run) {ops:Array Oper} {base:Nat} : ∀(l:List Oper) (i:Nat) (e:aN) (σ:ak) (e':aN) (σ':ak) (K:aN→ak→Prop),GI P G run ops base i l e σ=some (e',σ')→K e' σ'→mK P G ops base i l e σ K
 | [],i,e,σ,e',σ',K,h,hK=>by
  simp only [GI,Option.some.injEq,Prod.mk.injEq] at h;obtain ⟨rfl,rfl⟩:=h;exact hK
 | o::r,i,e,σ,e',σ',K,h,hK=>by
  unfold GI at h;unfold mK;split at h
  ·rename_i e1 hg;refine dh hg (fun _ =>?_) (fun hb=>by cases hb);split at h
   ·rename_i v s1 hs;rw [kP,xk] at h;exact j3 ho hs (lF ho r (i+1) _ _ e' σ' K h hK)
   ·cases h
  ·rename_i e1 hg;exact dh hg (fun hb=>by cases hb) (fun _=>lF ho r (i+1) _ _ e' σ' K h hK)
  ·cases h
theorem fx (ho:oI P G run) {lo:List Nat} {ops:Array Oper} {i:Nat} {op:Op} {σp acc:ak} {b:Bool} {v:V} {s:ak} {Kq Ke:V→ak→Prop} (h:oG P run lo ops i op g σp acc id=some (b,v,s)) (hq:b=true→Kq v s) (he:b=false→Ke v s):gk P G lo ops i op g σp acc id Kq Ke:=by
 unfold oG at h;unfold gk;split at h
 ·split at h
  ·rename_i f hf;simp only [hf];split at h
   ·rename_i j hj;simp only [hj,bt];split at h
    ·rename_i hl;simp only [Option.map_eq_some_iff] at h;obtain ⟨q,hq',e2⟩:=h;injection e2 with e3 e2;subst e2;exact ⟨hl,_,_,he e3.symm,ho.2 _ _ _ _ _ _ hq'⟩
    ·cases h
   obtain ⟨k,h1,h2⟩:=gE h;refine h2 (fun k al=>ev P G lo ops i k al σp acc id Kq Ke) _ ?_;split at h1
   ·simp only [Option.map_eq_some_iff] at h1;obtain ⟨q,hq',e2⟩:=h1;injection e2 with e3 e2;subst e2;exact .inl (yV ho hq' (hq e3.symm))
   ·split at h1
    ·rename_i hl;simp only [Option.map_eq_some_iff] at h1;obtain ⟨q,hq',e2⟩:=h1;injection e2 with e3 e2;subst e2;exact .inr ⟨hl,oL ho hq' (he e3.symm)⟩
    ·cases h1
  ·cases h
 ·cases h
theorem o3 (ho:oI P G run) {ops:Array Oper} {base:Nat} : ∀(l:List Oper) (i:Nat) (e:aN) (σp acc:ak) (e':aN) (σ':ak) (K:aN→ak→Prop),jL P G run ops base i l e σp acc=some (e',σ')→K e' σ'→opsL P G [] [] ops base i l e σp acc K
 | [],i,e,σp,acc,e',σ',K,h,hK=>by
  simp only [jL,Option.some.injEq,Prod.mk.injEq] at h;obtain ⟨rfl,rfl⟩:=h;exact hK
 | o::r,i,e,σp,acc,e',σ',K,h,hK=>by
  unfold jL at h;unfold opsL;have ih:=fun e1 s1 s2 h=>o3 ho (ops:=ops) (base:=base) r (i+1) e1 s1 s2 e' σ' K h hK
  split at h
  ·rename_i e1 hg;refine dh hg (fun _ =>?_) (fun hb=>by cases hb);split at h
   ·rename_i hE;rw [if_pos hE];split at h
    ·rename_i v s1 hs;rw [kP,xk] at h;exact j3 ho hs (ih _ _ _ h)
    ·cases h
   ·rename_i hE;rw [if_neg hE];split at h
    ·rename_i hV;rw [if_pos hV];split at h
     ·rename_i v new hc;rw [kP] at h;exact fx ho hc (fun _=>ih _ _ _ h) (fun e=>by cases e)
     ·rename_i v s1 hc;rw [kP] at h;exact fx ho hc (fun e=>by cases e) (fun _=>ih _ _ _ h)
     ·cases h
    ·rename_i hV;rw [if_neg hV,if_neg (by simp)];split at h
     ·rename_i v new hq;rw [kP] at h;exact i1 (by simpa using hV) hq (ih _ _ _ h)
     ·cases h
  ·rename_i e1 hg;exact dh hg (fun hb=>by cases hb) (fun _=>ih _ _ _ h)
  ·cases h
theorem Cg (σ:ak) (i j:Nat) (c:bF) (h:j≠i):(σ.set i c).get j=σ.get j:=by
 induction σ with
 | nil=>rfl
 | cons x r ih=>
  obtain ⟨k,b⟩:=x;simp only [ak.set];split
  ·rename_i hk;subst hk;simp only [ak.get];rw [if_neg (Ne.symm h),if_neg (Ne.symm h)]
  ·simp only [ak.get,ih]
theorem M9 {t:Nat} {a x:V} {σ σ':ak} {p:Prop} {v:V} (h:KG P t a x σ=some (p,v,σ')) : ∃i blk,Ap a=some i∧σ'=σ.set i blk:=by
 unfold KG at h;split at h
 ·split at h
  ·split at h
   ·injection h with h;injection h with _ h;injection h with _ h;exact ⟨_,_,rfl,h.symm⟩
   ·cases h
  ·cases h
 ·split at h
  ·split at h
   ·split at h
    ·injection h with h;injection h with _ h;injection h with _ h;exact ⟨_,_,rfl,h.symm⟩
    ·split at h
     ·injection h with h;injection h with _ h;injection h with _ h;exact ⟨_,_,rfl,h.symm⟩
     ·cases h
   ·cases h
  ·cases h
 ·cases h
theorem Ho {op:Op} {v:V} {σ s σk:ak} (hs:ap σk σ) (hok:A7 σk op g=true) (h:pj P run op g σ id=some (v,s)):ap σk s:=by
 unfold A7 at hok;split at hok
 ·rename_i t a x;split at hok
  ·rename_i i hi;have hk:σk.get i=none:=by simpa using hok
   have h1:K2 P (.store t a x) g σ id=some (v,s):=h;obtain ⟨p,h2,_⟩:=lR h1;have h3:KG P t (g a) (g x) σ=some (p,v,s):=h2;obtain ⟨j,blk,e1,rfl⟩:=M9 h3;rw [hi] at e1;injection e1 with e1;subst e1;intro k b hb;have hne:k≠i:=fun e=>by subst e;rw [hk] at hb;cases hb
   rw [Cg _ _ _ _ hne];exact hs k b hb
  ·cases hok
 ·cases hok
theorem tj {σk σ acc:ak} (h:ap σk σ):ap σk (σ++acc):=fun i b hb=>by
 rw [bV,h i b hb]
theorem Kn {lo:List Nat} {ops:Array Oper} {i:Nat} {σk σ:ak} {K:Prop} (h:ap σk σ∨wR lo ops i=true) (k:K):xS (Js lo ops i σk) σ K:=by
 rcases h with h|h
 ·exact xS.of h k
 ·exact xS.late k h
theorem jx : ∀(ids:List Nat) (σ:ak),ap (LN ids σ) σ
 | [],σ=>fun _ _ h=>h
 | i::r,σ=>fun j b h=>by
  have:=jx r (σ.del i) j b h;rw [ak.get_del] at this;split at this
  ·cases this
  ·exact this
theorem Fs {f:Nat} {args:List V} {v:V} {s σk:ak} (hs:ap σk σ) (hok:(fg σ args).all (fun j=>(σk.get j).isNone)=true) (h:uT P run f args σ id=some (v,s)):ap σk s:=by
 unfold uT at h;split at h
 ·split at h
  ·split at h
   ·simp only [Option.some.injEq,Prod.mk.injEq] at h;obtain ⟨_,rfl⟩:=h;intro k b hb;have hk:k∉fg σ args:=fun hm=>by
     have:=List.all_eq_true.1 hok k hm;rw [hb] at this;cases this
    rw [bV,ro,if_neg hk,hs k b hb]
   ·cases h
  ·cases h
 ·split at h
  ·simp only [Option.some.injEq,Prod.mk.injEq] at h;obtain ⟨_,rfl⟩:=h;exact hs
  ·cases h
theorem Ii {lo:List Nat} {ops:Array Oper} {i:Nat} {op:Op} {σp acc σk s:ak} {v:V} (hs:ap σk (σp++acc)) (hok:RM σk (σp++acc) op g=true) (h:oG P run lo ops i op g σp acc id=some (false,v,s)):ap σk s:=by
 unfold RM at hok;simp only [Bool.and_eq_true,Bool.not_eq_true'] at hok;obtain ⟨h1,h2⟩:=hok;unfold oG at h;split at h
 ·rename_i c;split at h
  ·rename_i f hf;simp only [DI,RE,hf] at h1 h2;split at h
   ·rename_i j hj;simp only [hj] at h1;cases h1
   ·obtain ⟨k,h,_⟩:=gE h;split at h
    ·simp only [Option.map_eq_some_iff] at h;obtain ⟨q,_,e2⟩:=h;injection e2 with e3;cases e3
    ·split at h
     ·simp only [Option.map_eq_some_iff] at h;obtain ⟨q,hq,e2⟩:=h;injection e2 with _ e2;subst e2;exact Fs hs h2 hq
     ·cases h
  ·cases h
 ·cases h
theorem jN (ho:oI P G run) {lo:List Nat} {σk:ak} {ops:Array Oper} {base:Nat} : ∀(l:List Oper) (i:Nat) (kp:Bool) (e:aN) (σp acc:ak) (e':aN) (σ':ak) (K:aN→ak→Prop),(kp=true→ap σk σp)→jM P G run lo σk ops base i l kp e σp acc=some (e',σ')→K e' σ'→opsL P G lo σk ops base i l e σp acc K
 | [],i,kp,e,σp,acc,e',σ',K,_,h,hK=>by
  simp only [jM,Option.some.injEq,Prod.mk.injEq] at h;obtain ⟨rfl,rfl⟩:=h;exact hK
 | o::r,i,kp,e,σp,acc,e',σ',K,hs,h,hK=>by
  unfold jM at h;unfold opsL;have ih:=fun kp e1 s1 s2 hs h=>jN ho (lo:=lo) (σk:=σk) (ops:=ops) (base:=base) r (i+1) kp e1 s1 s2 e' σ' K hs h hK
  split at h
  ·rename_i e1 hg;refine dh hg (fun _ =>?_) (fun hb=>by cases hb);split at h
   ·rename_i hE;rw [if_pos hE];split at h
    ·rename_i hok;split at h
     ·rename_i v s1 hx;rw [kP,xk] at h;have hs1:(kp&&A7 σk o.op (ep G e1.get))=true→ap σk s1:=fun hh=>by
       rw [Bool.and_eq_true] at hh;exact Ho (tj (hs hh.1)) hh.2 hx
      exact j3 ho hx (Kn ((Bool.or_eq_true _ _▸hok).imp hs1 id) (ih _ _ _ _ hs1 h))
     ·cases h
    ·cases h
   ·rename_i hE;rw [if_neg hE];split at h
    ·rename_i hV;rw [if_pos hV];split at h
     ·rename_i v new hc;rw [kP] at h;exact fx ho hc (fun _=>ih _ _ _ _ hs h) (fun e=>by cases e)
     ·rename_i v s1 hc;split at h
      ·rename_i hok;rw [kP] at h;have hs1:(kp&&RM σk (σp++acc) o.op (ep G e1.get))=true→ap σk s1:=fun hh=>by
        rw [Bool.and_eq_true] at hh;exact Ii (tj (hs hh.1)) hh.2 hc
       exact fx ho hc (fun e=>by cases e) (fun _=>Kn ((Bool.or_eq_true _ _▸hok).imp hs1 id) (ih _ _ _ _ hs1 h))
      ·cases h
     ·cases h
    ·rename_i hV;rw [if_neg hV];split at h
     ·rename_i hl;rw [if_pos hl];split at h
      ·rename_i v hq;rw [kP] at h;exact i1 (by simpa using hV) hq ⟨rfl,ih _ _ _ _ hs h⟩
      ·cases h
     ·rename_i hl;rw [if_neg hl];split at h
      ·rename_i v new hq;rw [kP] at h;exact i1 (by simpa using hV) hq (ih _ _ _ _ hs h)
      ·cases h
  ·rename_i e1 hg;exact dh hg (fun hb=>by cases hb) (fun _=>ih _ _ _ _ hs h)
  ·cases h
end
end Go.Proofs.YtkkanlcjjpoklaaGreatDoor
set_option linter.unusedVariables false
set_option linter.unusedSimpArgs false
namespace Go.Proofs.YtkkanlcjjpoklaaGreatDoor
theorem nR : ∀(e:aN) (m j:Nat),Nat.testBit m j=false→(keepM m e).get j = .unk
 | [],m,j,_=>by simp [keepM,aN.get]
 | (k,v)::r,m,j,h=>by
  unfold keepM;split
  ·rename_i hk;have hne:k≠j:=by rintro rfl;rw [h] at hk;cases hk
   show (if k=j then v else (keepM _ r).get j) = .unk;rw [if_neg hne];exact nR r _ j (by rw [Nat.testBit_xor,h,Nat.testBit_two_pow_of_ne hne];rfl)
  ·exact nR r m j h
theorem nK : ∀(e:aN) (m j:Nat),(keepM m e).get j=e.get j∨(keepM m e).get j = .unk
 | [],m,j=>by simp [keepM]
 | (k,v)::r,m,j=>by
  unfold keepM;split
  ·show (if k=j then v else (keepM _ r).get j)=(if k=j then v else aN.get r j)∨(if k=j then v else (keepM _ r).get j) = .unk;split
   ·exact .inl rfl
   ·exact nK r _ j
  ·rename_i hk;by_cases hj:k=j
   ·subst hj;exact .inr (nR r m k (by simpa using hk))
   ·show _=(if k=j then v else aN.get r j)∨_;rw [if_neg hj];exact nK r m j
section
variable {P:Program} {G:Gl} {M:BH}
theorem eM.keepM {C:tK} {e:aN} {σ:ak} {nx lim:Nat} {a:Act} {w:World} (h:eM C G e σ nx lim a w) (lm:Nat):eM C G (keepM lm e) σ nx lim a w:=by
 obtain ⟨I,β,h1,h2,h3,h4⟩:=h;refine ⟨I,β,h1,h2,fun t =>?_,h4⟩;rcases nK e lm t with h|h
 ·rw [h];exact h3 t
 ·rw [h];trivial
theorem ar.weak {w w':World} {I I':Nat→Prop} {β β':b7} {σ σ' σ'':ak} {nx nx':Nat} (h:ar w I β σ nx w' I' β' σ' nx') (he : ∀j b,σ''.get j=some b → ∃c,σ'.get j=some c∧(ji w' I' β' j c→ji w' I' β' j b)):ar w I β σ nx w' I' β' σ'' nx':=
 { h with
  mem:=⟨fun id b hb=>by obtain ⟨c,h1,h2⟩:=he id b hb;exact h2 (h.mem.own id c h1),fun i j b b' k c c' h1 h2=>by
   obtain ⟨x,h3,_⟩:=he _ _ h1;obtain ⟨y,h4,_⟩:=he _ _ h2;exact h.mem.inj i j x y k c c' h3 h4,h.mem.free,h.mem.lt⟩
  own':=fun b ⟨id,blk,c,h1,h2⟩=>by obtain ⟨x,h3,_⟩:=he _ _ h1;exact h.own' b ⟨id,x,c,h3,h2⟩ }
theorem ji.take {w:World} {I:Nat→Prop} {β:b7} {id k:Nat} {es:List D} {ty:Option Nat} (m:Nat) (h:ji w I β id (.row k es ty)):ji w I β id (.row k (es.take m) ty):=by
 rcases h with ⟨h1,h2⟩|⟨b,cap,cur,t,h1,h2,h3,h4,h5,h6⟩
 ·exact .inl ⟨h1,by rw [h2];simp⟩
 ·refine .inr ⟨b,cap,cur,t,h1,h2,h3,by simp;omega,h5,fun i e hi=>h6 i e ?_⟩;rw [List.getElem?_take] at hi;split at hi
  ·exact hi
  ·cases hi
theorem Hu (e:aN) (σ0:ak) : ∀(σ:ak) (j:Nat) (b:bF),(pm e σ0 σ).get j=some b → ∃c,σ.get j=some c ∧ ∀(w:World) (I:Nat→Prop) (β:b7),ji w I β j c→ji w I β j b:=by
 intro σ;induction σ with
 | nil=>intro j b h;cases h
 | cons x r ih=>
  intro j b h;have key : ∀(i:Nat) (c c':bF),(∀(w:World) (I:Nat→Prop) (β:b7),ji w I β i c→ji w I β i c')→ak.get ((i,c')::pm e σ0 r) j=some b → ∃d,ak.get ((i,c)::r) j=some d ∧ ∀(w:World) (I:Nat→Prop) (β:b7),ji w I β j d→ji w I β j b:=by
   clear h;intro i c c' hc hq;simp only [ak.get] at hq ⊢;by_cases e:i=j
   ·rw [if_pos e] at hq ⊢;subst e;injection hq with hq;subst hq;exact ⟨c,rfl,hc⟩
   ·rw [if_neg e] at hq ⊢;exact ih j b hq
  obtain ⟨i,c⟩:=x;cases c with
  | row k es ty=>
   simp only [pm,D5,N2] at h;split at h
   ·exact key i _ _ (fun _ _ _ h=>h.take _) h
   ·exact key i _ _ (fun _ _ _ h=>h) h
  | _=>exact key i _ _ (fun _ _ _ h=>h) h
theorem KT (M:BH) (ops:Array Oper) (m:Nat) (st:St):cq G m st (KS M ops st):=by
 unfold KS;split
 ·split
  ·intro C a w _ hr;obtain ⟨I,β,h1,h2,h3,h4,h5,h6⟩:=hr;have he : ∀j b,(pm st.env st.sg st.sg).get j=some b → ∃c,st.sg.get j=some c∧(ji w I β j c→ji w I β j b):=fun j b hb=>by
    obtain ⟨c,h7,h8⟩:=Hu _ _ _ _ _ hb;exact ⟨c,h7,h8 w I β⟩
   exact ⟨I,β,h1.weak he,h2,h3,h4,h5.sub (fun b ⟨j,bl,c,g1,g2⟩=>by obtain ⟨x,h7,_⟩:=he _ _ g1;exact ⟨j,x,c,h7,g2⟩) (fun b h=> .inl h),h6⟩
  ·exact cq.refl G m st
 ·exact cq.refl G m st
theorem fP (m:Nat) : ∀(n:Nat) (l:List Nat) (st:St),cq G m st (gt n l st)
 | 0,_,st=>by unfold gt;exact cq.refl G m st
 | n+1,[],st=>by unfold gt;exact cq.refl G m st
 | n+1,i::r,st=>by
  unfold gt;split
  ·exact ((fP m n _ st).trans (cq.frz G m _ i)).trans (fP m n r _)
  ·exact (cq.frz G m _ i).trans (fP m n r _)
  ·exact fP m n r st
abbrev kY (e:Exit) (st:St):Exit→St→Prop:=fun e' s'=>e'=e∧s'=st
theorem AW.le {n m:Nat} {c:Code} {st st':St} {Q:Exit→St→Prop} (hle:cq G m st st') (h:AW P G n m c st' Q):AW P G n m c st Q:=
 fun fr hfr C a w hn hm hr=>h fr hfr C a w hn hm (hle C a w hm hr)
theorem Da (ho:P.follows .mixedOrders=true) {run:E3} (hrun:oI P G run) {lm:Nat} {id:Nat} {ops:Array Oper} {draw:Bool} {st st':St} {e:Exit} {n m:Nat} (hok:aP n (.region id ops draw)=true) (h:Qc P G M run lm ops draw st=some (e,st')):AW P G n m (.region id ops draw) st (kY e st'):=by
 intro fr hfr C a w hn hm hr;simp only [aP] at hok;have hdst : ∀(i:Nat) o x,ops[i]? = some o→o.dst=some x→x<C.n:=fun i o x hi hx=>by rw [hn];exact qW _ hok i o x (by simpa using hi) hx
 have hr':eM C G st.env st.sg (st.nx+4*ops.size) st.nx a w:=eM.bump hr (by omega);unfold Qc at h;split at h
 ·rename_i e1 σ1 h1;rw [D5] at h;simp only [Option.some.injEq,Prod.mk.injEq] at h;obtain ⟨rfl,rfl⟩:=h;cases draw with
  | false=>
   simp only at h1;refine wpIn_region ?_;have:=iW (P:=P) (G:=G) (C:=C) (fr:=fr) (ops:=ops) (base:=st.nx) (nx:=st.nx+4*ops.size) (Q:=fun e a' w'=> ∃st'',kY .normal ⟨keepM lm e1,σ1,st.nx+4*ops.size⟩ e st''∧pS C G st'' a' w') (Nat.le_refl _) hdst (K:=fun e σ=>e=e1∧σ=σ1) (fun e σ a w hK hrel=>⟨_,⟨rfl,rfl⟩,by obtain ⟨rfl,rfl⟩:=hK;exact hrel.keepM lm⟩) ops.toList 0 st.env st.sg a w rfl (lF hrun _ _ _ _ _ _ _ h1 ⟨rfl,rfl⟩) (by simpa using hr') (Nat.zero_le _);rw [List.range_eq_range'];simpa using this
  | true=>
   simp only at h1;have goD:ct [] ops=true→jL P G run ops st.nx 0 ops.toList st.env st.sg []=some (e1,σ1)→(Code.region id ops true).wpIn (Fr fr) 0 P (fun e a' w'=> ∃st',kY .normal ⟨keepM lm e1,σ1,st.nx+4*ops.size⟩ e st'∧pS C G st' a' w') a w:=fun hd h1=>
    iV (C:=C) ho hd (rL _ _) (nx:=st.nx+4*ops.size) (Nat.le_refl _) hdst (K:=fun e σ=>e=e1∧σ=σ1) (fun e σ a w hK hrel=>⟨_,⟨rfl,rfl⟩,by obtain ⟨rfl,rfl⟩:=hK;exact hrel.keepM lm⟩) (fun _ _ h=>by cases h) (o3 hrun _ _ _ _ _ _ _ _ h1 ⟨rfl,rfl⟩) hr'
   unfold NZ at h1;split at h1
   ·rename_i hd;exact goD hd.1 h1
   ·split at h1
    ·rename_i ids lds oc _;split at h1
     ·rename_i hd;exact goD hd.1 h1
     ·split at h1
      ·rename_i hd;exact iV (C:=C) ho hd.1 hd.2 (nx:=st.nx+4*ops.size) (Nat.le_refl _) hdst (K:=fun e σ=>e=e1∧σ=σ1) (fun e σ a w hK hrel=>⟨_,⟨rfl,rfl⟩,by obtain ⟨rfl,rfl⟩:=hK;exact hrel.keepM lm⟩) (jx ids _) (jN hrun _ _ _ _ _ _ _ _ _ (fun _=>jx ids _) h1 ⟨rfl,rfl⟩) hr'
      ·split at h1
       ·rename_i hd;exact iV (C:=C) ho hd.1 hd.2 (nx:=st.nx+4*ops.size) (Nat.le_refl _) hdst (K:=fun e σ=>e=e1∧σ=σ1) (fun e σ a w hK hrel=>⟨_,⟨rfl,rfl⟩,by obtain ⟨rfl,rfl⟩:=hK;exact hrel.keepM lm⟩) (jx _ _) (jN hrun _ _ _ _ _ _ _ _ _ (fun _=>jx _ _) h1 ⟨rfl,rfl⟩) hr'
       ·cases h1
    ·cases h1
 ·cases h
theorem xP (fr:Option Nat) (k:Nat):(Fr fr).room k:=fun _ h=>by cases h
def AL (P:Program) (G:Gl) (n m:Nat) (c:Code) (st:St) (Q:Exit→St→Prop):Prop:=
 ∀fr,(fr=none∨nV c=true) → ∀(C:tK) a w,C.n=n→C.nx=m→pS C G st a w → ∀(b:Frame) kk cs,b.roundOf=fr → ∃e a' w',(∃st',Q e st'∧pS C G st' a' w')∧ArrivesIn (Machine.fenced P (Fr fr)) P (lone (b.atR a (.code c :: .inLoop c::kk)) cs w) b kk cs e a' w'
theorem AL.aw {n m:Nat} {c:Code} {st:St} {Q:Exit→St→Prop} (h:AL P G n m c st Q):AW P G n m (.loop c) st Q:=fun fr hfr C a w hn hm hr b kk cs hro hb hroom=>by
 obtain ⟨e,a',w',hq,harr⟩:=h fr hfr C a w hn hm hr b kk cs hro;exact ⟨e,a',w',hq,.of_steps (.one (fenced_calm hb hroom rfl) stepR_loop) harr⟩
theorem AL.round {n m:Nat} {c:Code} {st st1:St} {Q:Exit→St→Prop} (h:AW P G n m c st (kY .normal st1)) (k:AL P G n m c st1 Q):AL P G n m c st Q:=fun fr hfr C a w hn hm hr b kk cs hro=>by
 obtain ⟨e,a',w',⟨st',⟨rfl,rfl⟩,hr2⟩,harr⟩:=h fr hfr C a w hn hm hr b (.inLoop c::kk) cs hro trivial (xP fr _);obtain ⟨e2,a2,w2,hq2,harr2⟩:=k fr hfr C a' w' hn hm hr2 b kk cs hro;exact ⟨e2,a2,w2,hq2,.of_steps (StepsIn.trans harr (.one (fenced_calm (n:=0) trivial (xP fr _) rfl) stepR_inLoop)) harr2⟩
theorem AL.out {n m:Nat} {c:Code} {st st1:St} {e1:Exit} (hne:e1 ≠ .normal) (h:AW P G n m c st (kY e1 st1)):AL P G n m c st (kY e1 st1):=fun fr hfr C a w hn hm hr b kk cs hro=>by
 obtain ⟨e,a',w',⟨st',⟨rfl,rfl⟩,hr2⟩,harr⟩:=h fr hfr C a w hn hm hr b (.inLoop c::kk) cs hro trivial (xP fr _);exact ⟨_,a',w',⟨st',⟨rfl,rfl⟩,hr2⟩,.pass (x:= .inLoop c) rfl (fun _ _=> .inl hne) harr⟩
def jr (P:Program) (G:Gl) (code:d7):Prop:= ∀n lm c st e st',code n lm c st=some (e,st') → ∀m,aP n c=true→AW P G n m c st (kY e st') ∧ ∀c',c = .loop c'→AL P G n m c' st (kY e st')
theorem jr.aw {code:d7} (h:jr P G code) {lm:Nat} {c:Code} {st st':St} {e:Exit} {n:Nat} (hc:code n lm c st=some (e,st')) (hok:aP n c=true) (m:Nat):AW P G n m c st (kY e st'):=(h n lm c st e st' hc m hok).1
theorem lJ {st:St} : ∀(rs:List ResultVar) (vs:List V) (K:List V→Prop),AI P rs st=some vs→K vs→n9 P rs st K
 | [],vs,K,h,hK=>by simp only [AI,Option.some.injEq] at h;subst h;exact hK
 | .tmp t::r,vs,K,h,hK=>by
  simp only [AI,Option.map_eq_some_iff] at h;obtain ⟨vs',h1,rfl⟩:=h;exact lJ r vs' _ h1 hK
 | .cell a t::r,vs,K,h,hK=>by
  unfold AI at h;split at h
  ·rename_i v hv;simp only [Option.map_eq_some_iff] at h;obtain ⟨vs',h1,rfl⟩:=h;exact jI hv (lJ r vs' _ h1 hK)
  ·cases h
theorem oP {rs:List ResultVar} {f m:Nat} {st:St} {r:V} {σ':ak} (h:DR P M rs f m st=some (r,σ')):ae P G m rs r σ' st:=by
 unfold DR at h;split at h
 ·cases h
 ·rename_i vs0 _;simp only at h;have hle:cq G m st (if M f=true then st else gt 50 (rx [] vs0) st):=by
   split
   ·exact cq.refl G m st
   ·exact fP m _ _ _
  revert h hle;generalize (if M f=true then st else gt 50 (rx [] vs0) st)=st1;intro h hle;split at h
  ·cases h
  ·rename_i vs hvs;split at h
   ·rename_i hl;simp only [Option.some.injEq,Prod.mk.injEq] at h;exact aC.via hle (aC.now (lJ _ _ _ hvs ⟨_,h.1,by rw [h.2];exact fun _ _ h=>h,hl⟩))
   ·cases h
theorem Cb {a b:Value} (h:O4 a b=true):a=b:=by
 unfold O4 at h;split at h
 ·simp at h;rw [h.1,h.2]
 ·simp at h;rw [h]
 ·rename_i a b;cases a;cases b;simp at h;simp [h]
 ·rfl
 ·rfl
 ·rfl
 ·cases h
mutual
theorem nE : ∀(a b:D),HF a b=true→a=b
 | .lit a,b,h=>by
  cases b<;>simp only [HF,Bool.false_eq_true] at h
  rw [Cb h]
 | .agg a,b,h=>by
  cases b<;>simp only [HF,Bool.false_eq_true] at h
  rw [eE _ _ h]
 | .sd k f a,b,h=>by
  cases b<;>simp only [HF,Bool.false_eq_true,Bool.and_eq_true,beq_iff_eq] at h
  rw [h.1.1,h.1.2,eE _ _ h.2]
 | .pd k a i j,b,h=>by
  cases b<;>simp only [HF,Bool.false_eq_true,Bool.and_eq_true,beq_iff_eq] at h
  rw [h.1.1.1,h.1.1.2,h.1.2,eE _ _ h.2]
 | .fn f a,b,h=>by
  cases b<;>simp only [HF,Bool.false_eq_true,Bool.and_eq_true,beq_iff_eq] at h
  rw [h.1,eE _ _ h.2]
 | .ifc t a,b,h=>by
  cases b<;>simp only [HF,Bool.false_eq_true,Bool.and_eq_true,beq_iff_eq] at h
  rw [h.1,nE _ _ h.2]
 | .bf f a,b,h=>by
  cases b<;>simp only [HF,Bool.false_eq_true,Bool.and_eq_true,beq_iff_eq] at h
  rw [h.1,eE _ _ h.2]
 | .ne k,b,h=>by cases b<;>simp only [HF,Bool.false_eq_true] at h
theorem eE : ∀(a b:List D),xi a b=true→a=b
 | [],b,h=>by
  cases b<;>simp only [xi,Bool.false_eq_true] at h
  rfl
 | x::xs,b,h=>by
  cases b<;>simp only [xi,Bool.false_eq_true,Bool.and_eq_true] at h
  rw [nE _ _ h.1,eE _ _ h.2]
end
theorem u9 : ∀ {a:List V} {b:List D},QG a b=true→a=b.map V.d
 | [],b,h=>by
  cases b<;>simp only [QG,Bool.false_eq_true] at h
  rfl
 | x::xs,b,h=>by
  cases b with
  | nil=>cases x<;>simp only [QG,Bool.false_eq_true] at h
  | cons y ys=>
   cases x<;>simp only [QG,Bool.false_eq_true,Bool.and_eq_true] at h
   rw [nE _ _ h.1,u9 h.2];rfl
def bb (P:Program) (G:Gl) (T:wM):Prop:= ∀x∈T,an P G x.1 (x.2.1.map V.d) [] 0 x.2.2 []
theorem bb.nil:bb P G []:=fun x h=>by cases h
theorem bb.cons {f:Nat} {az:List D} {r:V} {T:wM} (h:an P G f (az.map V.d) [] 0 r []) (k:bb P G T):bb P G ((f,az,r)::T):=fun x hx=>by
 rcases List.mem_cons.1 hx with rfl|hx
 ·exact h
 ·exact k x hx
theorem nZ : ∀ {T:wM} {f:Nat} {args:List V} {v:V},bb P G T→orc T f args=some v→an P G f args [] 0 v []
 | [],_,_,_,_,h=>by cases h
 | (g,az,r)::t,f,args,v,hT,h=>by
  have ht:bb P G t:=fun x hx=>hT x (List.mem_cons_of_mem _ hx)
  simp only [orc] at h;split at h
  ·rename_i hg;split at h
   ·rename_i ha;injection h with h;have:=hT _ List.mem_cons_self;rw [Nat.eq_of_beq_eq_true hg,←u9 ha,h] at this;exact this
   ·exact nZ ht h
  ·exact nZ ht h
theorem CW {f:Nat} {args:List V} {σ:ak} {m:Nat} {v:V} (hT:bb P G M.orc) (h:PW M f args σ m=some v):an P G f args σ m v []:=by
 unfold PW at h;split at h
 ·exact nZ hT h
 ·cases h
theorem rm (hT:bb P G M.orc) {code:d7} (h:jr P G code) : ∀f args σ m r σ',Md P M code f args σ m=some (r,σ')→an P G f args σ m r σ':=by
 intro f args σ m r σ' hf;unfold Md at hf;split at hf
 ·rename_i v hv;injection hf with hf;injection hf with h1 h2;subst h1;subst h2;exact CW hT hv
 split at hf
 ·cases hf
 ·rename_i fn hfn;split at hf
  ·cases hf
  ·rename_i c hc;split at hf
   ·rename_i hok;refine an.of_aw hfn hc (rs:=fn.results.toList) (by simp) rfl hok.2 ?_;have hle:cq G m ⟨gn 0 args,σ,m⟩ (if M f=true then ⟨gn 0 args,σ,m⟩ else gt 50 (List.range m) ⟨gn 0 args,σ,m⟩):=by
     split
     ·exact cq.refl G m _
     ·exact fP m _ _ _
    refine AW.le hle ?_;split at hf
    ·rename_i st hst;exact (h.aw hst hok.1 m).mono fun e s ⟨h1,h2⟩=>by subst h1;subst h2;exact oP hf
    ·rename_i st hst;exact (h.aw hst hok.1 m).mono fun e s ⟨h1,h2⟩=>by subst h1;subst h2;exact oP hf
    ·cases hf
   ·cases hf
theorem Dc {ih:d7} (hih:jr P G ih) : ∀i args σ id v σ',Qf ih i args σ id=some (v,σ')→oJ P G i args σ id v σ':=by
 intro i args σ id v σ' h;unfold Qf at h;split at h
 ·rename_i y e hg;split at h
  ·rename_i hc;obtain ⟨c1,c2,c3,c4,c5,c6,c7⟩:=hc;split at h
   ·rename_i st1 h1;split at h
    ·rename_i ex st2 h2;split at h
     ·rename_i j hj;split at h
      ·rename_i hl;simp only [Option.some.injEq,Prod.mk.injEq] at h;obtain ⟨rfl,rfl⟩:=h;refine oJ.of hg c1 c2 c3 c4 c5 ((hih.aw h1 c6 id).mono ?_);rintro ex1 st3 ⟨rfl,rfl⟩;refine (hih.aw h2 c7 id).mono ?_;rintro ex2 st4 ⟨rfl,rfl⟩;have fin:HT G σ id i y e j (.d (.lit (.bool j.isNone))) ((i,.rc y j e)::st4.sg.sel (lN σ id (Me id (fg st4.sg ((σ.filter fun p=>decide (p.1<id)).map fun p=> .po p.1 0))))) st4:=⟨rfl,aC.now ⟨_,hl,fun _ _ h=>h⟩⟩
       cases ex2<;>simp only [Option.some.injEq,reduceCtorEq] at hj<;>subst hj<;>exact fin
      ·cases h
     ·cases h
    ·cases h
   ·cases h
  ·cases h
 ·cases h
theorem qH {α:Type} {v:V} {k:Nat→List V→Option α} {y:α} (h:wX v k=some y) : ∃f caps,k f caps=some y ∧ ∀w I β x,aJ w I β v x → ∃cv:List Value,x = .func (.func f) #[] cv.toArray∧cH w I β caps cv:=by
 unfold wX at h;split at h
 ·exact ⟨_,_,h,fun w I β x hd=>Ij hd⟩
 ·exact ⟨_,_,h,fun w I β x hd=>uV hd⟩
 ·cases h
theorem Dd {ih:d7} (hih:jr P G ih) {n m:Nat} {g:Operand} {ps:Array Nat} {asg body:Code} {st st':St} {e:Exit} {k:Nat} {caps:List V} (hg : ∀w I β x,aJ w I β (ep G st.env.get g) x → ∃cv:List Value,x = .func (.func k) #[] cv.toArray∧cH w I β caps cv)
 (h:Qg P ih n ps asg body st k caps=some (e,st')):AW P G n m (.rangeFunc g ps asg body) st (kY e st'):=by
 unfold Qg at h;split at h
 ·cases h
 ·rename_i fn hf;split at h
  ·cases h
  ·rename_i c hb;split at h
   ·rename_i hc;obtain ⟨c1,c2,c3,c4⟩:=hc;have hrs:fn.results = #[]:=by
     apply Array.toList_inj.1;simpa using c2
    have fin : ∀st1,MF st st1=some (e,st')→Ll G st (kY e st') st1:=by
     intro st1 ho;unfold MF at ho;split at ho
     ·rename_i y' e' hx;simp only [Option.some.injEq,Prod.mk.injEq] at ho;exact aC.now ⟨_,_,_,hx,ho.1,ho.2⟩
     ·rename_i y' e' hx;simp only [Option.some.injEq,Prod.mk.injEq] at ho;exact aC.now ⟨_,_,_,hx,ho.1,ho.2⟩
     ·rename_i y' q e' hx;simp only [Option.some.injEq,Prod.mk.injEq] at ho;exact aC.now ⟨_,_,_,hx,ho.1,ho.2⟩
     ·cases ho
    split at h
    ·rename_i st1 h1;refine su hg c1 hf hb hrs c3 ((hih.aw h1 c4 (st.nx+1)).mono ?_);rintro ex st2 ⟨rfl,rfl⟩;exact fin _ h
    ·rename_i st1 h1;refine su hg c1 hf hb hrs c3 ((hih.aw h1 c4 (st.nx+1)).mono ?_);rintro ex st2 ⟨rfl,rfl⟩;exact fin _ h
    ·cases h
   ·cases h
theorem yU (ho:P.follows .mixedOrders=true) (hT:bb P G M.orc) {ih:d7} (hih:jr P G ih):jr P G (H6 P G M ih):=by
 intro n lm c st e st' h m hok;have key : ∀ {c:Code},(∀c',c ≠ .loop c')→AW P G n m c st (kY e st')→AW P G n m c st (kY e st') ∧ ∀c',c = .loop c'→AL P G n m c' st (kY e st'):=fun hne h=>⟨h,fun c' e=>absurd e (hne c')⟩
 unfold H6 at h;split at h
 ·simp only [Option.some.injEq,Prod.mk.injEq] at h;obtain ⟨rfl,rfl⟩:=h;exact key (fun _=>by simp) (fun _ _ C a w _ _ hr=>wpIn_skip ⟨st,⟨rfl,rfl⟩,hr⟩)
 ·exact key (fun _=>by simp) ((Da ho ⟨rm hT hih,Dc hih⟩ hok h).le ((fP m _ _ _).trans (KT M _ m _)))
 ·rename_i x y;refine key (fun _=>by simp) ?_;simp only [aP,Bool.and_eq_true] at hok;split at h
  ·rename_i st1 h1;intro fr hfr C a w hn hm hr;refine wpIn_seq (wpIn_mono (hih.aw h1 hok.1 m fr (hfr.imp id (fun h=>(by simpa only [nV,Bool.and_eq_true] using h:_∧_).1)) C a w hn hm hr) ?_);rintro e2 a' w' ⟨st2,⟨rfl,rfl⟩,hr'⟩;exact hih.aw h hok.2 m fr (hfr.imp id (fun h=>(by simpa only [nV,Bool.and_eq_true] using h:_∧_).2)) C a' w' hn hm hr'
  ·rename_i hne;intro fr hfr C a w hn hm hr;refine wpIn_seq (wpIn_mono (hih.aw h hok.1 m fr (hfr.imp id (fun h=>(by simpa only [nV,Bool.and_eq_true] using h:_∧_).1)) C a w hn hm hr) ?_);rintro e2 a' w' ⟨st2,⟨rfl,rfl⟩,hr'⟩;cases e2 with
   | normal=>exact absurd h (hne st2)
   | _=>exact ⟨st2,⟨rfl,rfl⟩,hr'⟩
 ·rename_i cc x y;refine key (fun _=>by simp) ?_;simp only [aP,Bool.and_eq_true] at hok;have hd : ∀ {C:tK} {a:Act} {w:World} {b:Bool},pS C G st a w→ep G st.env.get cc = .d (.lit (.bool b))→a.eval cc = .bool b:=by
   intro C a w b hr hb;obtain ⟨I,β,h1,h2,h3,h4,h5,h6⟩:=id hr;have hd:=pX (e:=st.env) (a:=a) h3 h6 cc;rw [hb] at hd;exact aA hd
  split at h
  ·rename_i hb;intro fr hfr C a w hn hm hr;exact wpIn_cond_true (hd hr hb) (hih.aw h hok.1 m fr (hfr.imp id (fun h=>(by simpa only [nV,Bool.and_eq_true] using h:_∧_).1)) C a w hn hm hr)
  ·rename_i hb;intro fr hfr C a w hn hm hr;exact wpIn_cond_false (hd hr hb) (hih.aw h hok.2 m fr (hfr.imp id (fun h=>(by simpa only [nV,Bool.and_eq_true] using h:_∧_).2)) C a w hn hm hr)
  ·cases h
 ·rename_i id x;refine key (fun _=>by simp) ?_;simp only [aP] at hok;split at h
  ·rename_i i st1 h1;intro fr hfr C a w hn hm hr;refine wpIn_block (wpIn_mono (hih.aw h1 hok m fr hfr C a w hn hm hr) ?_);rintro e2 a' w' ⟨st2,⟨rfl,rfl⟩,hr'⟩;simp only [Exit.inBlock];split at h<;>rename_i hi<;>simp only [Option.some.injEq,Prod.mk.injEq] at h<;>obtain ⟨rfl,rfl⟩:=h
   ·rw [if_pos hi];exact ⟨_,⟨rfl,rfl⟩,hr'⟩
   ·rw [if_neg hi];exact ⟨_,⟨rfl,rfl⟩,hr'⟩
  ·rename_i hne;intro fr hfr C a w hn hm hr;refine wpIn_block (wpIn_mono (hih.aw h hok m fr hfr C a w hn hm hr) ?_);rintro e2 a' w' ⟨st2,⟨rfl,rfl⟩,hr'⟩;cases e2 with
   | exit i=>exact absurd h (hne i st2)
   | _=>exact ⟨st2,⟨rfl,rfl⟩,hr'⟩
 ·rename_i x;have hok':aP n x=true:=hok;have hal:AL P G n m x st (kY e st'):=by
   split at h
   ·rename_i st1 h1;exact AL.round (hih.aw h1 hok' m) ((hih n lm _ st1 e st' h m hok).2 x rfl)
   ·rename_i hne;exact AL.out (fun he=>by subst he;exact hne st' h) (hih.aw h hok' m)
  exact ⟨hal.aw,fun c' e=>by injection e with e;subst e;exact hal⟩
 ·simp only [Option.some.injEq,Prod.mk.injEq] at h;obtain ⟨rfl,rfl⟩:=h;exact key (fun _=>by simp) (fun _ _ C a w _ _ hr=>wpIn_exit ⟨st,⟨rfl,rfl⟩,hr⟩)
 ·simp only [Option.some.injEq,Prod.mk.injEq] at h;obtain ⟨rfl,rfl⟩:=h;exact key (fun _=>by simp) (fun _ _ C a w _ _ hr=>wpIn_ret ⟨st,⟨rfl,rfl⟩,hr⟩)
 ·simp only [Option.some.injEq,Prod.mk.injEq] at h;obtain ⟨rfl,rfl⟩:=h;exact key (fun _=>by simp) (fun _ _ C a w _ _ hr=>wpIn_label ⟨st,⟨rfl,rfl⟩,hr⟩)
 ·rename_i g ps a c;refine key (fun _=>by simp) ?_;obtain ⟨k,caps,h1,h2⟩:=qH h;exact Dd hih h2 h1
 ·rename_i x;refine key (fun _=>by simp) ?_;simp only [aP] at hok;split at h
  ·cases h
  ·rename_i hne;intro fr hfr C a w hn hm hr;refine fh (wpIn_mono (hih.aw h hok m fr hfr C a w hn hm hr) ?_);rintro e2 a' w' ⟨st2,⟨rfl,rfl⟩,hr'⟩;cases e2 with
   | goto l=>exact absurd h (hne l st2)
   | _=>exact ⟨st2,⟨rfl,rfl⟩,hr'⟩
 ·cases h
theorem oO (ho:P.follows .mixedOrders=true) (hT:bb P G M.orc) : ∀n,jr P G (In P G M n)
 | 0=>fun _ _ _ _ _ _ h=>by cases h
 | n+1=>yU ho hT (oO ho hT n)
theorem sA (ho:P.follows .mixedOrders=true) (hT:bb P G M.orc) (n:Nat) : ∀f args σ m r σ',Kk P G M n f args σ m=some (r,σ')→an P G f args σ m r σ':=rm hT (oO ho hT n)
end
end Go.Proofs.YtkkanlcjjpoklaaGreatDoor
set_option linter.unusedSimpArgs false
set_option linter.unusedVariables false
set_option maxRecDepth 8000
namespace Go.Proofs.YtkkanlcjjpoklaaGreatDoor
abbrev aB:D:= .lit (.slice none 0 0)
abbrev iD (n:Int):D:= .lit (.int .i64 n)
abbrev dy (r:Int):D:= .lit (.int .i32 r)
abbrev M0:Nat→Bool:=fun _=>false
theorem vj (G:Gl) (M:Nat→Bool) (n:Nat) {f:Nat} {args:List V} {v:V} (h:Kk Tryz.prog G ⟨M,false,[]⟩ n f args [] 0=some (v,[])):an Tryz.prog G f args [] 0 v []:=sA ab bb.nil n f args [] 0 _ _ h
theorem gw {G:Gl} (M:Nat→Bool) {T:wM} (hT:bb Tryz.prog G T) (n:Nat) {f:Nat} {args:List V} {v:V} (h:Kk Tryz.prog G ⟨M,true,T⟩ n f args [] 0=some (v,[])):an Tryz.prog G f args [] 0 v []:=sA ab hT n f args [] 0 _ _ h
def MB:Nat→Bool:=fun k=>Nat.testBit 14615733561351007526297951578888938829512932094920907590725980377571682228763262116808301215744 k
inductive Pz where
 | tx (k a:Int) (rs:List Int)
 | fo (a:Int)
def fF:Pz→D
 | .tx k a rs=> .agg [iD k,iD a,.sd 1 false (rs.map dy)]
 | .fo a=> .agg [iD 3,iD a,aB]
attribute [push_cast] fF.eq_1 fF.eq_2
abbrev xK (l:List Pz):bF:= .row 3 (l.map fF)
theorem i5 (es:List Pz) (x:Pz):es.map fF++[fF x]=(es++[x]).map fF:=by rw [List.map_append];rfl
end Go.Proofs.YtkkanlcjjpoklaaGreatDoor
