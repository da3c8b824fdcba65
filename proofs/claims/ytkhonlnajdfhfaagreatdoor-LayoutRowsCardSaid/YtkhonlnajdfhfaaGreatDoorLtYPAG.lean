/- What the theorem leans on, part 7. -/
import Derived.Test.YtkhonlnajdfhfaaGreatDoorLtYPAF
set_option linter.unusedVariables false
namespace Go.Proofs.YtkhonlnajdfhfaaGreatDoor
def fN {α:Type} (n:Nat) (k:Nat→α):α:=match n with
 | 0=>k 0
 | m+1=>k (Nat.succ m)
def fI {α:Type} (i:Int) (k:Int→α):α:=match i with
 | .ofNat n=>fN n fun n=>k (.ofNat n)
 | .negSucc n=>fN n fun n=>k (.negSucc n)
def fB {α:Type} (b:Bool) (k:Bool→α):α:=match b with
 | true=>k true
 | false=>k false
def fVal {α:Type} (v:Value) (k:Value→α):α:=match v with
 | .int kd i=>fI i fun i=>k (.int kd i)
 | .bool b=>fB b fun b=>k (.bool b)
 | v=>k v
def fD {α:Type} (x:D) (k:D→α):α:=match x with
 | .lit v=>fVal v fun v=>k (.lit v)
 | x=>k x
def fV {α:Type} (v:V) (k:V→α):α:=match v with
 | .d x=>fD x fun x=>k (.d x)
 | .so id kk lo n=>fN lo fun lo=>fN n fun n=>k (.so id kk lo n)
 | v=>k v
def fL {α:Type} : List D→(List D→α)→α
 | [],k=>k []
 | x::r,k=>fL r fun r=>k (x::r)
def fBlk {α:Type} (b:Blk) (k:Blk→α):α:=match b with
 | .row n es tq=>fL es fun es=>k (.row n es tq)
 | b=>k b
def okInt (o:BinOp) (b:Int):Bool:=match o with
 | .quo=> !(b==0)
 | .rem=> !(b==0)
 | .shl=>decide (0≤b)
 | .shr=>decide (0≤b)
 | _=>true
def okStr (o:BinOp) (a b:ByteArray):Bool:=match o with
 | .add=>decide (((a.size+b.size:Nat):Int)≤9223372036854775807)
 | _=>true
def okEq (o q:Option (List CK)):Bool:=match o,q with
 | some ks,some ks'=>sameCK ks ks'
 | _,_=>false
def okBin (P:Program) (o:BinOp) (t:Nat) (x y:V):Bool:=match x with
 | .d (.lit (.int _ _))=>(match y with
  | .d (.lit (.int _ b))=>okInt o b
  | _=>true)
 | .d (.lit (.string a))=>(match y with
  | .d (.lit (.string b))=>okStr o a b
  | _=>true)
 | .d (.agg xs)=>(match y with
  | .d (.agg _)=>okEq (eqOkT P t) (allCK xs)
  | _=>true)
 | _=>true
def okB (lo hi:Option Int) (mx:Option Int) (n:Nat):Bool:=
 decide (0≤lo.getD 0)&&decide (lo.getD 0≤hi.getD n)&&decide (hi.getD n≤mx.getD n)&&decide (mx.getD n≤n)
def okSl (x:V) (lo hi mx:Option V):Bool:=match numO lo,numO hi,numO mx with
 | some lo,some hi,some mx=>(match x with
  | .d (.lit (.string s))=>okB lo hi mx s.size
  | .d (.sd _ _ es)=>okB lo hi mx es.length
  | .so _ _ _ n=>okB lo hi mx n&&(decide (lo.getD 0<n)||decide (lo.getD 0=0))
  | _=>true)
 | _,_,_=>true
def okN (i:V) (n:Nat):Bool:=match numV i with
 | some i=>decide (0≤i)&&decide (i<n)
 | none=>true
def okIx (P:Program) (t:Nat) (a i:V):Bool:=match a with
 | .d (.sd _ _ es)=>okN i es.length
 | .so _ _ _ m=>okN i m
 | _=>(match arT P t with
  | some x=>okN i x.1
  | none=>true)
def okIv (P:Program) (t:Nat) (a i:V):Bool:=match a with
 | .d (.lit (.string s))=>okN i s.size
 | _=>(match arT P t with
  | some x=>okN i x.1
  | none=>true)
def fitB (k:Nat) (x:D):Bool:=decide (x.cells.length=k)&&(V.d x).cellOk
def okBs (P:Program) (t:Nat) (ps:List (Nat × V)):Bool:=match apT P t with
 | some x=>(match seqD 0 ps with
  | some es=>es.all (fitB x.1)
  | none=>true)
 | none=>true
def okMk (P:Program) (t:Nat) (l c:V):Bool:=match mkT P t with
 | some (_,bytes,_)=>(match numV l,numV c with
  | some l,some c=>decide (0≤l)&&decide (l≤c)&&decide (c≤1099511627776)&&decide (c*bytes≤140737488355328)
  | _,_=>true)
 | none=>true
def okSt (P:Program) (t:Nat) (a x:V) (σ:Sig):Bool:=match a with
 | .pe i k ix j=>(match ldT P t,σ.get i,x with
  | some (s,_),some (.row _ es _),.d y=>decide (ix<es.length)&&(if j=0∧s=k then fitB k y else fitB s y)
  | _,_,_=>true)
 | _=>true
def okEl (σ:Sig) (x:V):Bool:=match x with
 | .so id _ lo n=>(match σ.get id with
  | some (.row _ es _)=>decide (lo+n≤es.length)
  | _=>true)
 | _=>true
def okF (n bytes:Nat):Bool:=decide (n≤140737488355328)&&decide (n*bytes≤140737488355328)
def okAp2 (bytes:Nat) (s:V) (new:List D) (σ:Sig):Bool:=match s with
 | .d (.lit _)=>okF new.length bytes
 | .d (.sd _ _ es)=>okF (es.length+new.length) bytes&&(es.isEmpty || !new.isEmpty)
 | .so i0 _ lo n=>(match σ.get i0 with
  | some (.row _ es _)=>decide (lo=0)&&decide (n=es.length)&&okF (es.length+new.length) bytes
  | _=>true)
 | _=>true
def okAp (P:Program) (t:Nat) (s x:V) (σ:Sig):Bool:=match apT P t with
 | some (k,bytes)=>okEl σ x&&(match elemsV k σ x with
  | some y=>okAp2 bytes s y.2 σ
  | none=>true)
 | none=>true
def okCp (d x:V) (σ:Sig):Bool:=okEl σ x&&okEl σ d
def isByteB (y:D):Bool:=match y with
 | .lit (.int .u8 _)=>true
 | _=>false
def okCv (P:Program) (s:Nat) (x:V) (σ:Sig):Bool:=if btT P s=true then okEl σ x&&(match elemsV 1 σ x with
 | some y=>y.2.all isByteB
 | none=>true) else true
def okUs (x n:V) (σ:Sig):Bool:=match x,n with
 | .pe id _ _ _,.d (.lit (.int _ m))=>(match σ.get id with
  | some (.row _ es _)=>(es.take m.toNat).all isByteB
  | _=>true)
 | _,_=>true
def okCall (P:Program) (c:Call) (g:Operand→V) (σ:Sig):Bool:=match c.callee,c.args.toList,c.argTypes.toList with
 | .builtin .append,[s,x],[t,_]=>okAp P t (g s) (g x) σ
 | .builtin .copy,[d,x],_=>okCp (g d) (g x) σ
 | .builtin .unsafeString,[x,n],_=>okUs (g x) (g n) σ
 | .builtin .clear,[x],_=>(match g x with
  | .so id _ lo n=>(match σ.get id with
   | some (.row _ es _)=>decide (lo+n=es.length)
   | _=>true)
  | _=>true)
 | _,_,_=>true
def okS (P:Program) (op:Op) (g:Operand→V) (σ:Sig):Bool:=match op with
 | .binOp o t x y _=>okBin P o t (g x) (g y)
 | .slice _ x lo hi mx=>okSl (g x) (lo.map g) (hi.map g) (mx.map g)
 | .indexAddr t x i=>okIx P t (g x) (g i)
 | .index t x i=>okIv P t (g x) (g i)
 | .buildSlice t _ ps=>okBs P t (ps.toList.map fun p=>(p.1,g p.2))
 | .makeSlice t l c=>okMk P t (g l) (g c)
 | .store t a x=>okSt P t (g a) (g x) σ
 | .convert s _ x=>okCv P s (g x) σ
 | .call c=>okCall P c g σ
 | .mapUpdate t _ _ _=>(mapS P t).isNone
 | .lookup t _ _ _=>(mapS P t).isNone
 | _=>true
def strX (o:BinOp) (a b:ByteArray):Option V:=match o with
 | .add=>some (.d (.lit (.string ⟨⟨a.data.toList++b.data.toList⟩⟩)))
 | .eql=>some (.d (.lit (.bool (a.data.toList==b.data.toList))))
 | .neq=>some (.d (.lit (.bool (!(a.data.toList==b.data.toList)))))
 | _=>none
def twoS (op:Op) (g:Operand→V):Option (BinOp × ByteArray × ByteArray):=match op with
 | .binOp o _ x y _=>(match g x with
  | .d (.lit (.string a))=>(match g y with
   | .d (.lit (.string b))=>some (o,a,b)
   | _=>none)
  | _=>none)
 | _=>none
def elX' (k:Nat) (es:List D) (i j:Nat) (x:Nat × Bool):Option V:=match es[i]? with
 | some e=>(partD x.2 j x.1 k e).map .d
 | none=>none
def loadX (P:Program) (t:Nat) (a:V) (σ:Sig):Option V:=match ldT P t with
 | none=>none
 | some x=>match a with
  | .d (.pd k es i j)=>elX' k es i j x
  | .po id o=>(match σ.get id with
   | some (.cell cs _)=>partV x.2 o x.1 cs
   | _=>none)
  | .pe id k i j=>(match σ.get id with
   | some (.row k' es _)=>if k=k' then elX' k es i j x else none
   | _=>none)
  | _=>none
def nextX (x:V) (σ:Sig):Option (V × Sig):=match x with
 | .it id=>(match σ.get id with
  | some (.iter s pos)=>if pos<s.size then some (.tup [.d (.lit (.bool true)),.d (.lit (.int .i64 pos)),.d (.lit (.int .i32 (Utf8.decode s pos).1))],σ.set id (.iter s (pos+(Utf8.decode s pos).2))) else some (.tup [.d (.lit (.bool false))],σ)
  | _=>none)
 | _=>none
def calleeX {α:Type} (v:V) (k:Nat→List V→Option α):Option α:=match v with
 | .d (.fn f caps)=>k f (caps.map .d)
 | .fn f caps=>k f caps
 | _=>none
def calleeL (v:V) (al:List V):List V:=match v with
 | .d (.fn _ caps)=>al++caps.map .d
 | .fn _ caps=>al++caps
 | .d (.bf _ fs)=>fs.map .d++(al++[])
 | _=>al
def calleeA {α:Type} (v:V) (al:List V) (k:Nat→List V→Option α):Option α:=match v with
 | .d (.fn f _)=>k f (calleeL v al)
 | .fn f _=>k f (calleeL v al)
 | .d (.bf f _)=>k f (calleeL v al)
 | _=>none
def pickX (c a b:V):Option V:=match c with
 | .d (.lit (.bool t))=>some (match t with|true=>a|false=>b)
 | _=>none
abbrev Run1:=Nat→List V→Sig→Nat→Option (V × Sig)
structure Run where
 call:Run1
 rnd:Run1
def valX (P:Program) (op:Op) (g:Operand→V) (σ:Sig) (id:Nat):Option (V × Sig):=match twoS op g with
 | some (o,a,b)=>if okStr o a b=true then (strX o a b).map fun v=>(v,σ) else none
 | none=>if okS P op g σ=true then (match stepR P op g σ id with
  | some r=>some (r.2.1,r.2.2)
  | none=>none) else none
def quietX (P:Program) (op:Op) (g:Operand→V) (σ:Sig) (id:Nat):Option (V × Sig):=match op with
 | .pick c a b=>(pickX (g c) (g a) (g b)).map fun v=>(v,[])
 | .load t x=>(loadX P t (g x) σ).map fun v=>(v,[])
 | .call c=>(match c.callee with
  | .builtin _=>if okS P op g σ=true then (match quietR P op g σ id with
   | some r=>some (r.2.1,r.2.2)
   | none=>none) else none
  | _=>none)
 | op=>match twoS op g with
  | some (o,a,b)=>if okStr o a b=true then (strX o a b).map fun v=>(v,[]) else none
  | none=>if okS P op g σ=true then (match quietR P op g σ id with
   | some r=>some (r.2.1,r.2.2)
   | none=>none) else none
def reach (σ:Sig) (vs:List V):List Nat:=idsC σ (idsC σ (idsC σ (idsE [] vs)))
def callX (P:Program) (run:Run) (f:Nat) (args:List V) (σ:Sig) (id:Nat):Option (V × Sig):=
 if entT P f=true then
  (if okL (reach σ args) id σ=true then
   (match run.call f (args.map (V.sel (fw (reach σ args)))) (σ.sel (fw (reach σ args))) (reach σ args).length with
   | some r=>some (r.1.sel (bk (reach σ args) id),delL σ (reach σ args)++r.2.sel (bk (reach σ args) id))
   | none=>none) else none)
 else (match extV P f args with
  | some v=>some (v,σ)
  | none=>none)
def stepX (P:Program) (run:Run) (op:Op) (g:Operand→V) (σ:Sig) (id:Nat):Option (V × Sig):=match op with
 | .pick c a b=>(pickX (g c) (g a) (g b)).map fun v=>(v,σ)
 | .load t x=>(loadX P t (g x) σ).map fun v=>(v,σ)
 | .next x isStr=>if isStr=true then nextX (g x) σ else none
 | .call c=>(match c.callee with
  | .value f=>(match g f with
   | .yl i=>run.rnd i (c.args.toList.map g) σ id
   | v=>calleeA v (c.args.toList.map g) fun k al=>callX P run k al σ id)
  | .builtin _=>valX P op g σ id
  | .invoke _ _=>none)
 | op=>valX P op g σ id
def guardX (ops:Array Oper) (o:Oper) (e:Env):Option (Bool × Env):=match o.guard with
 | none=>some (true,e)
 | some (j,want)=>match (ops[j]?).bind (·.dst) with
  | none=>none
  | some d=>match e.get d with
   | .d (.lit (.bool b))=>some (b==want,e.put d (.d (.lit (.bool b))))
   | .tup []=>some (false,e)
   | _=>none
def stuckX {α:Type} (s:String):Option α:=none
def fSig {α:Type} (σ:Sig) (k:Sig→α):α:=match σ with
 | []=>k []
 | (i,b)::r=>fBlk b fun b=>k ((i,b)::r)
def opsX (P:Program) (G:Gl) (run:Run) (ops:Array Oper) (base:Nat):Nat→List Oper→Env→Sig→Option (Env × Sig)
 | _,[],e,σ=>some (e,σ)
 | i,o::r,e,σ=>match guardX ops o e with
  | some (true,e)=>(match stepX P run o.op (evF G e.get) σ (base+4*i) with
   | some (v,σ')=>fV v fun v=>fSig σ' fun σ'=>opsX P G run ops base (i+1) r (e.putO o.dst v) σ'
   | none=>stuckX o.pos)
  | some (false,e)=>opsX P G run ops base (i+1) r (e.putO o.dst (.tup [])) σ
  | none=>stuckX o.pos
def setS (vs:List V):Bool:=(idsE [] vs).isEmpty
def callQ (P:Program) (run:Run) (f:Nat) (args:List V) (id:Nat):Option (V × Sig):=
 if entT P f=true then
  (match run.call f (args.map (V.sel (fw []))) [] 0 with
   | some r=>some (r.1.sel (bk [] id),r.2.sel (bk [] id))
   | none=>none)
 else (match extV P f args with
  | some v=>some (v,[])
  | none=>none)
def vcallX (P:Program) (run:Run) (lo:List Nat) (ops:Array Oper) (i:Nat) (op:Op) (g:Operand→V) (σp acc:Sig) (id:Nat):Option (Bool × V × Sig):=match op with
 | .call c=>(match c.callee with
  | .value f=>(match g f with
   | .yl j=>if lateOk lo ops i=true then (run.rnd j (c.args.toList.map g) (σp++acc) id).map fun r=>(false,r) else none
   | v=>calleeA v (c.args.toList.map g) fun k al=>if setS al=true then (callQ P run k al id).map fun r=>(true,r)
    else if lateOk lo ops i=true then (callX P run k al (σp++acc) id).map fun r=>(false,r) else none)
  | _=>none)
 | _=>none
def opsDX (P:Program) (G:Gl) (run:Run) (ops:Array Oper) (base:Nat):Nat→List Oper→Env→Sig→Sig→Option (Env × Sig)
 | _,[],e,σp,acc=>some (e,σp++acc)
 | i,o::r,e,σp,acc=>match guardX ops o e with
  | some (true,e)=>
   if isE o.op=true then (match stepX P run o.op (evF G e.get) (σp++acc) (base+4*i) with
    | some (v,σ')=>fV v fun v=>fSig σ' fun σ'=>opsDX P G run ops base (i+1) r (e.putO o.dst v) σ' []
    | none=>stuckX o.pos)
   else if isVCall o.op=true then (match vcallX P run [] ops i o.op (evF G e.get) σp acc (base+4*i) with
    | some (true,v,new)=>fV v fun v=>opsDX P G run ops base (i+1) r (e.putO o.dst v) σp (acc++new)
    | some (false,v,σ')=>fV v fun v=>opsDX P G run ops base (i+1) r (e.putO o.dst v) σ' []
    | none=>stuckX o.pos)
   else (match quietX P o.op (evF G e.get) σp (base+4*i) with
    | some (v,new)=>fV v fun v=>opsDX P G run ops base (i+1) r (e.putO o.dst v) σp (acc++new)
    | none=>stuckX o.pos)
  | some (false,e)=>opsDX P G run ops base (i+1) r (e.putO o.dst (.tup [])) σp acc
  | none=>stuckX o.pos
def ownOf:V→Option Nat
 | .po i _=>some i
 | .pe i _ _ _=>some i
 | _=>none
def stOkX (σk:Sig) (op:Op) (g:Operand→V):Bool:=match op with
 | .store _ a _=>(match ownOf (g a) with
  | some i=>(σk.get i).isNone
  | none=>false)
 | _=>false
def noRun:Run:=⟨fun _ _ _ _=>none,fun _ _ _ _=>none⟩
def argsC (op:Op) (g:Operand→V):List V:=match op with
 | .call c=>(match c.callee with
  | .value f=>calleeL (g f) (c.args.toList.map g)
  | _=>[])
 | _=>[]
def isYl (op:Op) (g:Operand→V):Bool:=match op with
 | .call c=>(match c.callee with
  | .value f=>(match g f with
   | .yl _=>true
   | _=>false)
  | _=>false)
 | _=>false
def okE (σk σ:Sig) (op:Op) (g:Operand→V):Bool:= !isYl op g&&(reach σ (argsC op g)).all fun j=>(σk.get j).isNone
def scanX (P:Program) (G:Gl) (ops:Array Oper) (base:Nat):Nat→List Oper→Env→Sig→List Nat→List (Nat × Option Nat)→Bool→Option (List Nat × List (Nat × Option Nat) × Bool)
 | _,[],_,_,ids,lds,oc=>some (ids,lds,oc)
 | i,o::r,e,σ,ids,lds,oc=>match guardX ops o e with
  | some (true,e)=>(match stepX P noRun o.op (evF G e.get) σ (base+4*i) with
   | some (v,σ')=>fV v fun v=>fSig σ' fun σ'=>scanX P G ops base (i+1) r (e.putO o.dst v) σ'
    (match o.op with
     | .store _ a _=>(match ownOf (evF G e.get a) with
      | some k=>k::ids
      | none=>ids)
     | _=>ids)
    (match o.op with
     | .load _ a=>(i,ownOf (evF G e.get a))::lds
     | _=>lds) oc
   | none=>scanX P G ops base (i+1) r (e.putO o.dst .unk) σ
    (match o.op with
     | .store _ a _=>(match ownOf (evF G e.get a) with
      | some k=>k::ids
      | none=>ids)
     | op=>reach σ (argsC op (evF G e.get))++ids) lds (oc||(isVCall o.op && !lateOk [] ops i && !(reach σ (argsC o.op (evF G e.get))).isEmpty)))
  | some (false,e)=>scanX P G ops base (i+1) r (e.putO o.dst (.tup [])) σ ids lds oc
  | none=>scanX P G ops base (i+1) r (e.putO o.dst .unk) σ ids lds oc
def loX (ids:List Nat):List (Nat × Option Nat)→List Nat
 | []=>[]
 | (i,none)::r=>i::loX ids r
 | (i,some k)::r=>if ids.contains k=true then loX ids r else i::loX ids r
def delW:List Nat→Sig→Sig
 | [],σ=>σ
 | i::r,σ=>delW r (σ.del i)
def opsLX (P:Program) (G:Gl) (run:Run) (lo:List Nat) (σk:Sig) (ops:Array Oper) (base:Nat):Nat→List Oper→Bool→Env→Sig→Sig→Option (Env × Sig)
 | _,[],_,e,σp,acc=>some (e,σp++acc)
 | i,o::r,kp,e,σp,acc=>match guardX ops o e with
  | some (true,e)=>
   if isE o.op=true then (if ((kp&&stOkX σk o.op (evF G e.get))||aftL lo ops i)=true then (match stepX P run o.op (evF G e.get) (σp++acc) (base+4*i) with
    | some (v,σ')=>fV v fun v=>fSig σ' fun σ'=>opsLX P G run lo σk ops base (i+1) r (kp&&stOkX σk o.op (evF G e.get)) (e.putO o.dst v) σ' []
    | none=>stuckX o.pos) else stuckX o.pos)
   else if isVCall o.op=true then (match vcallX P run lo ops i o.op (evF G e.get) σp acc (base+4*i) with
    | some (true,v,new)=>fV v fun v=>opsLX P G run lo σk ops base (i+1) r kp (e.putO o.dst v) σp (acc++new)
    | some (false,v,σ')=>if ((kp&&okE σk (σp++acc) o.op (evF G e.get))||aftL lo ops i)=true then (fV v fun v=>opsLX P G run lo σk ops base (i+1) r (kp&&okE σk (σp++acc) o.op (evF G e.get)) (e.putO o.dst v) σ' []) else stuckX o.pos
    | none=>stuckX o.pos)
   else if lo.contains i=true then (match quietX P o.op (evF G e.get) σk (base+4*i) with
    | some (v,[])=>fV v fun v=>opsLX P G run lo σk ops base (i+1) r kp (e.putO o.dst v) σp acc
    | _=>stuckX o.pos)
   else (match quietX P o.op (evF G e.get) σp (base+4*i) with
    | some (v,new)=>fV v fun v=>opsLX P G run lo σk ops base (i+1) r kp (e.putO o.dst v) σp (acc++new)
    | none=>stuckX o.pos)
  | some (false,e)=>opsLX P G run lo σk ops base (i+1) r kp (e.putO o.dst (.tup [])) σp acc
  | none=>stuckX o.pos
def isLd (op:Op):Bool:=match op with
 | .load _ _=>true
 | _=>false
def cflL (B:List Nat) (i:Nat):Nat→List Oper→Bool
 | _,[]=>false
 | j,o::r=>((isE o.op||isVCall o.op) && !(B.getD j 0).testBit i && !(B.getD i 0).testBit j)||cflL B i (j+1) r
def lo2 (ops:Array Oper) (lds:List (Nat × Option Nat)):List Nat:=(lds.map (·.1)).filter fun i=>cflL (befs [] ops.toList) i 0 ops.toList
def id2 (ops:Array Oper) (lds:List (Nat × Option Nat)) (σ:Sig):List Nat:=(σ.map (·.1)).filter fun k=> !((lds.filter fun x=>cflL (befs [] ops.toList) x.1 0 ops.toList).any fun x=>x.2==some k)
def drawX (P:Program) (G:Gl) (run:Run) (ops:Array Oper) (st:St):Option (Env × Sig):=
 if drawOk [] ops=true∧((ops.toList.any fun o=>isVCall o.op)&&ops.toList.any fun o=>isLd o.op)=false then opsDX P G run ops st.nx 0 ops.toList st.env st.sg []
 else match scanX P G ops st.nx 0 ops.toList st.env st.sg [] [] false with
 | some (ids,lds,oc)=>if drawOk [] ops=true∧oc=false then opsDX P G run ops st.nx 0 ops.toList st.env st.sg []
  else if drawOk (loX ids lds) ops=true∧loOk (loX ids lds) 0 ops.toList=true then opsLX P G run (loX ids lds) (delW ids st.sg) ops st.nx 0 ops.toList true st.env st.sg []
  else if drawOk (lo2 ops lds) ops=true∧loOk (lo2 ops lds) 0 ops.toList=true then opsLX P G run (lo2 ops lds) (delW (id2 ops lds st.sg) st.sg) ops st.nx 0 ops.toList true st.env st.sg []
  else stuckX ((ops.toList.head?).elim "draw" fun o=>o.pos)
 | none=>none
def eqVl:Value→Value→Bool
 | .int k n,.int k' n'=>decide (k=k')&&decide (n=n')
 | .bool a,.bool b=>a==b
 | .string a,.string b=>a.data.toList==b.data.toList
 | .pointer none,.pointer none=>true
 | .slice none 0 0,.slice none 0 0=>true
 | .nilIface,.nilIface=>true
 | _,_=>false
mutual
def eqD:D→D→Bool
 | .lit a,.lit b=>eqVl a b
 | .agg a,.agg b=>eqDs a b
 | .sd k f a,.sd k' f' b=>k==k'&&f==f'&&eqDs a b
 | .pd k a i j,.pd k' b i' j'=>k==k'&&i==i'&&j==j'&&eqDs a b
 | .fn f a,.fn g b=>f==g&&eqDs a b
 | .ifc t a,.ifc u b=>t==u&&eqD a b
 | .bf f a,.bf g b=>f==g&&eqDs a b
 | _,_=>false
def eqDs:List D→List D→Bool
 | [],[]=>true
 | x::xs,y::ys=>eqD x y&&eqDs xs ys
 | _,_=>false
end
def eqA:List V→List D→Bool
 | [],[]=>true
 | .d x::xs,y::ys=>eqD x y&&eqA xs ys
 | _,_=>false
abbrev Orc:=List (Nat × List D × V)
def orc:Orc→Nat→List V→Option V
 | [],_,_=>none
 | (g,az,r)::t,f,args=>match Nat.beq g f with
  | true=>(match eqA args az with
   | true=>some r
   | false=>orc t f args)
  | false=>orc t f args
structure Msk where
 fn:Nat→Bool
 trim:Bool:=false
 orc:Orc:=[]
instance:CoeFun Msk (fun _=>Nat→Bool):=⟨Msk.fn⟩
def orcX (M:Msk) (f:Nat) (args:List V) (σ:Sig) (m:Nat):Option V:=match σ,m with
 | [],0=>orc M.orc f args
 | _,_=>none
def needF (M:Msk) (g:Operand→V) (op:Op):List V:=match op with
 | .buildSlice _ _ ps=>ps.toList.map fun p=>g p.2
 | .makeInterface _ x=>[g x]
 | .store _ a x=>(match g a with
  | .pe _ _ _ _=>[g x]
  | _=>[])
 | .call c=>(match c.callee with
  | .value f=>(match g f with
   | .d (.fn k _)=>if M k=true then [] else c.args.toList.map g
   | .fn k caps=>if M k=true then [] else c.args.toList.map g++caps
   | .d (.bf k _)=>if M k=true then [] else c.args.toList.map g
   | _=>[])
  | _=>[])
 | _=>[]
def needFs (M:Msk) (g:Operand→V) (ops:List Oper):List V:=ops.flatMap fun o=>needF M g o.op
def needS (P:Program) (G:Gl) (M:Msk) (ops:Array Oper) (base:Nat):Nat→List Oper→Env→Sig→List V→List V
 | _,[],_,_,acc=>acc
 | i,o::r,e,σ,acc=>match guardX ops o e with
  | some (true,e)=>(match stepX P noRun o.op (evF G e.get) σ (base+4*i) with
   | some (v,σ')=>fV v fun v=>fSig σ' fun σ'=>needS P G M ops base (i+1) r (e.putO o.dst v) σ' (needF M (evF G e.get) o.op++acc)
   | none=>needS P G M ops base (i+1) r (e.putO o.dst .unk) σ (needF M (evF G e.get) o.op++acc))
  | some (false,e)=>needS P G M ops base (i+1) r (e.putO o.dst (.tup [])) σ acc
  | none=>needS P G M ops base (i+1) r (e.putO o.dst .unk) σ (needF M (evF G e.get) o.op++acc)
def isNd (op:Op):Bool:=match op with
 | .buildSlice _ _ _=>true
 | .makeInterface _ _=>true
 | .call c=>(match c.callee with
  | .value _=>true
  | _=>false)
 | _=>false
def needR (P:Program) (G:Gl) (M:Msk) (ops:Array Oper) (st:St):List V:=
 if (ops.toList.any fun o=>isNd o.op)=true then needS P G M ops st.nx 0 ops.toList st.env st.sg [] else needFs M (evF G st.env.get) ops.toList
def deepF:Nat→List Nat→St→St
 | 0,_,st=>st
 | _,[],st=>st
 | n+1,i::r,st=>match st.sg.get i with
  | some (.cell cs _)=>deepF n r ((deepF n (idsE [] cs) st).frz i)
  | some _=>deepF n r (st.frz i)
  | none=>deepF n r st
def mxA (i m:Nat):V→Nat
 | .so j _ lo n=>if j=i then Nat.max m (lo+n) else m
 | .pe j _ a _=>if j=i then Nat.max m (a+1) else m
 | _=>m
def mxV (i m:Nat):V→Nat
 | .agg l=>l.foldl (mxA i) m
 | .tup l=>l.foldl (mxA i) m
 | .fn _ l=>l.foldl (mxA i) m
 | v=>mxA i m v
def mxE (i:Nat):Env→Nat→Nat
 | [],m=>m
 | (_,v)::r,m=>mxE i r (mxV i m v)
def mxS (i:Nat):Sig→Nat→Nat
 | [],m=>m
 | (_,.cell cs _)::r,m=>mxS i r (cs.foldl (mxV i) m)
 | _::r,m=>mxS i r m
def trimG (e:Env) (σ:Sig):Sig→Sig
 | []=>[]
 | (i,.row k es ty)::r=>fN (mxS i σ (mxE i e 0)) fun m=>if m<es.length then fL (es.take m) fun es=>(i,.row k es ty)::trimG e σ r else (i,.row k es ty)::trimG e σ r
 | x::r=>x::trimG e σ r
def isApp (op:Op):Bool:=match op with
 | .call c=>(match c.callee with
  | .builtin .append=>true
  | _=>false)
 | _=>false
def trimF (M:Msk) (ops:Array Oper) (st:St):St:=if M.trim=true then (if (ops.toList.any fun o=>isApp o.op)=true then ⟨st.env,trimG st.env st.sg st.sg,st.nx⟩ else st) else st
def keepM:Nat→Env→Env
 | _,[]=>[]
 | m,(k,v)::r=>if Nat.testBit m k=true then (k,v)::keepM (m ^^^ 2 ^ k) r else keepM m r
def regX (P:Program) (G:Gl) (M:Msk) (run:Run) (lm:Nat) (ops:Array Oper) (draw:Bool) (st:St):Option (Exit × St):=
 match (match draw with
  | true=>drawX P G run ops st
  | false=>opsX P G run ops st.nx 0 ops.toList st.env st.sg) with
 | some (e,σ)=>fN (st.nx+4*ops.size) fun nx=>some (.normal,⟨keepM lm e,σ,nx⟩)
 | none=>none
def resX (P:Program):List ResultVar→St→Option (List V)
 | [],_=>some []
 | .tmp t::r,st=>(resX P r st).map fun vs=>st.env.get t::vs
 | .cell a t::r,st=>match loadX P t (st.env.get a) st.sg with
  | some v=>(resX P r st).map fun vs=>v::vs
  | none=>none
def doneX (P:Program) (M:Msk) (rs:List ResultVar) (f m:Nat) (st:St):Option (V × Sig):=
 match resX P rs st with
 | none=>stuckX "result"
 | some vs0=>
  let st:=if M f=true then st else deepF 50 (idsE [] vs0) st
  match resX P rs st with
  | none=>stuckX "result"
  | some vs=>
   let l:=geL m (reach st.sg (vs++(List.range m).map fun i=> .po i 0))
   if l.length≤4 then some ((retV vs).sel (selG m l),st.sg.sel (selG m l)) else stuckX "names"
def maskV (x:Operand) (m:Nat):Nat:=match x with
 | .tmp t=>m ||| 2 ^ t
 | _=>m
def maskO:List Oper→Nat→Nat→Nat
 | [],_,m=>m
 | o::r,d,m=>maskO r (match o.dst with|some t=>d ||| 2 ^ t|none=>d)
  (m ||| ((o.op.operands.toList.foldr maskV 0) &&& (d ^^^ (2 ^ 600 - 1))))
def maskC:Code→Nat→Nat
 | .region _ ops _,m=>maskO ops.toList 0 m
 | .seq a b,m=>maskC b (maskC a m)
 | .cond c a b,m=>maskC b (maskC a (maskV c m))
 | .block _ c,m=>maskC c m
 | .loop c,m=>maskC c m
 | .scope c,m=>maskC c m
 | .rangeFunc g _ a c,m=>maskV g (maskC a (maskC c m))
 | _,m=>m
def maskR:List ResultVar→Nat→Nat
 | [],m=>m
 | .tmp t::r,m=>maskR r (m ||| 2 ^ t)
 | .cell t _::r,m=>maskR r (m ||| 2 ^ t)
def maskF (fn:Func) (c:Code):Nat:=fN (maskR fn.results.toList (maskC c 0)) id
abbrev CodeRun:=Nat→Nat→Code→St→Option (Exit × St)
def allM:Nat:=2 ^ 600 - 1
def rndX (ih:CodeRun):Run1:=fun i args σ id=>match σ.get i with
 | some (.rc y none e)=>
  if i<id∧y.ps.toList.all (fun p=>decide (p<y.n))=true∧args.length=y.ps.size∧noR y.asg=true∧noR y.body=true∧codeOk y.n y.asg=true∧codeOk y.n y.body=true then
   (match ih y.n allM y.asg ⟨fillE y.ps.toList (args.map (V.sel (ltG id))) (e.sel (ltG id)),(σ.del i).sel (ltG id),id⟩ with
   | some (.normal,st1)=>(match ih y.n allM y.body st1 with
    | some (ex,st2)=>(match (match ex with
     | .normal=>some none
     | .ret=>some (some Code.ret)
     | .exit k=>some (some (Code.exit k))
     | _=>none) with
     | some j=>if (geL id (reach st2.sg ((σ.filter fun p=>decide (p.1<id)).map fun p=> .po p.1 0))).length≤4 then
      some (.d (.lit (.bool j.isNone)),(i,.rc y j e)::st2.sg.sel (selY σ id (geL id (reach st2.sg ((σ.filter fun p=>decide (p.1<id)).map fun p=> .po p.1 0))))) else stuckX "names of a round"
     | none=>none)
    | none=>none)
   | _=>none) else stuckX "round"
 | _=>stuckX "no round"
def outR (st st':St):Option (Exit × St):=match st'.sg.get st.nx with
 | some (.rc _ none _)=>some (.normal,⟨st.env,st'.sg.del st.nx,st'.nx⟩)
 | some (.rc _ (some .ret) _)=>some (.ret,⟨st.env,st'.sg.del st.nx,st'.nx⟩)
 | some (.rc _ (some (.exit k)) _)=>some (.exit k,⟨st.env,st'.sg.del st.nx,st'.nx⟩)
 | _=>stuckX "behind a loop"
def rngX (P:Program) (ih:CodeRun) (n:Nat) (ps:Array Nat) (asg body:Code) (st:St) (k:Nat) (caps:List V):Option (Exit × St):=match P.funcs[k]? with
 | none=>none
 | some fn=>match fn.body with
  | none=>none
  | some c=>if entT P k=true∧fn.results.toList.isEmpty=true∧caps.length+1≤fn.ntmps∧codeOk fn.ntmps c=true then
   (match ih fn.ntmps (maskF fn c) c ⟨argE 0 (.yl st.nx::caps),(st.nx,.rc ⟨n,ps,asg,body⟩ none st.env)::st.sg,st.nx+1⟩ with
   | some (.normal,st')=>outR st st'
   | some (.ret,st')=>outR st st'
   | _=>none) else stuckX fn.name
def funX (P:Program) (M:Msk) (code:CodeRun) (f:Nat) (args:List V) (σ:Sig) (m:Nat):Option (V × Sig):=match orcX M f args σ m with
 | some v=>some (v,[])
 | none=>match P.funcs[f]? with
 | none=>none
 | some fn=>match fn.body with
  | none=>none
  | some c=>if codeOk fn.ntmps c=true∧args.length≤fn.ntmps then
   (match code fn.ntmps (maskF fn c) c (if M f=true then ⟨argE 0 args,σ,m⟩ else deepF 50 (List.range m) ⟨argE 0 args,σ,m⟩) with
   | some (.normal,st)=>doneX P M fn.results.toList f m st
   | some (.ret,st)=>doneX P M fn.results.toList f m st
   | _=>stuckX fn.name) else stuckX fn.name
def bodyX (P:Program) (G:Gl) (M:Msk) (ih:CodeRun) (n lm:Nat) (c:Code) (st:St):Option (Exit × St):=match c with
 | .skip=>some (.normal,st)
 | .region _ ops draw=>regX P G M ⟨funX P M ih,rndX ih⟩ lm ops draw (trimF M ops (deepF 50 (idsE [] (needR P G M ops st)) st))
 | .seq a b=>(match ih n lm a st with
  | some (.normal,st)=>ih n lm b st
  | r=>r)
 | .cond c a b=>(match evF G st.env.get c with
  | .d (.lit (.bool true))=>ih n lm a st
  | .d (.lit (.bool false))=>ih n lm b st
  | _=>none)
 | .block id c=>(match ih n lm c st with
  | some (.exit i,st)=>if i=id then some (.normal,st) else some (.exit i,st)
  | r=>r)
 | .loop c=>(match ih n lm c st with
  | some (.normal,st)=>ih n lm (.loop c) st
  | r=>r)
 | .exit id=>some (.exit id,st)
 | .ret=>some (.ret,st)
 | .label _=>some (.normal,st)
 | .rangeFunc g ps a c=>calleeX (evF G st.env.get g) fun k caps=>rngX P ih n ps a c st k caps
 | .scope c=>(match ih n lm c st with
  | some (.goto _,_)=>none
  | r=>r)
 | _=>none
def codeX (P:Program) (G:Gl) (M:Msk):Nat→CodeRun
 | 0=>fun _ _ _ _=>stuckX "fuel"
 | n+1=>bodyX P G M (codeX P G M n)
def runX (P:Program) (G:Gl) (M:Msk) (n:Nat):Run1:=funX P M (codeX P G M n)
end Go.Proofs.YtkhonlnajdfhfaaGreatDoor
set_option linter.unusedSimpArgs false
set_option linter.unusedVariables false
namespace Go.Proofs.YtkhonlnajdfhfaaGreatDoor
theorem fN_eq {α:Type} (n:Nat) (k:Nat→α):fN n k=k n:=by cases n<;>rfl
theorem fI_eq {α:Type} (i:Int) (k:Int→α):fI i k=k i:=by cases i<;>simp [fI,fN_eq]
theorem fB_eq {α:Type} (b:Bool) (k:Bool→α):fB b k=k b:=by cases b<;>rfl
theorem fVal_eq {α:Type} (v:Value) (k:Value→α):fVal v k=k v:=by unfold fVal;split<;>simp [fI_eq,fB_eq]
theorem fD_eq {α:Type} (x:D) (k:D→α):fD x k=k x:=by unfold fD;split<;>simp [fVal_eq]
theorem fV_eq {α:Type} (v:V) (k:V→α):fV v k=k v:=by unfold fV;split<;>simp [fD_eq,fN_eq]
theorem fL_eq {α:Type} (l:List D) (k:List D→α):fL l k=k l:=by
 induction l generalizing k with
 | nil=>rfl
 | cons x r ih=>simp [fL,ih]
theorem fBlk_eq {α:Type} (b:Blk) (k:Blk→α):fBlk b k=k b:=by unfold fBlk;split<;>simp [fL_eq]
theorem fSig_eq {α:Type} (σ:Sig) (k:Sig→α):fSig σ k=k σ:=by unfold fSig;split<;>simp [fBlk_eq]
section
variable {P:Program} {g:Operand→V} {σ:Sig} {id:Nat}
theorem okBin_sound {o:BinOp} {t:Nat} {cst:Bool} {x y:V} {p:Prop} {v:V} (h:okBin P o t x y=true) (hr:binR P o t cst x y=some (p,v)):p:=by
 unfold binR at hr
 split at hr
 ·have h':okInt o _=true:=h
  split at hr
  ·cases o<;>simp only [shiftBin,reduceCtorEq,Option.some.injEq,Prod.mk.injEq] at hr<;>(obtain ⟨rfl,_⟩:=hr;simpa [okInt] using h')
  ·split at hr
   ·cases o<;>simp only [intBin,reduceCtorEq,Option.some.injEq,Prod.mk.injEq] at hr<;>(obtain ⟨rfl,_⟩:=hr;first|trivial|simpa [okInt] using h')
   ·cases hr
 ·have h':okStr o _ _=true:=h
  cases o<;>simp only [strBin,reduceCtorEq,Option.some.injEq,Prod.mk.injEq] at hr<;>(obtain ⟨rfl,_⟩:=hr;first|trivial|simpa [okStr] using h')
 ·have key : ∀q,eqR P t cst x y=some q→q.1:=by
   intro q hq
   unfold eqR at hq
   split at hq
   ·split at hq
    ·split at hq
     ·injection hq with hq;subst hq
      rename_i ks ks' vs us h1 h2 h3 h4 hs
      simp only [okBin,h1] at h
      unfold okEq at h
      split at h
      ·rename_i k1 k2 e1 e2
       injection e2 with e2;subst e2
       have:=sameCK_eq h
       subst this
       exact EqOk.of e1
      ·cases h
     ·cases hq
    ·cases hq
   ·split at hq
    ·injection hq with hq;subst hq;trivial
    ·cases hq
   ·split at hq
    ·injection hq with hq;subst hq;trivial
    ·cases hq
   ·split at hq
    ·simp only [Option.map_eq_some_iff] at hq
     obtain ⟨b,_,rfl⟩:=hq;trivial
    ·cases hq
  split at hr
  ·simp only [Option.map_eq_some_iff] at hr
   obtain ⟨q,hq,e⟩:=hr
   injection e with e1 _;subst e1;exact key q hq
  ·simp only [Option.map_eq_some_iff] at hr
   obtain ⟨q,hq,e⟩:=hr
   injection e with e1 _;subst e1;exact key q hq
  ·cases hr
theorem okN_sound {i:V} {n:Nat} {k:Int} (h:okN i n=true) (hk:numV i=some k):0≤k∧k<n:=by
 simpa [okN,hk] using h
theorem okSl_sound {t:Nat} {x:V} {lo hi mx:Option V} {p:Prop} {v:V} (h:okSl x lo hi mx=true) (hr:slR P t x lo hi mx=some (p,v)):p:=by
 unfold slR at hr
 unfold okSl at h
 split at hr
 ·rename_i lo' hi' mx' e1 e2 e3
  simp only [e1,e2,e3] at h
  split at hr
  ·split at hr
   ·rename_i hc
    injection hr with hr;injection hr with hr _;subst hr
    simp [okB,hc.2] at h
    omega
   ·cases hr
  ·split at hr
   ·split at hr
    ·simp [okB] at h
     split at hr<;>first
      | (injection hr with hr;injection hr with hr _;subst hr;first|trivial|(simp at h;omega))
      | cases hr
    ·cases hr
   ·cases hr
  ·split at hr
   ·split at hr
    ·rename_i hc
     injection hr with hr;injection hr with hr _;subst hr
     simp [okB,hc.2] at h
     omega
    ·cases hr
   ·cases hr
  ·cases hr
 ·cases hr
theorem okIx_sound {t:Nat} {a i:V} {n:Int} {p:Prop} {v:V} (h:okIx P t a i=true) (hn:numV i=some n) (hr:idxR P t a n=some (p,v)):p:=by
 unfold idxR at hr
 split at hr
 ·split at hr
  ·injection hr with hr;injection hr with hr _;subst hr;exact okN_sound h hn
  ·cases hr
 ·split at hr
  ·injection hr with hr;injection hr with hr _;subst hr;exact okN_sound h hn
  ·cases hr
 ·split at hr
  ·rename_i len s _ ha
   split at hr
   ·injection hr with hr;injection hr with hr _;subst hr
    simp only [okIx,ha] at h;exact okN_sound h hn
   ·injection hr with hr;injection hr with hr _;subst hr
    simp only [okIx,ha] at h;exact okN_sound h hn
   ·injection hr with hr;injection hr with hr _;subst hr
    simp only [okIx,ha] at h;exact okN_sound h hn
   ·cases hr
  ·cases hr
theorem okIv_sound {t:Nat} {a i:V} {n:Int} {p:Prop} {v:V} (h:okIv P t a i=true) (hn:numV i=some n) (hr:idxVR P t a n=some (p,v)):p:=by
 unfold idxVR at hr
 split at hr
 ·split at hr
  ·injection hr with hr;injection hr with hr _;subst hr;exact okN_sound h hn
  ·cases hr
 ·split at hr
  ·rename_i len s ag ha
   simp only [Option.map_eq_some_iff] at hr
   obtain ⟨y,_,e⟩:=hr
   injection e with e _;subst e
   simp only [okIv,ha] at h;exact okN_sound h hn
  ·cases hr
 ·cases hr
theorem fitB_sound {k:Nat} {x:D} (h:fitB k x=true):Fit k x:=by
 simpa [fitB,Fit] using h
theorem okBs_fit {k:Nat} : ∀ {es:List D},es.all (fitB k)=true→allFit k es
 | [],_=>trivial
 | x::r,h=>by
  simp only [List.all_cons,Bool.and_eq_true] at h
  exact ⟨fitB_sound h.1,okBs_fit h.2⟩
theorem okEl_sound {k:Nat} {x:V} {p:Prop} {new:List D} (h:okEl σ x=true) (hr:elemsV k σ x=some (p,new)):p:=by
 unfold elemsV at hr
 split at hr
 ·split at hr
  ·injection hr with hr;injection hr with hr _;subst hr;trivial
  ·cases hr
 ·injection hr with hr;injection hr with hr _;subst hr;trivial
 ·injection hr with hr;injection hr with hr _;subst hr;trivial
 ·split at hr
  ·rename_i hg
   split at hr
   ·injection hr with hr;injection hr with hr _;subst hr
    simpa [okEl,hg] using h
   ·cases hr
  ·cases hr
 ·split at hr
  ·injection hr with hr;injection hr with hr _;subst hr;trivial
  ·cases hr
 ·cases hr
theorem okF_sound {n b:Nat} (h:okF n b=true):appFits n b:=by simpa [okF,appFits] using h
theorem okAp_A {t t':Nat} {s x:V} {p:Prop} {v:V} {new:Sig} (h:okAp P t s x σ=true) (hr:appA P t t' s x σ id=some (p,v,new)):p:=by
 unfold appA at hr
 split at hr
 ·rename_i k bytes ha
  split at hr
  ·split at hr
   ·rename_i p' es' he
    simp only [okAp,ha,he,Bool.and_eq_true] at h
    have hp:=okEl_sound h.1 he
    split at hr
    ·injection hr with hr;injection hr with hr _;subst hr
     exact ⟨hp,okF_sound h.2⟩
    ·split at hr
     ·injection hr with hr;injection hr with hr _;subst hr
      simp only [okAp2,Bool.and_eq_true,Bool.or_eq_true,List.isEmpty_iff,Bool.not_eq_true',List.isEmpty_eq_false_iff] at h
      exact ⟨hp,by rw [List.length_append];exact okF_sound h.2.1,h.2.2⟩
     ·cases hr
    ·cases hr
   ·cases hr
  ·cases hr
 ·cases hr
theorem okAp_E {t t':Nat} {s x:V} {p:Prop} {v:V} {s':Sig} (h:okAp P t s x σ=true) (hr:appE P t t' s x σ id=some (p,v,s')):p:=by
 unfold appE at hr
 split at hr
 ·rename_i k bytes i0 k0 lo n ha
  split at hr
  ·split at hr
   ·rename_i k' es p' new hg he
    split at hr
    ·injection hr with hr;injection hr with hr _;subst hr
     simp only [okAp,ha,he,okAp2,hg,Bool.and_eq_true,decide_eq_true_eq] at h
     exact ⟨okEl_sound h.1 he,h.2.1.1,h.2.1.2,by rw [List.length_append];exact okF_sound h.2.2⟩
    ·cases hr
   ·cases hr
  ·cases hr
 ·cases hr
theorem okCp_sound {t t':Nat} {d x:V} {p:Prop} {v:V} {s':Sig} (h:okCp d x σ=true) (hr:cpR P t t' d x σ=some (p,v,s')):p:=by
 unfold cpR at hr
 simp only [okCp,Bool.and_eq_true] at h
 split at hr
 ·split at hr
  ·split at hr
   ·rename_i k' es p' new hg he
    split at hr
    ·injection hr with hr;injection hr with hr _;subst hr
     have h2:=h.2
     simp [okEl,hg] at h2
     exact ⟨okEl_sound h.1 he,h2⟩
    ·cases hr
   ·cases hr
  ·cases hr
 ·cases hr
theorem okCv_sound {s d:Nat} {x:V} {p:Prop} {v:V} {s':Sig} (h:okCv P s x σ=true) (hr:bsR P s d x σ=some (p,v,s')):p:=by
 unfold bsR at hr
 split at hr
 ·rename_i hc
  simp only [Bool.and_eq_true] at hc
  split at hr
  ·rename_i p' es he
   injection hr with hr;injection hr with hr _;subst hr
   simp only [okCv,hc.1.1,if_true,he,Bool.and_eq_true,List.all_eq_true] at h
   refine ⟨okEl_sound h.1 he,fun y hy =>?_⟩
   have:=h.2 y hy
   unfold isByteB at this
   split at this
   ·exact ⟨_,rfl⟩
   ·cases this
  ·cases hr
 ·cases hr
theorem okSt_sound {t:Nat} {a x:V} {p:Prop} {v:V} {s':Sig} (h:okSt P t a x σ=true) (hr:stR P t a x σ=some (p,v,s')):p:=by
 unfold stR at hr
 split at hr
 ·split at hr
  ·split at hr
   ·injection hr with hr;injection hr with hr _;subst hr;trivial
   ·cases hr
  ·cases hr
 ·rename_i s _ i k ix j hl
  split at hr
  ·rename_i hg
   simp only [okSt,hl,hg,Bool.and_eq_true,decide_eq_true_eq] at h
   split at hr
   ·split at hr
    ·rename_i hc
     injection hr with hr;injection hr with hr _;subst hr
     rw [if_pos hc] at h
     exact ⟨h.1,fitB_sound h.2⟩
    ·rename_i hc
     split at hr
     ·injection hr with hr;injection hr with hr _;subst hr
      rw [if_neg hc] at h
      exact ⟨h.1,fitB_sound h.2⟩
     ·cases hr
   ·cases hr
  ·cases hr
 ·cases hr
theorem pure_ok {op:Op} {p:Prop} {v:V} (h:okS P op g σ=true) (hr:pureR P op g=some (p,v)):p:=by
 have T : ∀ {q:Option (Prop × V)},q=some (p,v)→(∀y,q=some y→y.1)→p:=fun e k=>k _ e
 unfold pureR at hr
 split at hr
 case h_1=>injection hr with hr;injection hr with hr _;subst hr;trivial
 case h_2=>injection hr with hr;injection hr with hr _;subst hr;trivial
 case h_3=>
  unfold nilCkR at hr
  split at hr<;>first|(injection hr with hr;injection hr with hr _;subst hr;trivial)|cases hr
 case h_4=>exact okBin_sound h hr
 case h_5=>
  unfold unR at hr
  split at hr<;>first|(injection hr with hr;injection hr with hr _;subst hr;trivial)|cases hr
 case h_6=>
  unfold cvR at hr
  split at hr
  ·cases hr
  ·split at hr<;>first|(injection hr with hr;injection hr with hr _;subst hr;trivial)|cases hr
 case h_7=>
  unfold miR at hr
  split at hr<;>first|(injection hr with hr;injection hr with hr _;subst hr;trivial)|cases hr
 case h_8=>
  unfold mfR at hr
  split at hr
  ·split at hr
   ·split at hr
    ·split at hr<;>(injection hr with hr;injection hr with hr _;subst hr;trivial)
    ·cases hr
   ·split at hr
    ·simp only [Option.map_eq_some_iff] at hr;obtain ⟨_,_,e⟩:=hr;injection e with e _;subst e;trivial
    ·cases hr
  ·cases hr
 case h_9=>exact okSl_sound h hr
 case h_10=>
  unfold faR at hr
  split at hr
  ·split at hr
   ·cases hr
   ·split at hr<;>first|(injection hr with hr;injection hr with hr _;subst hr;trivial)|cases hr
  ·cases hr
 case h_11=>
  unfold fdR at hr
  split at hr
  ·split at hr<;>first|(simp only [Option.map_eq_some_iff] at hr;obtain ⟨_,_,e⟩:=hr;injection e with e _;subst e;trivial)|cases hr
  ·cases hr
 case h_12=>
  split at hr
  ·rename_i n hn;exact okIx_sound h hn hr
  ·cases hr
 case h_13=>
  split at hr
  ·rename_i n hn;exact okIv_sound h hn hr
  ·cases hr
 case h_14=>
  unfold taR at hr
  split at hr
  ·cases hr
  ·cases hr
  ·split at hr
   ·split at hr
    ·injection hr with hr;injection hr with hr _;subst hr;trivial
    ·split at hr
     ·simp only [Option.map_eq_some_iff] at hr;obtain ⟨_,_,e⟩:=hr;injection e with e _;subst e;trivial
     ·cases hr
   ·split at hr
    ·simp only [Option.map_eq_some_iff] at hr;obtain ⟨_,_,e⟩:=hr;injection e with e _;subst e;trivial
    ·cases hr
   ·cases hr
 case h_15=>
  unfold exR at hr
  split at hr
  ·simp only [Option.map_eq_some_iff] at hr;obtain ⟨_,_,e⟩:=hr;injection e with e _;subst e;trivial
  ·cases hr
 case h_16=>
  unfold bdR at hr
  split at hr
  ·simp only [Option.map_eq_some_iff] at hr;obtain ⟨_,_,e⟩:=hr;injection e with e _;subst e;trivial
  ·cases hr
 case h_17=>
  unfold callR at hr
  split at hr
  ·unfold lenTR at hr
   split at hr
   ·split at hr<;>first|(injection hr with hr;injection hr with hr _;subst hr;trivial)|cases hr
   ·split at hr<;>first|(injection hr with hr;injection hr with hr _;subst hr;trivial)|cases hr
   ·cases hr
  ·unfold mmR at hr
   split at hr<;>first|(injection hr with hr;injection hr with hr _;subst hr;trivial)|cases hr
  ·unfold mmR at hr
   split at hr<;>first|(injection hr with hr;injection hr with hr _;subst hr;trivial)|cases hr
  ·unfold usdR at hr
   repeat' split at hr
   all_goals first|(injection hr with hr;injection hr with hr _;subst hr;trivial)|cases hr
  ·unfold mm3R at hr
   split at hr<;>first|(injection hr with hr;injection hr with hr _;subst hr;trivial)|cases hr
  ·unfold mm3R at hr
   split at hr<;>first|(injection hr with hr;injection hr with hr _;subst hr;trivial)|cases hr
  ·cases hr
 case h_18=>cases hr
theorem alloc_ok {op:Op} {p:Prop} {v:V} {new:Sig} (h:okS P op g σ=true) (hr:aR P op g σ id=some (p,v,new)):p:=by
 unfold aR at hr
 split at hr
 ·split at hr
  ·split at hr
   ·injection hr with hr;injection hr with hr _;subst hr;trivial
   ·cases hr
  ·cases hr
 ·split at hr
  ·injection hr with hr;injection hr with hr _;subst hr;trivial
  ·cases hr
 ·split at hr
  ·rename_i k _ es ha hs
   split at hr
   ·injection hr with hr;injection hr with hr _;subst hr
    have h':okBs P _ _=true:=h
    simp only [okBs,ha,hs] at h'
    exact okBs_fit h'
   ·cases hr
  ·cases hr
 ·split at hr
  ·injection hr with hr;injection hr with hr _;subst hr;trivial
  ·cases hr
 ·split at hr
  ·rename_i l' c' k bytes z h1 h2 h3
   injection hr with hr;injection hr with hr _;subst hr
   have h':okMk P _ _ _=true:=h
   simp [okMk,h1,h2,h3] at h'
   omega
  ·cases hr
 ·split at hr
  ·rename_i c s x t t' e1 e2 e3
   simp only [okS,okCall,e1,e2,e3] at h
   exact okAp_A h hr
  ·cases hr
 ·injection hr with hr;injection hr with hr _;subst hr;trivial
 ·cases hr
theorem okUs_sound {t:Nat} {x n:V} {p:Prop} {v:V} {s':Sig} (h:okUs x n σ=true) (hr:usR P t x n σ=some (p,v,s')):p:=by
 unfold usR at hr
 split at hr
 ·injection hr with hr;injection hr with hr _;subst hr;trivial
 ·split at hr
  ·rename_i hg
   split at hr
   ·injection hr with hr;injection hr with hr _;subst hr
    simp only [okUs,hg] at h
    intro y hy
    have h1:=List.all_eq_true.1 h y hy
    unfold isByteB at h1
    split at h1
    ·exact ⟨_,rfl⟩
    ·cases h1
   ·cases hr
  ·cases hr
 ·cases hr
theorem eff_ok {op:Op} {p:Prop} {v:V} {s':Sig} (h:okS P op g σ=true) (hr:eR P op g σ id=some (p,v,s')):p:=by
 unfold eR at hr
 split at hr
 ·exact okSt_sound h hr
 ·unfold cbR at hr
  split at hr
  ·rename_i r hu
   injection hr with hr;subst hr
   unfold unsR at hu
   repeat' split at hu
   all_goals first|(injection hu with hu;injection hu with hu _;subst hu;trivial)|cases hu
  ·exact okCv_sound h hr
 ·split at hr
  ·rename_i c s x t t' e1 e2 e3
   simp only [okS,okCall,e1,e2,e3] at h
   exact okAp_E h hr
  ·rename_i c d x t t' e1 e2 e3
   simp only [okS,okCall,e1,e2,e3] at h
   exact okCp_sound h hr
  ·rename_i c x n t t' e1 e2 e3
   simp only [okS,okCall,e1,e2,e3] at h
   exact okUs_sound h hr
  ·rename_i c x t e1 e2 e3
   simp only [okS,okCall,e1,e2,e3] at h
   unfold clR at hr
   repeat' split at hr
   all_goals first
    | (injection hr with hr;injection hr with hr _;subst hr;trivial)
    | (cases hr;done)
    | (injection hr with hr;injection hr with hr _;subst hr;simp_all;done)
  ·cases hr
 ·simp only [okS,Option.isNone_iff_eq_none] at h
  unfold muR at hr
  repeat' split at hr
  all_goals first|(injection hr with hr;injection hr with hr _;subst hr;trivial)|(cases hr;done)|(simp [muS,h] at hr;done)
 ·simp only [okS,Option.isNone_iff_eq_none] at h
  unfold luR at hr
  repeat' split at hr
  all_goals first|(injection hr with hr;injection hr with hr _;subst hr;trivial)|(cases hr;done)|(simp [luS,h] at hr;done)
 ·cases hr
theorem quiet_ok {op:Op} {p:Prop} {v:V} {new:Sig} (h:okS P op g σ=true) (hr:quietR P op g σ id=some (p,v,new)):p:=by
 unfold quietR at hr
 split at hr
 ·rename_i h1
  injection hr with hr;injection hr with hr _;subst hr
  exact pure_ok h h1
 ·exact alloc_ok h hr
theorem step_ok {op:Op} {p:Prop} {v:V} {s':Sig} (h:okS P op g σ=true) (hr:stepR P op g σ id=some (p,v,s')):p:=by
 unfold stepR at hr
 split at hr
 ·rename_i h1
  injection hr with hr;injection hr with hr _;subst hr
  exact quiet_ok h h1
 ·exact eff_ok h hr
end
section
variable {P:Program} {G:Gl} {run:Run} {g:Operand→V} {σ:Sig} {id:Nat}
def RunOk (P:Program) (G:Gl) (run:Run):Prop:=(∀f args σ m r σ',run.call f args σ m=some (r,σ')→OFn P G f args σ m r σ') ∧ ∀i args σ id v σ',run.rnd i args σ id=some (v,σ')→YDoes P G i args σ id v σ'
theorem strX_sound {o:BinOp} {t:Nat} {cst:Bool} {a b:ByteArray} {v:V} (h:strX o a b=some v) : ∃p,binR P o t cst (.d (.lit (.string a))) (.d (.lit (.string b)))=some (p,v)∧(okStr o a b=true→p):=by
 have e1:(⟨⟨a.data.toList++b.data.toList⟩⟩:ByteArray)=a++b:=by
  apply ByteArray.ext
  rw [ByteArray.data_append]
  apply Array.toList_inj.1
  simp
 have e2:(a.data.toList==b.data.toList)=(a.toList==b.toList):=by
  rw [ByteArray.toList_eq,ByteArray.toList_eq]
 cases o<;>simp only [strX,reduceCtorEq,Option.some.injEq] at h<;>subst h<;>simp only [binR,strBin,Option.some.injEq,Prod.mk.injEq]
 ·exact ⟨_,⟨rfl,by rw [e1]⟩,fun h=>by simpa [okStr] using h⟩
 ·exact ⟨_,⟨rfl,by rw [e2]⟩,fun _=>trivial⟩
 ·exact ⟨_,⟨rfl,by rw [e2]⟩,fun _=>trivial⟩
theorem twoS_spec {op:Op} {o:BinOp} {a b:ByteArray} (h:twoS op g=some (o,a,b)) : ∃t x y u,op = .binOp o t x y u∧g x = .d (.lit (.string a))∧g y = .d (.lit (.string b)):=by
 unfold twoS at h
 split at h
 ·split at h
  ·split at h
   ·rename_i o' t x y u _ a' ha _ b' hb
    simp only [Option.some.injEq,Prod.mk.injEq] at h
    obtain ⟨rfl,rfl,rfl⟩:=h
    exact ⟨t,x,y,u,rfl,ha,hb⟩
   ·cases h
  ·cases h
 ·cases h
theorem quietP_val {op:Op} {v:V} {new:Sig} (h:(match twoS op g with
 | some (o,a,b)=>if okStr o a b=true then (strX o a b).map fun v=>(v,([]:Sig)) else none
 | none=>if okS P op g σ=true then (match quietR P op g σ id with
  | some r=>some (r.2.1,r.2.2)
  | none=>none) else none)=some (v,new)) : ∃p,quietR P op g σ id=some (p,v,new)∧p:=by
 split at h
 ·rename_i o a b ht
  obtain ⟨t,x,y,u,rfl,hx,hy⟩:=twoS_spec ht
  split at h
  ·rename_i hok
   simp only [Option.map_eq_some_iff] at h
   obtain ⟨v',hv,e⟩:=h
   injection e with e1 e2;subst e1;subst e2
   obtain ⟨p,h1,h2⟩:=strX_sound (P:=P) (t:=t) (cst:=isCst x||isCst y) hv
   exact ⟨p,by simp only [quietR,pureR,hx,hy,h1],h2 hok⟩
  ·cases h
 ·split at h
  ·rename_i hok
   split at h
   ·rename_i r hr
    obtain ⟨p,v',n'⟩:=r
    simp only [Option.some.injEq,Prod.mk.injEq] at h
    obtain ⟨rfl,rfl⟩:=h
    exact ⟨p,hr,quiet_ok hok hr⟩
   ·cases h
  ·cases h
theorem valX_sound {op:Op} {v:V} {s:Sig} (h:valX P op g σ id=some (v,s)) : ∃p,stepR P op g σ id=some (p,v,s)∧p:=by
 unfold valX at h
 split at h
 ·rename_i o a b ht
  obtain ⟨t,x,y,u,rfl,hx,hy⟩:=twoS_spec ht
  split at h
  ·rename_i hok
   simp only [Option.map_eq_some_iff] at h
   obtain ⟨v',hv,e⟩:=h
   injection e with e1 e2;subst e1;subst e2
   obtain ⟨p,h1,h2⟩:=strX_sound (P:=P) (t:=t) (cst:=isCst x||isCst y) hv
   exact ⟨p,by simp only [stepR,quietR,pureR,hx,hy,h1,List.append_nil],h2 hok⟩
  ·cases h
 ·split at h
  ·rename_i hok
   split at h
   ·rename_i r hr
    obtain ⟨p,v',n'⟩:=r
    simp only [Option.some.injEq,Prod.mk.injEq] at h
    obtain ⟨rfl,rfl⟩:=h
    exact ⟨p,hr,step_ok hok hr⟩
   ·cases h
  ·cases h
theorem elX'_sound {k:Nat} {es:List D} {i j:Nat} {x:Nat × Bool} {v:V} {K:V→Prop} (h:elX' k es i j x=some v) (hK:K v):elemW k es i j x K:=by
 unfold elX' at h
 split at h
 ·rename_i e he
  simp only [Option.map_eq_some_iff] at h
  obtain ⟨y,hy,rfl⟩:=h
  refine ⟨(List.getElem?_eq_some_iff.1 he).1,fun e' he' =>?_⟩
  rw [he] at he';injection he' with he';subst he'
  rw [hy];exact hK
 ·cases h
theorem loadX_sound {t:Nat} {a:V} {v:V} {K:V→Prop} (h:loadX P t a σ=some v) (hK:K v):loadV P t a σ K:=by
 unfold loadX at h
 split at h
 ·cases h
 ·rename_i x hx
  split at h
  ·simp only [loadV_pd,hx,optW];exact elX'_sound h hK
  ·split at h
   ·rename_i cs hg
    simp only [loadV_po,hx,optW,hg,cellW]
    rw [h];exact hK
   ·cases h
  ·split at h
   ·rename_i k' es tq hg
    split at h
    ·rename_i hk
     simp only [loadV_pe,hx,optW,hg,rowW]
     exact ⟨hk,elX'_sound h hK⟩
    ·cases h
   ·cases h
  ·cases h
theorem nextX_sound {x:V} {v:V} {s:Sig} {K:V→Sig→Prop} (h:nextX x σ=some (v,s)) (hK:K v s):nextW x σ K:=by
 unfold nextX at h
 split at h
 ·split at h
  ·rename_i s' pos hg
   rw [nextW_it]
   simp only [optW,hg,iterW]
   split at h<;>rename_i hlt<;>simp only [Option.some.injEq,Prod.mk.injEq] at h<;>obtain ⟨rfl,rfl⟩:=h
   ·simp only [decide_eq_true hlt,brW_true];exact hK
   ·simp only [decide_eq_false hlt,brW_false];exact hK
  ·cases h
 ·cases h
theorem pickX_sound {c a b v:V} {K:V→Prop} (h:pickX c a b=some v) (hK:K v):pickW c a b K:=by
 unfold pickX at h
 split at h
 ·rename_i t
  injection h with h;subst h
  cases t
  ·exact ⟨(fun e=>by cases e),fun _=>hK⟩
  ·exact ⟨fun _=>hK,(fun e=>by cases e)⟩
 ·cases h
theorem calleeA_sound {α:Type} {v:V} {al:List V} {k:Nat→List V→Option α} {y:α} (h:calleeA v al k=some y) : ∃f,k f (calleeL v al)=some y ∧ ∀(C:Nat→List V→Prop) Y,C f (calleeL v al)→calleeW v (fun k caps=>C k (al++caps)) Y (fun k fs=>C k (fs++(al++[]))):=by
 unfold calleeA at h
 split at h
 ·exact ⟨_,h,fun C _ hK=>hK⟩
 ·exact ⟨_,h,fun C _ hK=>hK⟩
 ·exact ⟨_,h,fun C _ hK=>hK⟩
 ·cases h
theorem callX_sound (ho:RunOk P G run) {f:Nat} {args:List V} {v:V} {s:Sig} {K:V→Sig→Prop} (h:callX P run f args σ id=some (v,s)) (hK:K v s):CallW P G f args σ id K:=by
 unfold callX at h
 split at h
 ·rename_i he
  split at h
  ·rename_i hl
   split at h
   ·rename_i r hr
    obtain ⟨r,s'⟩:=r
    simp only [Option.some.injEq,Prod.mk.injEq] at h
    obtain ⟨rfl,rfl⟩:=h
    exact CallW.of _ he (ho.1 _ _ _ _ _ _ hr) hl hK
   ·cases h
  ·cases h
 ·split at h
  ·rename_i he
   simp only [Option.some.injEq,Prod.mk.injEq] at h
   obtain ⟨rfl,rfl⟩:=h
   exact ⟨_,_,hK,.inr ⟨he,rfl⟩⟩
  ·cases h
theorem callQ_sound (ho:RunOk P G run) {f:Nat} {args:List V} {v:V} {s:Sig} {K:V→Sig→Prop} (h:callQ P run f args id=some (v,s)) (hK:K v s):DCallW P G f args σ id K:=by
 unfold callQ at h
 split at h
 ·rename_i he
  split at h
  ·rename_i r hr
   obtain ⟨r,s'⟩:=r
   simp only [Option.some.injEq,Prod.mk.injEq] at h
   obtain ⟨rfl,rfl⟩:=h
   exact DCallW.of he (ho.1 _ _ _ _ _ _ hr) hK
  ·cases h
 ·split at h
  ·rename_i he
   simp only [Option.some.injEq,Prod.mk.injEq] at h
   obtain ⟨rfl,rfl⟩:=h
   exact ⟨_,_,hK,.inr ⟨he,rfl⟩⟩
  ·cases h
theorem resQ_of {op:Op} {r:PVS} {p:Prop} {v:V} {s:Sig} {K:V→Sig→Prop} (h:r=some (p,v,s)) (hp:p) (hK:K v s):resQ op r K:=by
 subst h;exact ⟨hp,hK⟩
theorem bsW_of {t n:Nat} {parts:Array (Nat × Operand)} {p:Prop} {v:V} {s:Sig} {r2:PVS} {K:V→Sig→Prop} (h:stepR P (.buildSlice t n parts) g σ id=some (p,v,s)) (hp:p) (hK:K v s):bsW (aR P (.buildSlice t n parts) g σ id) r2 σ K:=by
 have h0:pureR P (.buildSlice t n parts) g=none:=rfl
 have h1:eR P (.buildSlice t n parts) g σ id=none:=rfl
 unfold stepR quietR at h
 rw [h0,h1] at h
 unfold bsW
 cases ha:aR P (.buildSlice t n parts) g σ id with
 | none=>rw [ha] at h;cases h
 | some x=>
  obtain ⟨p',v',n'⟩:=x
  rw [ha] at h
  simp only [Option.some.injEq,Prod.mk.injEq] at h
  obtain ⟨rfl,rfl,rfl⟩:=h
  exact ⟨hp,hK⟩
theorem stepX_sound (ho:RunOk P G run) {op:Op} {v:V} {s:Sig} {K:V→Sig→Prop} (h:stepX P run op g σ id=some (v,s)) (hK:K v s):stepW P G op g σ id K:=by
 unfold stepX at h
 unfold stepW
 split at h
 ·simp only [Option.map_eq_some_iff] at h
  obtain ⟨v',hv,e⟩:=h
  injection e with e1 e2;subst e1;subst e2
  exact pickX_sound hv hK
 ·simp only [Option.map_eq_some_iff] at h
  obtain ⟨v',hv,e⟩:=h
  injection e with e1 e2;subst e1;subst e2
  exact loadX_sound hv hK
 ·split at h
  ·rename_i hs;simp only [hs,if_true];exact nextX_sound h hK
  ·cases h
 ·split at h
  ·rename_i hc
   simp only [hc]
   split at h
   ·rename_i i hi
    simp only [hi,calleeW]
    exact ⟨_,_,hK,ho.2 _ _ _ _ _ _ h⟩
   ·obtain ⟨k,h1,h2⟩:=calleeA_sound h
    exact h2 (fun k al=>CallW P G k al σ id K) _ (callX_sound ho h1 hK)
  ·rename_i hc
   simp only [hc]
   obtain ⟨p,h1,h2⟩:=valX_sound h
   exact resQ_of h1 h2 hK
  ·cases h
 ·obtain ⟨p,h1,h2⟩:=valX_sound h
  split
  ·rename_i q1 _ _ _;exact absurd rfl (q1 _ _ _)
  ·rename_i _ q2 _ _;exact absurd rfl (q2 _ _)
  ·rename_i _ _ q3 _;exact absurd rfl (q3 _ _)
  ·rename_i _ _ _ q4;exact absurd rfl (q4 _)
  ·exact bsW_of h1 h2 hK
  ·exact resQ_of h1 h2 hK
theorem quietX_sound {op:Op} {v:V} {new:Sig} {K:V→Sig→Prop} (hv:isVCall op=false) (h:quietX P op g σ id=some (v,new)) (hK:K v new):quietW P G op g σ id K:=by
 unfold quietX at h
 unfold quietW
 split at h
 ·simp only [Option.map_eq_some_iff] at h
  obtain ⟨v',hv,e⟩:=h
  injection e with e1 e2;subst e1;subst e2
  exact pickX_sound hv hK
 ·simp only [Option.map_eq_some_iff] at h
  obtain ⟨v',hv,e⟩:=h
  injection e with e1 e2;subst e1;subst e2
  exact loadX_sound hv hK
 ·rename_i c
  split at h
  ·rename_i b hc
   simp only [hc]
   split at h
   ·rename_i hok
    split at h
    ·rename_i r hr
     obtain ⟨p,v',n'⟩:=r
     simp only [Option.some.injEq,Prod.mk.injEq] at h
     obtain ⟨rfl,rfl⟩:=h
     exact resQ_of hr (quiet_ok hok hr) hK
    ·cases h
   ·cases h
  ·cases h
 ·obtain ⟨p,h1,h2⟩:=quietP_val h
  split
  ·rename_i q1 _ _;exact absurd rfl (q1 _ _ _)
  ·rename_i _ q2 _;exact absurd rfl (q2 _ _)
  ·rename_i _ _ q3;exact absurd rfl (q3 _)
  ·exact resQ_of h1 h2 hK
theorem guardX_sound {ops:Array Oper} {o:Oper} {e e':Env} {b:Bool} {yes no:Env→Prop} (h:guardX ops o e=some (b,e')) (hy:b=true→yes e') (hn:b=false→no e'):guardW ops o e yes no:=by
 unfold guardX at h
 unfold guardW
 split at h
 ·rename_i hg
  simp only [Option.some.injEq,Prod.mk.injEq] at h
  obtain ⟨rfl,rfl⟩:=h
  simp only [hg];exact hy rfl
 ·rename_i j want hg
  simp only [hg]
  split at h
  ·cases h
  ·rename_i d hd
   simp only [hd,optW]
   split at h
   ·rename_i b' hb
    simp only [Option.some.injEq,Prod.mk.injEq] at h
    obtain ⟨rfl,rfl⟩:=h
    simp only [hb,grdW]
    cases b'<;>cases want<;>simp_all [brW]
   ·rename_i hb
    simp only [Option.some.injEq,Prod.mk.injEq] at h
    obtain ⟨rfl,rfl⟩:=h
    simp only [hb,grdW];exact hn rfl
   ·cases h
theorem opsX_sound (ho:RunOk P G run) {ops:Array Oper} {base:Nat} : ∀(l:List Oper) (i:Nat) (e:Env) (σ:Sig) (e':Env) (σ':Sig) (K:Env→Sig→Prop),opsX P G run ops base i l e σ=some (e',σ')→K e' σ'→opsW P G ops base i l e σ K
 | [],i,e,σ,e',σ',K,h,hK=>by
  simp only [opsX,Option.some.injEq,Prod.mk.injEq] at h
  obtain ⟨rfl,rfl⟩:=h;exact hK
 | o::r,i,e,σ,e',σ',K,h,hK=>by
  unfold opsX at h
  unfold opsW
  split at h
  ·rename_i e1 hg
   refine guardX_sound hg (fun _ =>?_) (fun hb=>by cases hb)
   split at h
   ·rename_i v s1 hs
    rw [fV_eq,fSig_eq] at h
    exact stepX_sound ho hs (opsX_sound ho r (i+1) _ _ e' σ' K h hK)
   ·cases h
  ·rename_i e1 hg
   exact guardX_sound hg (fun hb=>by cases hb) (fun _=>opsX_sound ho r (i+1) _ _ e' σ' K h hK)
  ·cases h
theorem vcallX_sound (ho:RunOk P G run) {lo:List Nat} {ops:Array Oper} {i:Nat} {op:Op} {σp acc:Sig} {b:Bool} {v:V} {s:Sig} {Kq Ke:V→Sig→Prop} (h:vcallX P run lo ops i op g σp acc id=some (b,v,s)) (hq:b=true→Kq v s) (he:b=false→Ke v s):vcallD P G lo ops i op g σp acc id Kq Ke:=by
 unfold vcallX at h
 unfold vcallD
 split at h
 ·split at h
  ·rename_i f hf
   simp only [hf]
   split at h
   ·rename_i j hj
    simp only [hj,calleeW]
    split at h
    ·rename_i hl
     simp only [Option.map_eq_some_iff] at h
     obtain ⟨q,hq',e2⟩:=h
     injection e2 with e3 e2;subst e2
     exact ⟨hl,_,_,he e3.symm,ho.2 _ _ _ _ _ _ hq'⟩
    ·cases h
   obtain ⟨k,h1,h2⟩:=calleeA_sound h
   refine h2 (fun k al=>callD P G lo ops i k al σp acc id Kq Ke) _ ?_
   split at h1
   ·simp only [Option.map_eq_some_iff] at h1
    obtain ⟨q,hq',e2⟩:=h1
    injection e2 with e3 e2;subst e2
    exact .inl (callQ_sound ho hq' (hq e3.symm))
   ·split at h1
    ·rename_i hl
     simp only [Option.map_eq_some_iff] at h1
     obtain ⟨q,hq',e2⟩:=h1
     injection e2 with e3 e2;subst e2
     exact .inr ⟨hl,callX_sound ho hq' (he e3.symm)⟩
    ·cases h1
  ·cases h
 ·cases h
theorem opsDX_sound (ho:RunOk P G run) {ops:Array Oper} {base:Nat} : ∀(l:List Oper) (i:Nat) (e:Env) (σp acc:Sig) (e':Env) (σ':Sig) (K:Env→Sig→Prop),opsDX P G run ops base i l e σp acc=some (e',σ')→K e' σ'→opsL P G [] [] ops base i l e σp acc K
 | [],i,e,σp,acc,e',σ',K,h,hK=>by
  simp only [opsDX,Option.some.injEq,Prod.mk.injEq] at h
  obtain ⟨rfl,rfl⟩:=h;exact hK
 | o::r,i,e,σp,acc,e',σ',K,h,hK=>by
  unfold opsDX at h
  unfold opsL
  have ih:=fun e1 s1 s2 h=>opsDX_sound ho (ops:=ops) (base:=base) r (i+1) e1 s1 s2 e' σ' K h hK
  split at h
  ·rename_i e1 hg
   refine guardX_sound hg (fun _ =>?_) (fun hb=>by cases hb)
   split at h
   ·rename_i hE
    rw [if_pos hE]
    split at h
    ·rename_i v s1 hs
     rw [fV_eq,fSig_eq] at h
     exact stepX_sound ho hs (ih _ _ _ h)
    ·cases h
   ·rename_i hE
    rw [if_neg hE]
    split at h
    ·rename_i hV
     rw [if_pos hV]
     split at h
     ·rename_i v new hc
      rw [fV_eq] at h
      exact vcallX_sound ho hc (fun _=>ih _ _ _ h) (fun e=>by cases e)
     ·rename_i v s1 hc
      rw [fV_eq] at h
      exact vcallX_sound ho hc (fun e=>by cases e) (fun _=>ih _ _ _ h)
     ·cases h
    ·rename_i hV
     rw [if_neg hV,if_neg (by simp)]
     split at h
     ·rename_i v new hq
      rw [fV_eq] at h
      exact quietX_sound (by simpa using hV) hq (ih _ _ _ h)
     ·cases h
  ·rename_i e1 hg
   exact guardX_sound hg (fun hb=>by cases hb) (fun _=>ih _ _ _ h)
  ·cases h
theorem get_set_ne (σ:Sig) (i j:Nat) (c:Blk) (h:j≠i):(σ.set i c).get j=σ.get j:=by
 induction σ with
 | nil=>rfl
 | cons x r ih=>
  obtain ⟨k,b⟩:=x
  simp only [Sig.set]
  split
  ·rename_i hk;subst hk
   simp only [Sig.get]
   rw [if_neg (Ne.symm h),if_neg (Ne.symm h)]
  ·simp only [Sig.get,ih]
theorem stR_set {t:Nat} {a x:V} {σ σ':Sig} {p:Prop} {v:V} (h:stR P t a x σ=some (p,v,σ')) : ∃i blk,ownOf a=some i∧σ'=σ.set i blk:=by
 unfold stR at h
 split at h
 ·split at h
  ·split at h
   ·injection h with h;injection h with _ h;injection h with _ h;exact ⟨_,_,rfl,h.symm⟩
   ·cases h
  ·cases h
 ·split at h
  ·split at h
   ·split at h
    ·injection h with h;injection h with _ h;injection h with _ h;exact ⟨_,_,rfl,h.symm⟩
    ·split at h
     ·injection h with h;injection h with _ h;injection h with _ h;exact ⟨_,_,rfl,h.symm⟩
     ·cases h
   ·cases h
  ·cases h
 ·cases h
theorem store_sub {op:Op} {v:V} {σ s σk:Sig} (hs:Sub σk σ) (hok:stOkX σk op g=true) (h:stepX P run op g σ id=some (v,s)):Sub σk s:=by
 unfold stOkX at hok
 split at hok
 ·rename_i t a x
  split at hok
  ·rename_i i hi
   have hk:σk.get i=none:=by simpa using hok
   have h1:valX P (.store t a x) g σ id=some (v,s):=h
   obtain ⟨p,h2,_⟩:=valX_sound h1
   have h3:stR P t (g a) (g x) σ=some (p,v,s):=h2
   obtain ⟨j,blk,e1,rfl⟩:=stR_set h3
   rw [hi] at e1
   injection e1 with e1;subst e1
   intro k b hb
   have hne:k≠i:=fun e=>by subst e;rw [hk] at hb;cases hb
   rw [get_set_ne _ _ _ _ hne]
   exact hs k b hb
  ·cases hok
 ·cases hok
theorem sub_append {σk σ acc:Sig} (h:Sub σk σ):Sub σk (σ++acc):=fun i b hb=>by
 rw [get_append,h i b hb]
theorem sbW_of {lo:List Nat} {ops:Array Oper} {i:Nat} {σk σ:Sig} {K:Prop} (h:Sub σk σ∨aftL lo ops i=true) (k:K):sbW (kpt lo ops i σk) σ K:=by
 rcases h with h|h
 ·exact sbW.of h k
 ·exact sbW.late k h
theorem delW_sub : ∀(ids:List Nat) (σ:Sig),Sub (delW ids σ) σ
 | [],σ=>fun _ _ h=>h
 | i::r,σ=>fun j b h=>by
  have:=delW_sub r (σ.del i) j b h
  rw [Sig.get_del] at this
  split at this
  ·cases this
  ·exact this
theorem callX_sub {f:Nat} {args:List V} {v:V} {s σk:Sig} (hs:Sub σk σ) (hok:(reach σ args).all (fun j=>(σk.get j).isNone)=true) (h:callX P run f args σ id=some (v,s)):Sub σk s:=by
 unfold callX at h
 split at h
 ·split at h
  ·split at h
   ·simp only [Option.some.injEq,Prod.mk.injEq] at h
    obtain ⟨_,rfl⟩:=h
    intro k b hb
    have hk:k∉reach σ args:=fun hm=>by
     have:=List.all_eq_true.1 hok k hm
     rw [hb] at this;cases this
    rw [get_append,get_delL,if_neg hk,hs k b hb]
   ·cases h
  ·cases h
 ·split at h
  ·simp only [Option.some.injEq,Prod.mk.injEq] at h
   obtain ⟨_,rfl⟩:=h
   exact hs
  ·cases h
theorem call_sub {lo:List Nat} {ops:Array Oper} {i:Nat} {op:Op} {σp acc σk s:Sig} {v:V} (hs:Sub σk (σp++acc)) (hok:okE σk (σp++acc) op g=true) (h:vcallX P run lo ops i op g σp acc id=some (false,v,s)):Sub σk s:=by
 unfold okE at hok
 simp only [Bool.and_eq_true,Bool.not_eq_true'] at hok
 obtain ⟨h1,h2⟩:=hok
 unfold vcallX at h
 split at h
 ·rename_i c
  split at h
  ·rename_i f hf
   simp only [argsC,isYl,hf] at h1 h2
   split at h
   ·rename_i j hj
    simp only [hj] at h1
    cases h1
   ·obtain ⟨k,h,_⟩:=calleeA_sound h
    split at h
    ·simp only [Option.map_eq_some_iff] at h
     obtain ⟨q,_,e2⟩:=h
     injection e2 with e3;cases e3
    ·split at h
     ·simp only [Option.map_eq_some_iff] at h
      obtain ⟨q,hq,e2⟩:=h
      injection e2 with _ e2;subst e2
      exact callX_sub hs h2 hq
     ·cases h
  ·cases h
 ·cases h
theorem opsLX_sound (ho:RunOk P G run) {lo:List Nat} {σk:Sig} {ops:Array Oper} {base:Nat} : ∀(l:List Oper) (i:Nat) (kp:Bool) (e:Env) (σp acc:Sig) (e':Env) (σ':Sig) (K:Env→Sig→Prop),(kp=true→Sub σk σp)→opsLX P G run lo σk ops base i l kp e σp acc=some (e',σ')→K e' σ'→opsL P G lo σk ops base i l e σp acc K
 | [],i,kp,e,σp,acc,e',σ',K,_,h,hK=>by
  simp only [opsLX,Option.some.injEq,Prod.mk.injEq] at h
  obtain ⟨rfl,rfl⟩:=h;exact hK
 | o::r,i,kp,e,σp,acc,e',σ',K,hs,h,hK=>by
  unfold opsLX at h
  unfold opsL
  have ih:=fun kp e1 s1 s2 hs h=>opsLX_sound ho (lo:=lo) (σk:=σk) (ops:=ops) (base:=base) r (i+1) kp e1 s1 s2 e' σ' K hs h hK
  split at h
  ·rename_i e1 hg
   refine guardX_sound hg (fun _ =>?_) (fun hb=>by cases hb)
   split at h
   ·rename_i hE
    rw [if_pos hE]
    split at h
    ·rename_i hok
     split at h
     ·rename_i v s1 hx
      rw [fV_eq,fSig_eq] at h
      have hs1:(kp&&stOkX σk o.op (evF G e1.get))=true→Sub σk s1:=fun hh=>by
       rw [Bool.and_eq_true] at hh
       exact store_sub (sub_append (hs hh.1)) hh.2 hx
      exact stepX_sound ho hx (sbW_of ((Bool.or_eq_true _ _▸hok).imp hs1 id) (ih _ _ _ _ hs1 h))
     ·cases h
    ·cases h
   ·rename_i hE
    rw [if_neg hE]
    split at h
    ·rename_i hV
     rw [if_pos hV]
     split at h
     ·rename_i v new hc
      rw [fV_eq] at h
      exact vcallX_sound ho hc (fun _=>ih _ _ _ _ hs h) (fun e=>by cases e)
     ·rename_i v s1 hc
      split at h
      ·rename_i hok
       rw [fV_eq] at h
       have hs1:(kp&&okE σk (σp++acc) o.op (evF G e1.get))=true→Sub σk s1:=fun hh=>by
        rw [Bool.and_eq_true] at hh
        exact call_sub (sub_append (hs hh.1)) hh.2 hc
       exact vcallX_sound ho hc (fun e=>by cases e) (fun _=>sbW_of ((Bool.or_eq_true _ _▸hok).imp hs1 id) (ih _ _ _ _ hs1 h))
      ·cases h
     ·cases h
    ·rename_i hV
     rw [if_neg hV]
     split at h
     ·rename_i hl
      rw [if_pos hl]
      split at h
      ·rename_i v hq
       rw [fV_eq] at h
       exact quietX_sound (by simpa using hV) hq ⟨rfl,ih _ _ _ _ hs h⟩
      ·cases h
     ·rename_i hl
      rw [if_neg hl]
      split at h
      ·rename_i v new hq
       rw [fV_eq] at h
       exact quietX_sound (by simpa using hV) hq (ih _ _ _ _ hs h)
      ·cases h
  ·rename_i e1 hg
   exact guardX_sound hg (fun hb=>by cases hb) (fun _=>ih _ _ _ _ hs h)
  ·cases h
end
end Go.Proofs.YtkhonlnajdfhfaaGreatDoor
set_option linter.unusedVariables false
set_option linter.unusedSimpArgs false
namespace Go.Proofs.YtkhonlnajdfhfaaGreatDoor
theorem keepM_out : ∀(e:Env) (m j:Nat),Nat.testBit m j=false→(keepM m e).get j = .unk
 | [],m,j,_=>by simp [keepM,Env.get]
 | (k,v)::r,m,j,h=>by
  unfold keepM
  split
  ·rename_i hk
   have hne:k≠j:=by rintro rfl;rw [h] at hk;cases hk
   show (if k=j then v else (keepM _ r).get j) = .unk
   rw [if_neg hne]
   exact keepM_out r _ j (by rw [Nat.testBit_xor,h,Nat.testBit_two_pow_of_ne hne];rfl)
  ·exact keepM_out r m j h
theorem get_keepM : ∀(e:Env) (m j:Nat),(keepM m e).get j=e.get j∨(keepM m e).get j = .unk
 | [],m,j=>by simp [keepM]
 | (k,v)::r,m,j=>by
  unfold keepM
  split
  ·show (if k=j then v else (keepM _ r).get j)=(if k=j then v else Env.get r j)∨(if k=j then v else (keepM _ r).get j) = .unk
   split
   ·exact .inl rfl
   ·exact get_keepM r _ j
  ·rename_i hk
   by_cases hj:k=j
   ·subst hj;exact .inr (keepM_out r m k (by simpa using hk))
   ·show _=(if k=j then v else Env.get r j)∨_
    rw [if_neg hj];exact get_keepM r m j
section
variable {P:Program} {G:Gl} {M:Msk}
theorem RelE.keepM {C:Ctx} {e:Env} {σ:Sig} {nx lim:Nat} {a:Act} {w:World} (h:RelE C G e σ nx lim a w) (lm:Nat):RelE C G (keepM lm e) σ nx lim a w:=by
 obtain ⟨I,β,h1,h2,h3,h4⟩:=h
 refine ⟨I,β,h1,h2,fun t =>?_,h4⟩
 rcases get_keepM e lm t with h|h
 ·rw [h];exact h3 t
 ·rw [h];trivial
theorem MStep.weak {w w':World} {I I':Nat→Prop} {β β':Bet} {σ σ' σ'':Sig} {nx nx':Nat} (h:MStep w I β σ nx w' I' β' σ' nx') (he : ∀j b,σ''.get j=some b → ∃c,σ'.get j=some c∧(Own w' I' β' j c→Own w' I' β' j b)):MStep w I β σ nx w' I' β' σ'' nx':=
 { h with
  mem:=⟨fun id b hb=>by obtain ⟨c,h1,h2⟩:=he id b hb;exact h2 (h.mem.own id c h1),fun i j b b' k c c' h1 h2=>by
   obtain ⟨x,h3,_⟩:=he _ _ h1
   obtain ⟨y,h4,_⟩:=he _ _ h2
   exact h.mem.inj i j x y k c c' h3 h4,h.mem.free,h.mem.lt⟩
  own':=fun b ⟨id,blk,c,h1,h2⟩=>by obtain ⟨x,h3,_⟩:=he _ _ h1;exact h.own' b ⟨id,x,c,h3,h2⟩ }
theorem Own.take {w:World} {I:Nat→Prop} {β:Bet} {id k:Nat} {es:List D} {ty:Option Nat} (m:Nat) (h:Own w I β id (.row k es ty)):Own w I β id (.row k (es.take m) ty):=by
 rcases h with ⟨h1,h2⟩|⟨b,cap,cur,t,h1,h2,h3,h4,h5,h6⟩
 ·exact .inl ⟨h1,by rw [h2];simp⟩
 ·refine .inr ⟨b,cap,cur,t,h1,h2,h3,by simp;omega,h5,fun i e hi=>h6 i e ?_⟩
  rw [List.getElem?_take] at hi
  split at hi
  ·exact hi
  ·cases hi
theorem trimG_get (e:Env) (σ0:Sig) : ∀(σ:Sig) (j:Nat) (b:Blk),(trimG e σ0 σ).get j=some b → ∃c,σ.get j=some c ∧ ∀(w:World) (I:Nat→Prop) (β:Bet),Own w I β j c→Own w I β j b:=by
 intro σ
 induction σ with
 | nil=>intro j b h;cases h
 | cons x r ih=>
  intro j b h
  have key : ∀(i:Nat) (c c':Blk),(∀(w:World) (I:Nat→Prop) (β:Bet),Own w I β i c→Own w I β i c')→Sig.get ((i,c')::trimG e σ0 r) j=some b → ∃d,Sig.get ((i,c)::r) j=some d ∧ ∀(w:World) (I:Nat→Prop) (β:Bet),Own w I β j d→Own w I β j b:=by
   clear h
   intro i c c' hc hq
   simp only [Sig.get] at hq ⊢
   by_cases e:i=j
   ·rw [if_pos e] at hq ⊢
    subst e;injection hq with hq;subst hq
    exact ⟨c,rfl,hc⟩
   ·rw [if_neg e] at hq ⊢
    exact ih j b hq
  obtain ⟨i,c⟩:=x
  cases c with
  | row k es ty=>
   simp only [trimG,fN_eq,fL_eq] at h
   split at h
   ·exact key i _ _ (fun _ _ _ h=>h.take _) h
   ·exact key i _ _ (fun _ _ _ h=>h) h
  | _=>exact key i _ _ (fun _ _ _ h=>h) h
theorem trimF_le (M:Msk) (ops:Array Oper) (m:Nat) (st:St):StLe G m st (trimF M ops st):=by
 unfold trimF
 split
 ·split
  ·intro C a w _ hr
   obtain ⟨I,β,h1,h2,h3,h4,h5,h6⟩:=hr
   have he : ∀j b,(trimG st.env st.sg st.sg).get j=some b → ∃c,st.sg.get j=some c∧(Own w I β j c→Own w I β j b):=fun j b hb=>by
    obtain ⟨c,h7,h8⟩:=trimG_get _ _ _ _ _ hb
    exact ⟨c,h7,h8 w I β⟩
   exact ⟨I,β,h1.weak he,h2,h3,h4,h5.sub (fun b ⟨j,bl,c,g1,g2⟩=>by obtain ⟨x,h7,_⟩:=he _ _ g1;exact ⟨j,x,c,h7,g2⟩) (fun b h=> .inl h),h6⟩
  ·exact StLe.refl G m st
 ·exact StLe.refl G m st
theorem deepF_le (m:Nat) : ∀(n:Nat) (l:List Nat) (st:St),StLe G m st (deepF n l st)
 | 0,_,st=>by unfold deepF;exact StLe.refl G m st
 | n+1,[],st=>by unfold deepF;exact StLe.refl G m st
 | n+1,i::r,st=>by
  unfold deepF
  split
  ·exact ((deepF_le m n _ st).trans (StLe.frz G m _ i)).trans (deepF_le m n r _)
  ·exact (StLe.frz G m _ i).trans (deepF_le m n r _)
  ·exact deepF_le m n r st
abbrev OutQ (e:Exit) (st:St):Exit→St→Prop:=fun e' s'=>e'=e∧s'=st
theorem AW.le {n m:Nat} {c:Code} {st st':St} {Q:Exit→St→Prop} (hle:StLe G m st st') (h:AW P G n m c st' Q):AW P G n m c st Q:=
 fun fr hfr C a w hn hm hr=>h fr hfr C a w hn hm (hle C a w hm hr)
theorem regX_sound (ho:P.follows .mixedOrders=true) {run:Run} (hrun:RunOk P G run) {lm:Nat} {id:Nat} {ops:Array Oper} {draw:Bool} {st st':St} {e:Exit} {n m:Nat} (hok:codeOk n (.region id ops draw)=true) (h:regX P G M run lm ops draw st=some (e,st')):AW P G n m (.region id ops draw) st (OutQ e st'):=by
 intro fr hfr C a w hn hm hr
 simp only [codeOk] at hok
 have hdst : ∀(i:Nat) o x,ops[i]? = some o→o.dst=some x→x<C.n:=fun i o x hi hx=>by rw [hn];exact dstOk_spec _ hok i o x (by simpa using hi) hx
 have hr':RelE C G st.env st.sg (st.nx+4*ops.size) st.nx a w:=RelE.bump hr (by omega)
 unfold regX at h
 split at h
 ·rename_i e1 σ1 h1
  rw [fN_eq] at h
  simp only [Option.some.injEq,Prod.mk.injEq] at h
  obtain ⟨rfl,rfl⟩:=h
  cases draw with
  | false=>
   simp only at h1
   refine wpIn_region ?_
   have:=opsW_sound (P:=P) (G:=G) (C:=C) (fr:=fr) (ops:=ops) (base:=st.nx) (nx:=st.nx+4*ops.size) (Q:=fun e a' w'=> ∃st'',OutQ .normal ⟨keepM lm e1,σ1,st.nx+4*ops.size⟩ e st''∧Rel C G st'' a' w') (Nat.le_refl _) hdst (K:=fun e σ=>e=e1∧σ=σ1) (fun e σ a w hK hrel=>⟨_,⟨rfl,rfl⟩,by obtain ⟨rfl,rfl⟩:=hK;exact hrel.keepM lm⟩) ops.toList 0 st.env st.sg a w rfl (opsX_sound hrun _ _ _ _ _ _ _ h1 ⟨rfl,rfl⟩) (by simpa using hr') (Nat.zero_le _)
   rw [List.range_eq_range']
   simpa using this
  | true=>
   simp only at h1
   have goD:drawOk [] ops=true→opsDX P G run ops st.nx 0 ops.toList st.env st.sg []=some (e1,σ1)→(Code.region id ops true).wpIn (Fr fr) 0 P (fun e a' w'=> ∃st',OutQ .normal ⟨keepM lm e1,σ1,st.nx+4*ops.size⟩ e st'∧Rel C G st' a' w') a w:=fun hd h1=>
    opsL_sound (C:=C) ho hd (loOk_nil _ _) (nx:=st.nx+4*ops.size) (Nat.le_refl _) hdst (K:=fun e σ=>e=e1∧σ=σ1) (fun e σ a w hK hrel=>⟨_,⟨rfl,rfl⟩,by obtain ⟨rfl,rfl⟩:=hK;exact hrel.keepM lm⟩) (fun _ _ h=>by cases h) (opsDX_sound hrun _ _ _ _ _ _ _ _ h1 ⟨rfl,rfl⟩) hr'
   unfold drawX at h1
   split at h1
   ·rename_i hd
    exact goD hd.1 h1
   ·split at h1
    ·rename_i ids lds oc _
     split at h1
     ·rename_i hd
      exact goD hd.1 h1
     ·split at h1
      ·rename_i hd
       exact opsL_sound (C:=C) ho hd.1 hd.2 (nx:=st.nx+4*ops.size) (Nat.le_refl _) hdst (K:=fun e σ=>e=e1∧σ=σ1) (fun e σ a w hK hrel=>⟨_,⟨rfl,rfl⟩,by obtain ⟨rfl,rfl⟩:=hK;exact hrel.keepM lm⟩) (delW_sub ids _) (opsLX_sound hrun _ _ _ _ _ _ _ _ _ (fun _=>delW_sub ids _) h1 ⟨rfl,rfl⟩) hr'
      ·split at h1
       ·rename_i hd
        exact opsL_sound (C:=C) ho hd.1 hd.2 (nx:=st.nx+4*ops.size) (Nat.le_refl _) hdst (K:=fun e σ=>e=e1∧σ=σ1) (fun e σ a w hK hrel=>⟨_,⟨rfl,rfl⟩,by obtain ⟨rfl,rfl⟩:=hK;exact hrel.keepM lm⟩) (delW_sub _ _) (opsLX_sound hrun _ _ _ _ _ _ _ _ _ (fun _=>delW_sub _ _) h1 ⟨rfl,rfl⟩) hr'
       ·cases h1
    ·cases h1
 ·cases h
theorem room_fr (fr:Option Nat) (k:Nat):(Fr fr).room k:=fun _ h=>by cases h
def AL (P:Program) (G:Gl) (n m:Nat) (c:Code) (st:St) (Q:Exit→St→Prop):Prop:=
 ∀fr,(fr=none∨noR c=true) → ∀(C:Ctx) a w,C.n=n→C.nx=m→Rel C G st a w → ∀(b:Frame) kk cs,b.roundOf=fr → ∃e a' w',(∃st',Q e st'∧Rel C G st' a' w')∧ArrivesIn (Machine.fenced P (Fr fr)) P (lone (b.atR a (.code c :: .inLoop c::kk)) cs w) b kk cs e a' w'
theorem AL.aw {n m:Nat} {c:Code} {st:St} {Q:Exit→St→Prop} (h:AL P G n m c st Q):AW P G n m (.loop c) st Q:=fun fr hfr C a w hn hm hr b kk cs hro hb hroom=>by
 obtain ⟨e,a',w',hq,harr⟩:=h fr hfr C a w hn hm hr b kk cs hro
 exact ⟨e,a',w',hq,.of_steps (.one (fenced_calm hb hroom rfl) stepR_loop) harr⟩
theorem AL.round {n m:Nat} {c:Code} {st st1:St} {Q:Exit→St→Prop} (h:AW P G n m c st (OutQ .normal st1)) (k:AL P G n m c st1 Q):AL P G n m c st Q:=fun fr hfr C a w hn hm hr b kk cs hro=>by
 obtain ⟨e,a',w',⟨st',⟨rfl,rfl⟩,hr2⟩,harr⟩:=h fr hfr C a w hn hm hr b (.inLoop c::kk) cs hro trivial (room_fr fr _)
 obtain ⟨e2,a2,w2,hq2,harr2⟩:=k fr hfr C a' w' hn hm hr2 b kk cs hro
 exact ⟨e2,a2,w2,hq2,.of_steps (StepsIn.trans harr (.one (fenced_calm (n:=0) trivial (room_fr fr _) rfl) stepR_inLoop)) harr2⟩
theorem AL.out {n m:Nat} {c:Code} {st st1:St} {e1:Exit} (hne:e1 ≠ .normal) (h:AW P G n m c st (OutQ e1 st1)):AL P G n m c st (OutQ e1 st1):=fun fr hfr C a w hn hm hr b kk cs hro=>by
 obtain ⟨e,a',w',⟨st',⟨rfl,rfl⟩,hr2⟩,harr⟩:=h fr hfr C a w hn hm hr b (.inLoop c::kk) cs hro trivial (room_fr fr _)
 exact ⟨_,a',w',⟨st',⟨rfl,rfl⟩,hr2⟩,.pass (x:= .inLoop c) rfl (fun _ _=> .inl hne) harr⟩
def CodeOk (P:Program) (G:Gl) (code:CodeRun):Prop:= ∀n lm c st e st',code n lm c st=some (e,st') → ∀m,codeOk n c=true→AW P G n m c st (OutQ e st') ∧ ∀c',c = .loop c'→AL P G n m c' st (OutQ e st')
theorem CodeOk.aw {code:CodeRun} (h:CodeOk P G code) {lm:Nat} {c:Code} {st st':St} {e:Exit} {n:Nat} (hc:code n lm c st=some (e,st')) (hok:codeOk n c=true) (m:Nat):AW P G n m c st (OutQ e st'):=(h n lm c st e st' hc m hok).1
theorem resX_sound {st:St} : ∀(rs:List ResultVar) (vs:List V) (K:List V→Prop),resX P rs st=some vs→K vs→resW P rs st K
 | [],vs,K,h,hK=>by simp only [resX,Option.some.injEq] at h;subst h;exact hK
 | .tmp t::r,vs,K,h,hK=>by
  simp only [resX,Option.map_eq_some_iff] at h
  obtain ⟨vs',h1,rfl⟩:=h
  exact resX_sound r vs' _ h1 hK
 | .cell a t::r,vs,K,h,hK=>by
  unfold resX at h
  split at h
  ·rename_i v hv
   simp only [Option.map_eq_some_iff] at h
   obtain ⟨vs',h1,rfl⟩:=h
   exact loadX_sound hv (resX_sound r vs' _ h1 hK)
  ·cases h
theorem doneX_sound {rs:List ResultVar} {f m:Nat} {st:St} {r:V} {σ':Sig} (h:doneX P M rs f m st=some (r,σ')):DoneW P G m rs r σ' st:=by
 unfold doneX at h
 split at h
 ·cases h
 ·rename_i vs0 _
  simp only at h
  have hle:StLe G m st (if M f=true then st else deepF 50 (idsE [] vs0) st):=by
   split
   ·exact StLe.refl G m st
   ·exact deepF_le m _ _ _
  revert h hle
  generalize (if M f=true then st else deepF 50 (idsE [] vs0) st)=st1
  intro h hle
  split at h
  ·cases h
  ·rename_i vs hvs
   split at h
   ·rename_i hl
    simp only [Option.some.injEq,Prod.mk.injEq] at h
    exact GhW.via hle (GhW.now (resX_sound _ _ _ hvs ⟨_,h.1,by rw [h.2];exact fun _ _ h=>h,hl⟩))
   ·cases h
theorem eqVl_sound {a b:Value} (h:eqVl a b=true):a=b:=by
 unfold eqVl at h
 split at h
 ·simp at h;rw [h.1,h.2]
 ·simp at h;rw [h]
 ·rename_i a b
  cases a;cases b
  simp at h;simp [h]
 ·rfl
 ·rfl
 ·rfl
 ·cases h
mutual
theorem eqD_sound : ∀(a b:D),eqD a b=true→a=b
 | .lit a,b,h=>by
  cases b<;>simp only [eqD,Bool.false_eq_true] at h
  rw [eqVl_sound h]
 | .agg a,b,h=>by
  cases b<;>simp only [eqD,Bool.false_eq_true] at h
  rw [eqDs_sound _ _ h]
 | .sd k f a,b,h=>by
  cases b<;>simp only [eqD,Bool.false_eq_true,Bool.and_eq_true,beq_iff_eq] at h
  rw [h.1.1,h.1.2,eqDs_sound _ _ h.2]
 | .pd k a i j,b,h=>by
  cases b<;>simp only [eqD,Bool.false_eq_true,Bool.and_eq_true,beq_iff_eq] at h
  rw [h.1.1.1,h.1.1.2,h.1.2,eqDs_sound _ _ h.2]
 | .fn f a,b,h=>by
  cases b<;>simp only [eqD,Bool.false_eq_true,Bool.and_eq_true,beq_iff_eq] at h
  rw [h.1,eqDs_sound _ _ h.2]
 | .ifc t a,b,h=>by
  cases b<;>simp only [eqD,Bool.false_eq_true,Bool.and_eq_true,beq_iff_eq] at h
  rw [h.1,eqD_sound _ _ h.2]
 | .bf f a,b,h=>by
  cases b<;>simp only [eqD,Bool.false_eq_true,Bool.and_eq_true,beq_iff_eq] at h
  rw [h.1,eqDs_sound _ _ h.2]
 | .ne k,b,h=>by cases b<;>simp only [eqD,Bool.false_eq_true] at h
theorem eqDs_sound : ∀(a b:List D),eqDs a b=true→a=b
 | [],b,h=>by
  cases b<;>simp only [eqDs,Bool.false_eq_true] at h
  rfl
 | x::xs,b,h=>by
  cases b<;>simp only [eqDs,Bool.false_eq_true,Bool.and_eq_true] at h
  rw [eqD_sound _ _ h.1,eqDs_sound _ _ h.2]
end
theorem eqA_sound : ∀ {a:List V} {b:List D},eqA a b=true→a=b.map V.d
 | [],b,h=>by
  cases b<;>simp only [eqA,Bool.false_eq_true] at h
  rfl
 | x::xs,b,h=>by
  cases b with
  | nil=>cases x<;>simp only [eqA,Bool.false_eq_true] at h
  | cons y ys=>
   cases x<;>simp only [eqA,Bool.false_eq_true,Bool.and_eq_true] at h
   rw [eqD_sound _ _ h.1,eqA_sound h.2];rfl
def OrcOk (P:Program) (G:Gl) (T:Orc):Prop:= ∀x∈T,OFn P G x.1 (x.2.1.map V.d) [] 0 x.2.2 []
theorem OrcOk.nil:OrcOk P G []:=fun x h=>by cases h
theorem OrcOk.cons {f:Nat} {az:List D} {r:V} {T:Orc} (h:OFn P G f (az.map V.d) [] 0 r []) (k:OrcOk P G T):OrcOk P G ((f,az,r)::T):=fun x hx=>by
 rcases List.mem_cons.1 hx with rfl|hx
 ·exact h
 ·exact k x hx
theorem orc_sound : ∀ {T:Orc} {f:Nat} {args:List V} {v:V},OrcOk P G T→orc T f args=some v→OFn P G f args [] 0 v []
 | [],_,_,_,_,h=>by cases h
 | (g,az,r)::t,f,args,v,hT,h=>by
  have ht:OrcOk P G t:=fun x hx=>hT x (List.mem_cons_of_mem _ hx)
  simp only [orc] at h
  split at h
  ·rename_i hg
   split at h
   ·rename_i ha
    injection h with h
    have:=hT _ List.mem_cons_self
    rw [Nat.eq_of_beq_eq_true hg,←eqA_sound ha,h] at this
    exact this
   ·exact orc_sound ht h
  ·exact orc_sound ht h
theorem orcX_sound {f:Nat} {args:List V} {σ:Sig} {m:Nat} {v:V} (hT:OrcOk P G M.orc) (h:orcX M f args σ m=some v):OFn P G f args σ m v []:=by
 unfold orcX at h
 split at h
 ·exact orc_sound hT h
 ·cases h
theorem funX_sound (hT:OrcOk P G M.orc) {code:CodeRun} (h:CodeOk P G code) : ∀f args σ m r σ',funX P M code f args σ m=some (r,σ')→OFn P G f args σ m r σ':=by
 intro f args σ m r σ' hf
 unfold funX at hf
 split at hf
 ·rename_i v hv
  injection hf with hf;injection hf with h1 h2;subst h1;subst h2
  exact orcX_sound hT hv
 split at hf
 ·cases hf
 ·rename_i fn hfn
  split at hf
  ·cases hf
  ·rename_i c hc
   split at hf
   ·rename_i hok
    refine OFn.of_aw hfn hc (rs:=fn.results.toList) (by simp) rfl hok.2 ?_
    have hle:StLe G m ⟨argE 0 args,σ,m⟩ (if M f=true then ⟨argE 0 args,σ,m⟩ else deepF 50 (List.range m) ⟨argE 0 args,σ,m⟩):=by
     split
     ·exact StLe.refl G m _
     ·exact deepF_le m _ _ _
    refine AW.le hle ?_
    split at hf
    ·rename_i st hst
     exact (h.aw hst hok.1 m).mono fun e s ⟨h1,h2⟩=>by subst h1;subst h2;exact doneX_sound hf
    ·rename_i st hst
     exact (h.aw hst hok.1 m).mono fun e s ⟨h1,h2⟩=>by subst h1;subst h2;exact doneX_sound hf
    ·cases hf
   ·cases hf
theorem rndX_sound {ih:CodeRun} (hih:CodeOk P G ih) : ∀i args σ id v σ',rndX ih i args σ id=some (v,σ')→YDoes P G i args σ id v σ':=by
 intro i args σ id v σ' h
 unfold rndX at h
 split at h
 ·rename_i y e hg
  split at h
  ·rename_i hc
   obtain ⟨c1,c2,c3,c4,c5,c6,c7⟩:=hc
   split at h
   ·rename_i st1 h1
    split at h
    ·rename_i ex st2 h2
     split at h
     ·rename_i j hj
      split at h
      ·rename_i hl
       simp only [Option.some.injEq,Prod.mk.injEq] at h
       obtain ⟨rfl,rfl⟩:=h
       refine YDoes.of hg c1 c2 c3 c4 c5 ((hih.aw h1 c6 id).mono ?_)
       rintro ex1 st3 ⟨rfl,rfl⟩
       refine (hih.aw h2 c7 id).mono ?_
       rintro ex2 st4 ⟨rfl,rfl⟩
       have fin:RndW G σ id i y e j (.d (.lit (.bool j.isNone))) ((i,.rc y j e)::st4.sg.sel (selY σ id (geL id (reach st4.sg ((σ.filter fun p=>decide (p.1<id)).map fun p=> .po p.1 0))))) st4:=⟨rfl,GhW.now ⟨_,hl,fun _ _ h=>h⟩⟩
       cases ex2<;>simp only [Option.some.injEq,reduceCtorEq] at hj<;>subst hj<;>exact fin
      ·cases h
     ·cases h
    ·cases h
   ·cases h
  ·cases h
 ·cases h
theorem calleeX_sound' {α:Type} {v:V} {k:Nat→List V→Option α} {y:α} (h:calleeX v k=some y) : ∃f caps,k f caps=some y ∧ ∀w I β x,Den w I β v x → ∃cv:List Value,x = .func (.func f) #[] cv.toArray∧DenL w I β caps cv:=by
 unfold calleeX at h
 split at h
 ·exact ⟨_,_,h,fun w I β x hd=>callee_d hd⟩
 ·exact ⟨_,_,h,fun w I β x hd=>callee_fn hd⟩
 ·cases h
theorem rngX_sound {ih:CodeRun} (hih:CodeOk P G ih) {n m:Nat} {g:Operand} {ps:Array Nat} {asg body:Code} {st st':St} {e:Exit} {k:Nat} {caps:List V} (hg : ∀w I β x,Den w I β (evF G st.env.get g) x → ∃cv:List Value,x = .func (.func k) #[] cv.toArray∧DenL w I β caps cv)
 (h:rngX P ih n ps asg body st k caps=some (e,st')):AW P G n m (.rangeFunc g ps asg body) st (OutQ e st'):=by
 unfold rngX at h
 split at h
 ·cases h
 ·rename_i fn hf
  split at h
  ·cases h
  ·rename_i c hb
   split at h
   ·rename_i hc
    obtain ⟨c1,c2,c3,c4⟩:=hc
    have hrs:fn.results = #[]:=by
     apply Array.toList_inj.1
     simpa using c2
    have fin : ∀st1,outR st st1=some (e,st')→RngW G st (OutQ e st') st1:=by
     intro st1 ho
     unfold outR at ho
     split at ho
     ·rename_i y' e' hx
      simp only [Option.some.injEq,Prod.mk.injEq] at ho
      exact GhW.now ⟨_,_,_,hx,ho.1,ho.2⟩
     ·rename_i y' e' hx
      simp only [Option.some.injEq,Prod.mk.injEq] at ho
      exact GhW.now ⟨_,_,_,hx,ho.1,ho.2⟩
     ·rename_i y' q e' hx
      simp only [Option.some.injEq,Prod.mk.injEq] at ho
      exact GhW.now ⟨_,_,_,hx,ho.1,ho.2⟩
     ·cases ho
    split at h
    ·rename_i st1 h1
     refine range_aw hg c1 hf hb hrs c3 ((hih.aw h1 c4 (st.nx+1)).mono ?_)
     rintro ex st2 ⟨rfl,rfl⟩
     exact fin _ h
    ·rename_i st1 h1
     refine range_aw hg c1 hf hb hrs c3 ((hih.aw h1 c4 (st.nx+1)).mono ?_)
     rintro ex st2 ⟨rfl,rfl⟩
     exact fin _ h
    ·cases h
   ·cases h
theorem bodyX_sound (ho:P.follows .mixedOrders=true) (hT:OrcOk P G M.orc) {ih:CodeRun} (hih:CodeOk P G ih):CodeOk P G (bodyX P G M ih):=by
 intro n lm c st e st' h m hok
 have key : ∀ {c:Code},(∀c',c ≠ .loop c')→AW P G n m c st (OutQ e st')→AW P G n m c st (OutQ e st') ∧ ∀c',c = .loop c'→AL P G n m c' st (OutQ e st'):=fun hne h=>⟨h,fun c' e=>absurd e (hne c')⟩
 unfold bodyX at h
 split at h
 ·simp only [Option.some.injEq,Prod.mk.injEq] at h
  obtain ⟨rfl,rfl⟩:=h
  exact key (fun _=>by simp) (fun _ _ C a w _ _ hr=>wpIn_skip ⟨st,⟨rfl,rfl⟩,hr⟩)
 ·exact key (fun _=>by simp) ((regX_sound ho ⟨funX_sound hT hih,rndX_sound hih⟩ hok h).le ((deepF_le m _ _ _).trans (trimF_le M _ m _)))
 ·rename_i x y
  refine key (fun _=>by simp) ?_
  simp only [codeOk,Bool.and_eq_true] at hok
  split at h
  ·rename_i st1 h1
   intro fr hfr C a w hn hm hr
   refine wpIn_seq (wpIn_mono (hih.aw h1 hok.1 m fr (hfr.imp id (fun h=>(by simpa only [noR,Bool.and_eq_true] using h:_∧_).1)) C a w hn hm hr) ?_)
   rintro e2 a' w' ⟨st2,⟨rfl,rfl⟩,hr'⟩
   exact hih.aw h hok.2 m fr (hfr.imp id (fun h=>(by simpa only [noR,Bool.and_eq_true] using h:_∧_).2)) C a' w' hn hm hr'
  ·rename_i hne
   intro fr hfr C a w hn hm hr
   refine wpIn_seq (wpIn_mono (hih.aw h hok.1 m fr (hfr.imp id (fun h=>(by simpa only [noR,Bool.and_eq_true] using h:_∧_).1)) C a w hn hm hr) ?_)
   rintro e2 a' w' ⟨st2,⟨rfl,rfl⟩,hr'⟩
   cases e2 with
   | normal=>exact absurd h (hne st2)
   | _=>exact ⟨st2,⟨rfl,rfl⟩,hr'⟩
 ·rename_i cc x y
  refine key (fun _=>by simp) ?_
  simp only [codeOk,Bool.and_eq_true] at hok
  have hd : ∀ {C:Ctx} {a:Act} {w:World} {b:Bool},Rel C G st a w→evF G st.env.get cc = .d (.lit (.bool b))→a.eval cc = .bool b:=by
   intro C a w b hr hb
   obtain ⟨I,β,h1,h2,h3,h4,h5,h6⟩:=id hr
   have hd:=evF_den (e:=st.env) (a:=a) h3 h6 cc
   rw [hb] at hd
   exact den_lit hd
  split at h
  ·rename_i hb
   intro fr hfr C a w hn hm hr
   exact wpIn_cond_true (hd hr hb) (hih.aw h hok.1 m fr (hfr.imp id (fun h=>(by simpa only [noR,Bool.and_eq_true] using h:_∧_).1)) C a w hn hm hr)
  ·rename_i hb
   intro fr hfr C a w hn hm hr
   exact wpIn_cond_false (hd hr hb) (hih.aw h hok.2 m fr (hfr.imp id (fun h=>(by simpa only [noR,Bool.and_eq_true] using h:_∧_).2)) C a w hn hm hr)
  ·cases h
 ·rename_i id x
  refine key (fun _=>by simp) ?_
  simp only [codeOk] at hok
  split at h
  ·rename_i i st1 h1
   intro fr hfr C a w hn hm hr
   refine wpIn_block (wpIn_mono (hih.aw h1 hok m fr hfr C a w hn hm hr) ?_)
   rintro e2 a' w' ⟨st2,⟨rfl,rfl⟩,hr'⟩
   simp only [Exit.inBlock]
   split at h<;>rename_i hi<;>simp only [Option.some.injEq,Prod.mk.injEq] at h<;>obtain ⟨rfl,rfl⟩:=h
   ·rw [if_pos hi];exact ⟨_,⟨rfl,rfl⟩,hr'⟩
   ·rw [if_neg hi];exact ⟨_,⟨rfl,rfl⟩,hr'⟩
  ·rename_i hne
   intro fr hfr C a w hn hm hr
   refine wpIn_block (wpIn_mono (hih.aw h hok m fr hfr C a w hn hm hr) ?_)
   rintro e2 a' w' ⟨st2,⟨rfl,rfl⟩,hr'⟩
   cases e2 with
   | exit i=>exact absurd h (hne i st2)
   | _=>exact ⟨st2,⟨rfl,rfl⟩,hr'⟩
 ·rename_i x
  have hok':codeOk n x=true:=hok
  have hal:AL P G n m x st (OutQ e st'):=by
   split at h
   ·rename_i st1 h1
    exact AL.round (hih.aw h1 hok' m) ((hih n lm _ st1 e st' h m hok).2 x rfl)
   ·rename_i hne
    exact AL.out (fun he=>by subst he;exact hne st' h) (hih.aw h hok' m)
  exact ⟨hal.aw,fun c' e=>by injection e with e;subst e;exact hal⟩
 ·simp only [Option.some.injEq,Prod.mk.injEq] at h
  obtain ⟨rfl,rfl⟩:=h
  exact key (fun _=>by simp) (fun _ _ C a w _ _ hr=>wpIn_exit ⟨st,⟨rfl,rfl⟩,hr⟩)
 ·simp only [Option.some.injEq,Prod.mk.injEq] at h
  obtain ⟨rfl,rfl⟩:=h
  exact key (fun _=>by simp) (fun _ _ C a w _ _ hr=>wpIn_ret ⟨st,⟨rfl,rfl⟩,hr⟩)
 ·simp only [Option.some.injEq,Prod.mk.injEq] at h
  obtain ⟨rfl,rfl⟩:=h
  exact key (fun _=>by simp) (fun _ _ C a w _ _ hr=>wpIn_label ⟨st,⟨rfl,rfl⟩,hr⟩)
 ·rename_i g ps a c
  refine key (fun _=>by simp) ?_
  obtain ⟨k,caps,h1,h2⟩:=calleeX_sound' h
  exact rngX_sound hih h2 h1
 ·rename_i x
  refine key (fun _=>by simp) ?_
  simp only [codeOk] at hok
  split at h
  ·cases h
  ·rename_i hne
   intro fr hfr C a w hn hm hr
   refine wpIn_scope_straight (wpIn_mono (hih.aw h hok m fr hfr C a w hn hm hr) ?_)
   rintro e2 a' w' ⟨st2,⟨rfl,rfl⟩,hr'⟩
   cases e2 with
   | goto l=>exact absurd h (hne l st2)
   | _=>exact ⟨st2,⟨rfl,rfl⟩,hr'⟩
 ·cases h
theorem codeX_sound (ho:P.follows .mixedOrders=true) (hT:OrcOk P G M.orc) : ∀n,CodeOk P G (codeX P G M n)
 | 0=>fun _ _ _ _ _ _ h=>by cases h
 | n+1=>bodyX_sound ho hT (codeX_sound ho hT n)
theorem runX_sound (ho:P.follows .mixedOrders=true) (hT:OrcOk P G M.orc) (n:Nat) : ∀f args σ m r σ',runX P G M n f args σ m=some (r,σ')→OFn P G f args σ m r σ':=funX_sound hT (codeX_sound ho hT n)
end
end Go.Proofs.YtkhonlnajdfhfaaGreatDoor
set_option linter.unusedSimpArgs false
set_option linter.unusedVariables false
set_option maxRecDepth 8000
namespace Go.Proofs.YtkhonlnajdfhfaaGreatDoor
abbrev nilSD:D:= .lit (.slice none 0 0)
abbrev iD (n:Int):D:= .lit (.int .i64 n)
abbrev ruD (r:Int):D:= .lit (.int .i32 r)
abbrev M0:Nat→Bool:=fun _=>false
theorem getsG (G:Gl) (M:Nat→Bool) (n:Nat) {f:Nat} {args:List V} {v:V} (h:runX Tryz.prog G ⟨M,false,[]⟩ n f args [] 0=some (v,[])):OFn Tryz.prog G f args [] 0 v []:=runX_sound mixed OrcOk.nil n f args [] 0 _ _ h
theorem getsO {G:Gl} (M:Nat→Bool) {T:Orc} (hT:OrcOk Tryz.prog G T) (n:Nat) {f:Nat} {args:List V} {v:V} (h:runX Tryz.prog G ⟨M,true,T⟩ n f args [] 0=some (v,[])):OFn Tryz.prog G f args [] 0 v []:=runX_sound mixed hT n f args [] 0 _ _ h
def MB:Nat→Bool:=fun k=>Nat.testBit 1512705831232485910985149208994945848997502714364262641050587562508288 k
end Go.Proofs.YtkhonlnajdfhfaaGreatDoor
