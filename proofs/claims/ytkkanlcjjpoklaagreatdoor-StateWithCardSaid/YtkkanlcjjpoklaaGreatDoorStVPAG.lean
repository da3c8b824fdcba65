/- What the theorem leans on, part 7. -/
import Derived.Test.YtkkanlcjjpoklaaGreatDoorStVPAD
import Derived.Test.YtkkanlcjjpoklaaGreatDoorStVPAF
set_option linter.unusedVariables false
namespace Go.Proofs.YtkkanlcjjpoklaaGreatDoor
def fN {α:Type} (n:Nat) (k:Nat→α):α:=match n with
 | 0=>k 0
 | m+1=>k (Nat.succ m)
def fI {α:Type} (i:Int) (k:Int→α):α:=match i with
 | .ofNat n=>fN n fun n=>k (.ofNat n)
 | .negSucc n=>fN n fun n=>k (.negSucc n)
def fB {α:Type} (b:Bool) (k:Bool→α):α:=match b with
 | true=>k true
 | false=>k false
def RG {α:Type} (v:Value) (k:Value→α):α:=match v with
 | .int kd i=>fI i fun i=>k (.int kd i)
 | .bool b=>fB b fun b=>k (.bool b)
 | v=>k v
def fD {α:Type} (x:D) (k:D→α):α:=match x with
 | .lit v=>RG v fun v=>k (.lit v)
 | x=>k x
def fV {α:Type} (v:V) (k:V→α):α:=match v with
 | .d x=>fD x fun x=>k (.d x)
 | .so id kk lo n=>fN lo fun lo=>fN n fun n=>k (.so id kk lo n)
 | v=>k v
def fL {α:Type} : List D→(List D→α)→α
 | [],k=>k []
 | x::r,k=>fL r fun r=>k (x::r)
def RF {α:Type} (b:bN) (k:bN→α):α:=match b with
 | .row n es tq=>fL es fun es=>k (.row n es tq)
 | b=>k b
def Gs (o:BinOp) (b:Int):Bool:=match o with
 | .quo=> !(b==0)
 | .rem=> !(b==0)
 | .shl=>decide (0≤b)
 | .shr=>decide (0≤b)
 | _=>true
def pU (o:BinOp) (a b:ByteArray):Bool:=match o with
 | .add=>decide (((a.size+b.size:Nat):Int)≤9223372036854775807)
 | _=>true
def Un (o q:Option (List CK)):Bool:=match o,q with
 | some ks,some ks'=>cN ks ks'
 | _,_=>false
def LP (P:Program) (o:BinOp) (t:Nat) (x y:V):Bool:=match x with
 | .d (.lit (.int _ _))=>(match y with
  | .d (.lit (.int _ b))=>Gs o b
  | _=>true)
 | .d (.lit (.string a))=>(match y with
  | .d (.lit (.string b))=>pU o a b
  | _=>true)
 | .d (.agg xs)=>(match y with
  | .d (.agg _)=>Un (KM P t) (iH xs)
  | _=>true)
 | _=>true
def To (lo hi:Option Int) (mx:Option Int) (n:Nat):Bool:=
 decide (0≤lo.getD 0)&&decide (lo.getD 0≤hi.getD n)&&decide (hi.getD n≤mx.getD n)&&decide (mx.getD n≤n)
def Sp (x:V) (lo hi mx:Option V):Bool:=match vc lo,vc hi,vc mx with
 | some lo,some hi,some mx=>(match x with
  | .d (.lit (.string s))=>To lo hi mx s.size
  | .d (.sd _ _ es)=>To lo hi mx es.length
  | .so _ _ _ n=>To lo hi mx n&&(decide (lo.getD 0<n)||decide (lo.getD 0=0))
  | _=>true)
 | _,_,_=>true
def So (i:V) (n:Nat):Bool:=match lH i with
 | some i=>decide (0≤i)&&decide (i<n)
 | none=>true
def LQ (P:Program) (t:Nat) (a i:V):Bool:=match a with
 | .d (.sd _ _ es)=>So i es.length
 | .so _ _ _ m=>So i m
 | _=>(match Nl P t with
  | some x=>So i x.1
  | none=>true)
def Sk (P:Program) (t:Nat) (a i:V):Bool:=match a with
 | .d (.lit (.string s))=>So i s.size
 | _=>(match Nl P t with
  | some x=>So i x.1
  | none=>true)
def HV (k:Nat) (x:D):Bool:=decide (x.cells.length=k)&&(V.d x).cellOk
def Sh (P:Program) (t:Nat) (ps:List (Nat × V)):Bool:=match ob P t with
 | some x=>(match zD 0 ps with
  | some es=>es.all (HV x.1)
  | none=>true)
 | none=>true
def Sl (P:Program) (t:Nat) (l c:V):Bool:=match QD P t with
 | some (_,bytes,_)=>(match lH l,lH c with
  | some l,some c=>decide (0≤l)&&decide (l≤c)&&decide (c≤1099511627776)&&decide (c*bytes≤140737488355328)
  | _,_=>true)
 | none=>true
def Sq (P:Program) (t:Nat) (a x:V) (σ:ak):Bool:=match a with
 | .pe i k ix j=>(match cu P t,σ.get i,x with
  | some (s,_),some (.row _ es _),.d y=>decide (ix<es.length)&&(if j=0∧s=k then HV k y else HV s y)
  | _,_,_=>true)
 | _=>true
def ED (σ:ak) (x:V):Bool:=match x with
 | .so id _ lo n=>(match σ.get id with
  | some (.row _ es _)=>decide (lo+n≤es.length)
  | _=>true)
 | _=>true
def Uo (n bytes:Nat):Bool:=decide (n≤140737488355328)&&decide (n*bytes≤140737488355328)
def LO (bytes:Nat) (s:V) (new:List D) (σ:ak):Bool:=match s with
 | .d (.lit _)=>Uo new.length bytes
 | .d (.sd _ _ es)=>Uo (es.length+new.length) bytes&&(es.isEmpty || !new.isEmpty)
 | .so i0 _ lo n=>(match σ.get i0 with
  | some (.row _ es _)=>decide (lo=0)&&decide (n=es.length)&&Uo (es.length+new.length) bytes
  | _=>true)
 | _=>true
def LN (P:Program) (t:Nat) (s x:V) (σ:ak):Bool:=match ob P t with
 | some (k,bytes)=>ED σ x&&(match fM k σ x with
  | some y=>LO bytes s y.2 σ
  | none=>true)
 | none=>true
def Si (d x:V) (σ:ak):Bool:=ED σ x&&ED σ d
def qM (y:D):Bool:=match y with
 | .lit (.int .u8 _)=>true
 | _=>false
def Sj (P:Program) (s:Nat) (x:V) (σ:ak):Bool:=if NR P s=true then ED σ x&&(match fM 1 σ x with
 | some y=>y.2.all qM
 | none=>true) else true
def Sr (x n:V) (σ:ak):Bool:=match x,n with
 | .pe id _ _ _,.d (.lit (.int _ m))=>(match σ.get id with
  | some (.row _ es _)=>(es.take m.toNat).all qM
  | _=>true)
 | _,_=>true
def oT (P:Program) (c:Call) (g:Operand→V) (σ:ak):Bool:=match c.callee,c.args.toList,c.argTypes.toList with
 | .builtin .append,[s,x],[t,_]=>LN P t (g s) (g x) σ
 | .builtin .copy,[d,x],_=>Si (g d) (g x) σ
 | .builtin .unsafeString,[x,n],_=>Sr (g x) (g n) σ
 | .builtin .clear,[x],_=>(match g x with
  | .so id _ lo n=>(match σ.get id with
   | some (.row _ es _)=>decide (lo+n=es.length)
   | _=>true)
  | _=>true)
 | _,_,_=>true
def Dw (P:Program) (op:Op) (g:Operand→V) (σ:ak):Bool:=match op with
 | .binOp o t x y _=>LP P o t (g x) (g y)
 | .slice _ x lo hi mx=>Sp (g x) (lo.map g) (hi.map g) (mx.map g)
 | .indexAddr t x i=>LQ P t (g x) (g i)
 | .index t x i=>Sk P t (g x) (g i)
 | .buildSlice t _ ps=>Sh P t (ps.toList.map fun p=>(p.1,g p.2))
 | .makeSlice t l c=>Sl P t (g l) (g c)
 | .store t a x=>Sq P t (g a) (g x) σ
 | .convert s _ x=>Sj P s (g x) σ
 | .call c=>oT P c g σ
 | .mapUpdate t _ _ _=>(Eu P t).isNone
 | .lookup t _ _ _=>(Eu P t).isNone
 | _=>true
def MJ (o:BinOp) (a b:ByteArray):Option V:=match o with
 | .add=>some (.d (.lit (.string ⟨⟨a.data.toList++b.data.toList⟩⟩)))
 | .eql=>some (.d (.lit (.bool (a.data.toList==b.data.toList))))
 | .neq=>some (.d (.lit (.bool (!(a.data.toList==b.data.toList)))))
 | _=>none
def MV (op:Op) (g:Operand→V):Option (BinOp × ByteArray × ByteArray):=match op with
 | .binOp o _ x y _=>(match g x with
  | .d (.lit (.string a))=>(match g y with
   | .d (.lit (.string b))=>some (o,a,b)
   | _=>none)
  | _=>none)
 | _=>none
def Oc (k:Nat) (es:List D) (i j:Nat) (x:Nat × Bool):Option V:=match es[i]? with
 | some e=>(xn x.2 j x.1 k e).map .d
 | none=>none
def BR (P:Program) (t:Nat) (a:V) (σ:ak):Option V:=match cu P t with
 | none=>none
 | some x=>match a with
  | .d (.pd k es i j)=>Oc k es i j x
  | .po id o=>(match σ.get id with
   | some (.cell cs _)=>ky x.2 o x.1 cs
   | _=>none)
  | .pe id k i j=>(match σ.get id with
   | some (.row k' es _)=>if k=k' then Oc k es i j x else none
   | _=>none)
  | _=>none
def LF (x:V) (σ:ak):Option (V × ak):=match x with
 | .it id=>(match σ.get id with
  | some (.iter s pos)=>if pos<s.size then some (.tup [.d (.lit (.bool true)),.d (.lit (.int .i64 pos)),.d (.lit (.int .i32 (Utf8.decode s pos).1))],σ.set id (.iter s (pos+(Utf8.decode s pos).2))) else some (.tup [.d (.lit (.bool false))],σ)
  | _=>none)
 | _=>none
def yj {α:Type} (v:V) (k:Nat→List V→Option α):Option α:=match v with
 | .d (.fn f caps)=>k f (caps.map .d)
 | .fn f caps=>k f caps
 | _=>none
def kU (v:V) (al:List V):List V:=match v with
 | .d (.fn _ caps)=>al++caps.map .d
 | .fn _ caps=>al++caps
 | .d (.bf _ fs)=>fs.map .d++(al++[])
 | _=>al
def qE {α:Type} (v:V) (al:List V) (k:Nat→List V→Option α):Option α:=match v with
 | .d (.fn f _)=>k f (kU v al)
 | .fn f _=>k f (kU v al)
 | .d (.bf f _)=>k f (kU v al)
 | _=>none
def Gx (c a b:V):Option V:=match c with
 | .d (.lit (.bool t))=>some (match t with|true=>a|false=>b)
 | _=>none
abbrev NA:=Nat→List V→ak→Nat→Option (V × ak)
structure G1 where
 call:NA
 rnd:NA
def M4 (P:Program) (op:Op) (g:Operand→V) (σ:ak) (id:Nat):Option (V × ak):=match MV op g with
 | some (o,a,b)=>if pU o a b=true then (MJ o a b).map fun v=>(v,σ) else none
 | none=>if Dw P op g σ=true then (match dl P op g σ id with
  | some r=>some (r.2.1,r.2.2)
  | none=>none) else none
def tp (P:Program) (op:Op) (g:Operand→V) (σ:ak) (id:Nat):Option (V × ak):=match op with
 | .pick c a b=>(Gx (g c) (g a) (g b)).map fun v=>(v,[])
 | .load t x=>(BR P t (g x) σ).map fun v=>(v,[])
 | .call c=>(match c.callee with
  | .builtin _=>if Dw P op g σ=true then (match bg P op g σ id with
   | some r=>some (r.2.1,r.2.2)
   | none=>none) else none
  | _=>none)
 | op=>match MV op g with
  | some (o,a,b)=>if pU o a b=true then (MJ o a b).map fun v=>(v,[]) else none
  | none=>if Dw P op g σ=true then (match bg P op g σ id with
   | some r=>some (r.2.1,r.2.2)
   | none=>none) else none
def fR (σ:ak) (vs:List V):List Nat:=H6 σ (H6 σ (H6 σ (sD [] vs)))
def wE (P:Program) (run:G1) (f:Nat) (args:List V) (σ:ak) (id:Nat):Option (V × ak):=
 if cK P f=true then
  (if JI (fR σ args) id σ=true then
   (match run.call f (args.map (V.sel (fw (fR σ args)))) (σ.sel (fw (fR σ args))) (fR σ args).length with
   | some r=>some (r.1.sel (bk (fR σ args) id),l4 σ (fR σ args)++r.2.sel (bk (fR σ args) id))
   | none=>none) else none)
 else (match si P f args with
  | some v=>some (v,σ)
  | none=>none)
def qf (P:Program) (run:G1) (op:Op) (g:Operand→V) (σ:ak) (id:Nat):Option (V × ak):=match op with
 | .pick c a b=>(Gx (g c) (g a) (g b)).map fun v=>(v,σ)
 | .load t x=>(BR P t (g x) σ).map fun v=>(v,σ)
 | .next x isStr=>if isStr=true then LF (g x) σ else none
 | .call c=>(match c.callee with
  | .value f=>(match g f with
   | .yl i=>run.rnd i (c.args.toList.map g) σ id
   | v=>qE v (c.args.toList.map g) fun k al=>wE P run k al σ id)
  | .builtin _=>M4 P op g σ id
  | .invoke _ _=>none)
 | op=>M4 P op g σ id
def me (ops:Array Oper) (o:Oper) (e:aO):Option (Bool × aO):=match o.guard with
 | none=>some (true,e)
 | some (j,want)=>match (ops[j]?).bind (·.dst) with
  | none=>none
  | some d=>match e.get d with
   | .d (.lit (.bool b))=>some (b==want,e.put d (.d (.lit (.bool b))))
   | .tup []=>some (false,e)
   | _=>none
def bX {α:Type} (s:String):Option α:=none
def D2 {α:Type} (σ:ak) (k:ak→α):α:=match σ with
 | []=>k []
 | (i,b)::r=>RF b fun b=>k ((i,b)::r)
def IG (P:Program) (G:Gl) (run:G1) (ops:Array Oper) (base:Nat):Nat→List Oper→aO→ak→Option (aO × ak)
 | _,[],e,σ=>some (e,σ)
 | i,o::r,e,σ=>match me ops o e with
  | some (true,e)=>(match qf P run o.op (eO G e.get) σ (base+4*i) with
   | some (v,σ')=>fV v fun v=>D2 σ' fun σ'=>IG P G run ops base (i+1) r (e.putO o.dst v) σ'
   | none=>bX o.pos)
  | some (false,e)=>IG P G run ops base (i+1) r (e.putO o.dst (.tup [])) σ
  | none=>bX o.pos
def Yk (vs:List V):Bool:=(sD [] vs).isEmpty
def Kj (P:Program) (run:G1) (f:Nat) (args:List V) (id:Nat):Option (V × ak):=
 if cK P f=true then
  (match run.call f (args.map (V.sel (fw []))) [] 0 with
   | some r=>some (r.1.sel (bk [] id),r.2.sel (bk [] id))
   | none=>none)
 else (match si P f args with
  | some v=>some (v,[])
  | none=>none)
def pA (P:Program) (run:G1) (lo:List Nat) (ops:Array Oper) (i:Nat) (op:Op) (g:Operand→V) (σp acc:ak) (id:Nat):Option (Bool × V × ak):=match op with
 | .call c=>(match c.callee with
  | .value f=>(match g f with
   | .yl j=>if gG lo ops i=true then (run.rnd j (c.args.toList.map g) (σp++acc) id).map fun r=>(false,r) else none
   | v=>qE v (c.args.toList.map g) fun k al=>if Yk al=true then (Kj P run k al id).map fun r=>(true,r)
    else if gG lo ops i=true then (wE P run k al (σp++acc) id).map fun r=>(false,r) else none)
  | _=>none)
 | _=>none
def ko (P:Program) (G:Gl) (run:G1) (ops:Array Oper) (base:Nat):Nat→List Oper→aO→ak→ak→Option (aO × ak)
 | _,[],e,σp,acc=>some (e,σp++acc)
 | i,o::r,e,σp,acc=>match me ops o e with
  | some (true,e)=>
   if BE o.op=true then (match qf P run o.op (eO G e.get) (σp++acc) (base+4*i) with
    | some (v,σ')=>fV v fun v=>D2 σ' fun σ'=>ko P G run ops base (i+1) r (e.putO o.dst v) σ' []
    | none=>bX o.pos)
   else if dD o.op=true then (match pA P run [] ops i o.op (eO G e.get) σp acc (base+4*i) with
    | some (true,v,new)=>fV v fun v=>ko P G run ops base (i+1) r (e.putO o.dst v) σp (acc++new)
    | some (false,v,σ')=>fV v fun v=>ko P G run ops base (i+1) r (e.putO o.dst v) σ' []
    | none=>bX o.pos)
   else (match tp P o.op (eO G e.get) σp (base+4*i) with
    | some (v,new)=>fV v fun v=>ko P G run ops base (i+1) r (e.putO o.dst v) σp (acc++new)
    | none=>bX o.pos)
  | some (false,e)=>ko P G run ops base (i+1) r (e.putO o.dst (.tup [])) σp acc
  | none=>bX o.pos
def Ca:V→Option Nat
 | .po i _=>some i
 | .pe i _ _ _=>some i
 | _=>none
def CP (σk:ak) (op:Op) (g:Operand→V):Bool:=match op with
 | .store _ a _=>(match Ca (g a) with
  | some i=>(σk.get i).isNone
  | none=>false)
 | _=>false
def QH:G1:=⟨fun _ _ _ _=>none,fun _ _ _ _=>none⟩
def FC (op:Op) (g:Operand→V):List V:=match op with
 | .call c=>(match c.callee with
  | .value f=>kU (g f) (c.args.toList.map g)
  | _=>[])
 | _=>[]
def Ub (op:Op) (g:Operand→V):Bool:=match op with
 | .call c=>(match c.callee with
  | .value f=>(match g f with
   | .yl _=>true
   | _=>false)
  | _=>false)
 | _=>false
def Um (σk σ:ak) (op:Op) (g:Operand→V):Bool:= !Ub op g&&(fR σ (FC op g)).all fun j=>(σk.get j).isNone
def CC (P:Program) (G:Gl) (ops:Array Oper) (base:Nat):Nat→List Oper→aO→ak→List Nat→List (Nat × Option Nat)→Bool→Option (List Nat × List (Nat × Option Nat) × Bool)
 | _,[],_,_,ids,lds,oc=>some (ids,lds,oc)
 | i,o::r,e,σ,ids,lds,oc=>match me ops o e with
  | some (true,e)=>(match qf P QH o.op (eO G e.get) σ (base+4*i) with
   | some (v,σ')=>fV v fun v=>D2 σ' fun σ'=>CC P G ops base (i+1) r (e.putO o.dst v) σ'
    (match o.op with
     | .store _ a _=>(match Ca (eO G e.get a) with
      | some k=>k::ids
      | none=>ids)
     | _=>ids)
    (match o.op with
     | .load _ a=>(i,Ca (eO G e.get a))::lds
     | _=>lds) oc
   | none=>CC P G ops base (i+1) r (e.putO o.dst .unk) σ
    (match o.op with
     | .store _ a _=>(match Ca (eO G e.get a) with
      | some k=>k::ids
      | none=>ids)
     | op=>fR σ (FC op (eO G e.get))++ids) lds (oc||(dD o.op && !gG [] ops i && !(fR σ (FC o.op (eO G e.get))).isEmpty)))
  | some (false,e)=>CC P G ops base (i+1) r (e.putO o.dst (.tup [])) σ ids lds oc
  | none=>CC P G ops base (i+1) r (e.putO o.dst .unk) σ ids lds oc
def Tm (ids:List Nat):List (Nat × Option Nat)→List Nat
 | []=>[]
 | (i,none)::r=>i::Tm ids r
 | (i,some k)::r=>if ids.contains k=true then Tm ids r else i::Tm ids r
def N3:List Nat→ak→ak
 | [],σ=>σ
 | i::r,σ=>N3 r (σ.del i)
def kr (P:Program) (G:Gl) (run:G1) (lo:List Nat) (σk:ak) (ops:Array Oper) (base:Nat):Nat→List Oper→Bool→aO→ak→ak→Option (aO × ak)
 | _,[],_,e,σp,acc=>some (e,σp++acc)
 | i,o::r,kp,e,σp,acc=>match me ops o e with
  | some (true,e)=>
   if BE o.op=true then (if ((kp&&CP σk o.op (eO G e.get))||ye lo ops i)=true then (match qf P run o.op (eO G e.get) (σp++acc) (base+4*i) with
    | some (v,σ')=>fV v fun v=>D2 σ' fun σ'=>kr P G run lo σk ops base (i+1) r (kp&&CP σk o.op (eO G e.get)) (e.putO o.dst v) σ' []
    | none=>bX o.pos) else bX o.pos)
   else if dD o.op=true then (match pA P run lo ops i o.op (eO G e.get) σp acc (base+4*i) with
    | some (true,v,new)=>fV v fun v=>kr P G run lo σk ops base (i+1) r kp (e.putO o.dst v) σp (acc++new)
    | some (false,v,σ')=>if ((kp&&Um σk (σp++acc) o.op (eO G e.get))||ye lo ops i)=true then (fV v fun v=>kr P G run lo σk ops base (i+1) r (kp&&Um σk (σp++acc) o.op (eO G e.get)) (e.putO o.dst v) σ' []) else bX o.pos
    | none=>bX o.pos)
   else if lo.contains i=true then (match tp P o.op (eO G e.get) σk (base+4*i) with
    | some (v,[])=>fV v fun v=>kr P G run lo σk ops base (i+1) r kp (e.putO o.dst v) σp acc
    | _=>bX o.pos)
   else (match tp P o.op (eO G e.get) σp (base+4*i) with
    | some (v,new)=>fV v fun v=>kr P G run lo σk ops base (i+1) r kp (e.putO o.dst v) σp (acc++new)
    | none=>bX o.pos)
  | some (false,e)=>kr P G run lo σk ops base (i+1) r kp (e.putO o.dst (.tup [])) σp acc
  | none=>bX o.pos
def X1 (op:Op):Bool:=match op with
 | .load _ _=>true
 | _=>false
def Ri (B:List Nat) (i:Nat):Nat→List Oper→Bool
 | _,[]=>false
 | j,o::r=>((BE o.op||dD o.op) && !(B.getD j 0).testBit i && !(B.getD i 0).testBit j)||Ri B i (j+1) r
def X7 (ops:Array Oper) (lds:List (Nat × Option Nat)):List Nat:=(lds.map (·.1)).filter fun i=>Ri (lY [] ops.toList) i 0 ops.toList
def id2 (ops:Array Oper) (lds:List (Nat × Option Nat)) (σ:ak):List Nat:=(σ.map (·.1)).filter fun k=> !((lds.filter fun x=>Ri (lY [] ops.toList) x.1 0 ops.toList).any fun x=>x.2==some k)
def Qt (P:Program) (G:Gl) (run:G1) (ops:Array Oper) (st:St):Option (aO × ak):=
 if cI [] ops=true∧((ops.toList.any fun o=>dD o.op)&&ops.toList.any fun o=>X1 o.op)=false then ko P G run ops st.nx 0 ops.toList st.env st.sg []
 else match CC P G ops st.nx 0 ops.toList st.env st.sg [] [] false with
 | some (ids,lds,oc)=>if cI [] ops=true∧oc=false then ko P G run ops st.nx 0 ops.toList st.env st.sg []
  else if cI (Tm ids lds) ops=true∧vb (Tm ids lds) 0 ops.toList=true then kr P G run (Tm ids lds) (N3 ids st.sg) ops st.nx 0 ops.toList true st.env st.sg []
  else if cI (X7 ops lds) ops=true∧vb (X7 ops lds) 0 ops.toList=true then kr P G run (X7 ops lds) (N3 (id2 ops lds st.sg) st.sg) ops st.nx 0 ops.toList true st.env st.sg []
  else bX ((ops.toList.head?).elim "draw" fun o=>o.pos)
 | none=>none
def RC:Value→Value→Bool
 | .int k n,.int k' n'=>decide (k=k')&&decide (n=n')
 | .bool a,.bool b=>a==b
 | .string a,.string b=>a.data.toList==b.data.toList
 | .pointer none,.pointer none=>true
 | .slice none 0 0,.slice none 0 0=>true
 | .nilIface,.nilIface=>true
 | _,_=>false
mutual
def JF:D→D→Bool
 | .lit a,.lit b=>RC a b
 | .agg a,.agg b=>yI a b
 | .sd k f a,.sd k' f' b=>k==k'&&f==f'&&yI a b
 | .pd k a i j,.pd k' b i' j'=>k==k'&&i==i'&&j==j'&&yI a b
 | .fn f a,.fn g b=>f==g&&yI a b
 | .ifc t a,.ifc u b=>t==u&&JF a b
 | .bf f a,.bf g b=>f==g&&yI a b
 | _,_=>false
def yI:List D→List D→Bool
 | [],[]=>true
 | x::xs,y::ys=>JF x y&&yI xs ys
 | _,_=>false
end
def Tj:List V→List D→Bool
 | [],[]=>true
 | .d x::xs,y::ys=>JF x y&&Tj xs ys
 | _,_=>false
abbrev xZ:=List (Nat × List D × V)
def orc:xZ→Nat→List V→Option V
 | [],_,_=>none
 | (g,az,r)::t,f,args=>match Nat.beq g f with
  | true=>(match Tj args az with
   | true=>some r
   | false=>orc t f args)
  | false=>orc t f args
structure Dt where
 fn:Nat→Bool
 trim:Bool:=false
 orc:xZ:=[]
instance:CoeFun Dt (fun _=>Nat→Bool):=⟨Dt.fn⟩
def Sx (M:Dt) (f:Nat) (args:List V) (σ:ak) (m:Nat):Option V:=match σ,m with
 | [],0=>orc M.orc f args
 | _,_=>none
def Gk (M:Dt) (g:Operand→V) (op:Op):List V:=match op with
 | .buildSlice _ _ ps=>ps.toList.map fun p=>g p.2
 | .makeInterface _ x=>[g x]
 | .store _ a x=>(match g a with
  | .pe _ _ _ _=>[g x]
  | _=>[])
 | .call c=>(match c.callee with
  | .value f=>(match g f with
   | .d (.fn k _)=>if M k=true then [] else c.args.toList.map g
   | .fn k caps=>if M k=true then [] else c.args.toList.map g++caps
   | .d (.bf k _)=>if M k=true then [] else c.args.toList.map g
   | _=>[])
  | _=>[])
 | _=>[]
def Sb (M:Dt) (g:Operand→V) (ops:List Oper):List V:=ops.flatMap fun o=>Gk M g o.op
def BX (P:Program) (G:Gl) (M:Dt) (ops:Array Oper) (base:Nat):Nat→List Oper→aO→ak→List V→List V
 | _,[],_,_,acc=>acc
 | i,o::r,e,σ,acc=>match me ops o e with
  | some (true,e)=>(match qf P QH o.op (eO G e.get) σ (base+4*i) with
   | some (v,σ')=>fV v fun v=>D2 σ' fun σ'=>BX P G M ops base (i+1) r (e.putO o.dst v) σ' (Gk M (eO G e.get) o.op++acc)
   | none=>BX P G M ops base (i+1) r (e.putO o.dst .unk) σ (Gk M (eO G e.get) o.op++acc))
  | some (false,e)=>BX P G M ops base (i+1) r (e.putO o.dst (.tup [])) σ acc
  | none=>BX P G M ops base (i+1) r (e.putO o.dst .unk) σ (Gk M (eO G e.get) o.op++acc)
def X2 (op:Op):Bool:=match op with
 | .buildSlice _ _ _=>true
 | .makeInterface _ _=>true
 | .call c=>(match c.callee with
  | .value _=>true
  | _=>false)
 | _=>false
def Uj (P:Program) (G:Gl) (M:Dt) (ops:Array Oper) (st:St):List V:=
 if (ops.toList.any fun o=>X2 o.op)=true then BX P G M ops st.nx 0 ops.toList st.env st.sg [] else Sb M (eO G st.env.get) ops.toList
def gZ:Nat→List Nat→St→St
 | 0,_,st=>st
 | _,[],st=>st
 | n+1,i::r,st=>match st.sg.get i with
  | some (.cell cs _)=>gZ n r ((gZ n (sD [] cs) st).frz i)
  | some _=>gZ n r (st.frz i)
  | none=>gZ n r st
def W8 (i m:Nat):V→Nat
 | .so j _ lo n=>if j=i then Nat.max m (lo+n) else m
 | .pe j _ a _=>if j=i then Nat.max m (a+1) else m
 | _=>m
def mxV (i m:Nat):V→Nat
 | .agg l=>l.foldl (W8 i) m
 | .tup l=>l.foldl (W8 i) m
 | .fn _ l=>l.foldl (W8 i) m
 | v=>W8 i m v
def mxE (i:Nat):aO→Nat→Nat
 | [],m=>m
 | (_,v)::r,m=>mxE i r (mxV i m v)
def X9 (i:Nat):ak→Nat→Nat
 | [],m=>m
 | (_,.cell cs _)::r,m=>X9 i r (cs.foldl (mxV i) m)
 | _::r,m=>X9 i r m
def qh (e:aO) (σ:ak):ak→ak
 | []=>[]
 | (i,.row k es ty)::r=>fN (X9 i σ (mxE i e 0)) fun m=>if m<es.length then fL (es.take m) fun es=>(i,.row k es ty)::qh e σ r else (i,.row k es ty)::qh e σ r
 | x::r=>x::qh e σ r
def Ua (op:Op):Bool:=match op with
 | .call c=>(match c.callee with
  | .builtin .append=>true
  | _=>false)
 | _=>false
def MT (M:Dt) (ops:Array Oper) (st:St):St:=if M.trim=true then (if (ops.toList.any fun o=>Ua o.op)=true then ⟨st.env,qh st.env st.sg st.sg,st.nx⟩ else st) else st
def keepM:Nat→aO→aO
 | _,[]=>[]
 | m,(k,v)::r=>if Nat.testBit m k=true then (k,v)::keepM (m ^^^ 2 ^ k) r else keepM m r
def SN (P:Program) (G:Gl) (M:Dt) (run:G1) (lm:Nat) (ops:Array Oper) (draw:Bool) (st:St):Option (Exit × St):=
 match (match draw with
  | true=>Qt P G run ops st
  | false=>IG P G run ops st.nx 0 ops.toList st.env st.sg) with
 | some (e,σ)=>fN (st.nx+4*ops.size) fun nx=>some (.normal,⟨keepM lm e,σ,nx⟩)
 | none=>none
def Cq (P:Program):List ResultVar→St→Option (List V)
 | [],_=>some []
 | .tmp t::r,st=>(Cq P r st).map fun vs=>st.env.get t::vs
 | .cell a t::r,st=>match BR P t (st.env.get a) st.sg with
  | some v=>(Cq P r st).map fun vs=>v::vs
  | none=>none
def FN (P:Program) (M:Dt) (rs:List ResultVar) (f m:Nat) (st:St):Option (V × ak):=
 match Cq P rs st with
 | none=>bX "result"
 | some vs0=>
  let st:=if M f=true then st else gZ 50 (sD [] vs0) st
  match Cq P rs st with
  | none=>bX "result"
  | some vs=>
   let l:=Oz m (fR st.sg (vs++(List.range m).map fun i=> .po i 0))
   if l.length≤4 then some ((qt vs).sel (kI m l),st.sg.sel (kI m l)) else bX "names"
def LD (x:Operand) (m:Nat):Nat:=match x with
 | .tmp t=>m ||| 2 ^ t
 | _=>m
def QC:List Oper→Nat→Nat→Nat
 | [],_,m=>m
 | o::r,d,m=>QC r (match o.dst with|some t=>d ||| 2 ^ t|none=>d)
  (m ||| ((o.op.operands.toList.foldr LD 0) &&& (d ^^^ (2 ^ 600 - 1))))
def lS:Code→Nat→Nat
 | .region _ ops _,m=>QC ops.toList 0 m
 | .seq a b,m=>lS b (lS a m)
 | .cond c a b,m=>lS b (lS a (LD c m))
 | .block _ c,m=>lS c m
 | .loop c,m=>lS c m
 | .scope c,m=>lS c m
 | .rangeFunc g _ a c,m=>LD g (lS a (lS c m))
 | _,m=>m
def LC:List ResultVar→Nat→Nat
 | [],m=>m
 | .tmp t::r,m=>LC r (m ||| 2 ^ t)
 | .cell t _::r,m=>LC r (m ||| 2 ^ t)
def QB (fn:Func) (c:Code):Nat:=fN (LC fn.results.toList (lS c 0)) id
abbrev eB:=Nat→Nat→Code→St→Option (Exit × St)
def TF:Nat:=2 ^ 600 - 1
def SQ (ih:eB):NA:=fun i args σ id=>match σ.get i with
 | some (.rc y none e)=>
  if i<id∧y.ps.toList.all (fun p=>decide (p<y.n))=true∧args.length=y.ps.size∧oS y.asg=true∧oS y.body=true∧aS y.n y.asg=true∧aS y.n y.body=true then
   (match ih y.n TF y.asg ⟨ka y.ps.toList (args.map (V.sel (jV id))) (e.sel (jV id)),(σ.del i).sel (jV id),id⟩ with
   | some (.normal,st1)=>(match ih y.n TF y.body st1 with
    | some (ex,st2)=>(match (match ex with
     | .normal=>some none
     | .ret=>some (some Code.ret)
     | .exit k=>some (some (Code.exit k))
     | _=>none) with
     | some j=>if (Oz id (fR st2.sg ((σ.filter fun p=>decide (p.1<id)).map fun p=> .po p.1 0))).length≤4 then
      some (.d (.lit (.bool j.isNone)),(i,.rc y j e)::st2.sg.sel (mF σ id (Oz id (fR st2.sg ((σ.filter fun p=>decide (p.1<id)).map fun p=> .po p.1 0))))) else bX "names of a round"
     | none=>none)
    | none=>none)
   | _=>none) else bX "round"
 | _=>bX "no round"
def O1 (st st':St):Option (Exit × St):=match st'.sg.get st.nx with
 | some (.rc _ none _)=>some (.normal,⟨st.env,st'.sg.del st.nx,st'.nx⟩)
 | some (.rc _ (some .ret) _)=>some (.ret,⟨st.env,st'.sg.del st.nx,st'.nx⟩)
 | some (.rc _ (some (.exit k)) _)=>some (.exit k,⟨st.env,st'.sg.del st.nx,st'.nx⟩)
 | _=>bX "behind a loop"
def SR (P:Program) (ih:eB) (n:Nat) (ps:Array Nat) (asg body:Code) (st:St) (k:Nat) (caps:List V):Option (Exit × St):=match P.funcs[k]? with
 | none=>none
 | some fn=>match fn.body with
  | none=>none
  | some c=>if cK P k=true∧fn.results.toList.isEmpty=true∧caps.length+1≤fn.ntmps∧aS fn.ntmps c=true then
   (match ih fn.ntmps (QB fn c) c ⟨gV 0 (.yl st.nx::caps),(st.nx,.rc ⟨n,ps,asg,body⟩ none st.env)::st.sg,st.nx+1⟩ with
   | some (.normal,st')=>O1 st st'
   | some (.ret,st')=>O1 st st'
   | _=>none) else bX fn.name
def Oy (P:Program) (M:Dt) (code:eB) (f:Nat) (args:List V) (σ:ak) (m:Nat):Option (V × ak):=match Sx M f args σ m with
 | some v=>some (v,[])
 | none=>match P.funcs[f]? with
 | none=>none
 | some fn=>match fn.body with
  | none=>none
  | some c=>if aS fn.ntmps c=true∧args.length≤fn.ntmps then
   (match code fn.ntmps (QB fn c) c (if M f=true then ⟨gV 0 args,σ,m⟩ else gZ 50 (List.range m) ⟨gV 0 args,σ,m⟩) with
   | some (.normal,st)=>FN P M fn.results.toList f m st
   | some (.ret,st)=>FN P M fn.results.toList f m st
   | _=>bX fn.name) else bX fn.name
def J8 (P:Program) (G:Gl) (M:Dt) (ih:eB) (n lm:Nat) (c:Code) (st:St):Option (Exit × St):=match c with
 | .skip=>some (.normal,st)
 | .region _ ops draw=>SN P G M ⟨Oy P M ih,SQ ih⟩ lm ops draw (MT M ops (gZ 50 (sD [] (Uj P G M ops st)) st))
 | .seq a b=>(match ih n lm a st with
  | some (.normal,st)=>ih n lm b st
  | r=>r)
 | .cond c a b=>(match eO G st.env.get c with
  | .d (.lit (.bool true))=>ih n lm a st
  | .d (.lit (.bool false))=>ih n lm b st
  | _=>none)
 | .block id c=>(match ih n lm c st with
  | some (.exit i,st)=>if i=id then some (.normal,st) else some (.exit i,st)
  | r=>r)
 | .loop c=>(match ih n lm c st with
  | some (.normal,st)=>ih n lm (.loop c) st
  | r=>r)
 | .exit id=>some (.exit id,st)
 | .ret=>some (.ret,st)
 | .label _=>some (.normal,st)
 | .rangeFunc g ps a c=>yj (eO G st.env.get g) fun k caps=>SR P ih n ps a c st k caps
 | .scope c=>(match ih n lm c st with
  | some (.goto _,_)=>none
  | r=>r)
 | _=>none
def Kr (P:Program) (G:Gl) (M:Dt):Nat→eB
 | 0=>fun _ _ _ _=>bX "fuel"
 | n+1=>J8 P G M (Kr P G M n)
def Mk (P:Program) (G:Gl) (M:Dt) (n:Nat):NA:=Oy P M (Kr P G M n)
end Go.Proofs.YtkkanlcjjpoklaaGreatDoor
set_option linter.unusedSimpArgs false
set_option linter.unusedVariables false
namespace Go.Proofs.YtkkanlcjjpoklaaGreatDoor
theorem F3 {α:Type} (n:Nat) (k:Nat→α):fN n k=k n:=by cases n<;>rfl
theorem TY {α:Type} (i:Int) (k:Int→α):fI i k=k i:=by cases i<;>simp [fI,F3]
theorem TW {α:Type} (b:Bool) (k:Bool→α):fB b k=k b:=by cases b<;>rfl
theorem Oo {α:Type} (v:Value) (k:Value→α):RG v k=k v:=by unfold RG;split<;>simp [TY,TW]
theorem TX {α:Type} (x:D) (k:D→α):fD x k=k x:=by unfold fD;split<;>simp [Oo]
theorem lP {α:Type} (v:V) (k:V→α):fV v k=k v:=by unfold fV;split<;>simp [TX,F3]
theorem Qw {α:Type} (l:List D) (k:List D→α):fL l k=k l:=by
 induction l generalizing k with
 | nil=>rfl
 | cons x r ih=>simp [fL,ih]
theorem Ok {α:Type} (b:bN) (k:bN→α):RF b k=k b:=by unfold RF;split<;>simp [Qw]
theorem yL {α:Type} (σ:ak) (k:ak→α):D2 σ k=k σ:=by unfold D2;split<;>simp [Ok]
section
variable {P:Program} {g:Operand→V} {σ:ak} {id:Nat}
theorem B6 {o:BinOp} {t:Nat} {cst:Bool} {x y:V} {p:Prop} {v:V} (h:LP P o t x y=true) (hr:uW P o t cst x y=some (p,v)):p:=by
 unfold uW at hr;split at hr
 ·have h':Gs o _=true:=h;split at hr
  ·cases o<;>simp only [kK,reduceCtorEq,aa5,abl] at hr<;>(obtain ⟨rfl,_⟩:=hr;simpa [Gs] using h')
  ·split at hr
   ·cases o<;>simp only [sF,reduceCtorEq,aa5,abl] at hr<;>(obtain ⟨rfl,_⟩:=hr;first|trivial|simpa [Gs] using h')
   ·cases hr
 ·have h':pU o _ _=true:=h;cases o<;>simp only [pu,reduceCtorEq,aa5,abl] at hr<;>(obtain ⟨rfl,_⟩:=hr;first|trivial|simpa [pU] using h')
 ·have key : ∀q,RB P t cst x y=some q→q.1:=by
   intro q hq;unfold RB at hq;split at hq
   ·split at hq
    ·split at hq
     ·injection hq with hq;subst hq;rename_i ks ks' vs us h1 h2 h3 h4 hs;simp only [LP,h1] at h;unfold Un at h;split at h
      ·rename_i k1 k2 e1 e2;injection e2 with e2;subst e2;have:=jc h;subst this;exact gU.of e1
      ·cases h
     ·cases hq
    ·cases hq
   ·split at hq
    ·injection hq with hq;subst hq;trivial
    ·cases hq
   ·split at hq
    ·injection hq with hq;subst hq;trivial
    ·cases hq
   ·split at hq
    ·simp only [aaZ] at hq;obtain ⟨b,_,rfl⟩:=hq;trivial
    ·cases hq
  split at hr
  ·simp only [aaZ] at hr;obtain ⟨q,hq,e⟩:=hr;injection e with e1 _;subst e1;exact key q hq
  ·simp only [aaZ] at hr;obtain ⟨q,hq,e⟩:=hr;injection e with e1 _;subst e1;exact key q hq
  ·cases hr
theorem fh {i:V} {n:Nat} {k:Int} (h:So i n=true) (hk:lH i=some k):0≤k∧k<n:=by
 simpa [So,hk] using h
theorem EH {t:Nat} {x:V} {lo hi mx:Option V} {p:Prop} {v:V} (h:Sp x lo hi mx=true) (hr:QN P t x lo hi mx=some (p,v)):p:=by
 unfold QN at hr;unfold Sp at h;split at hr
 ·rename_i lo' hi' mx' e1 e2 e3;simp only [e1,e2,e3] at h;split at hr
  ·split at hr
   ·rename_i hc;injection hr with hr;injection hr with hr _;subst hr;simp [To,hc.2] at h;omega
   ·cases hr
  ·split at hr
   ·split at hr
    ·simp [To] at h;split at hr<;>first
      | (injection hr with hr;injection hr with hr _;subst hr;first|trivial|(simp at h;omega))
      | cases hr
    ·cases hr
   ·cases hr
  ·split at hr
   ·split at hr
    ·rename_i hc;injection hr with hr;injection hr with hr _;subst hr;simp [To,hc.2] at h;omega
    ·cases hr
   ·cases hr
  ·cases hr
 ·cases hr
theorem EF {t:Nat} {a i:V} {n:Int} {p:Prop} {v:V} (h:LQ P t a i=true) (hn:lH i=some n) (hr:Ef P t a n=some (p,v)):p:=by
 unfold Ef at hr;split at hr
 ·split at hr
  ·injection hr with hr;injection hr with hr _;subst hr;exact fh h hn
  ·cases hr
 ·split at hr
  ·injection hr with hr;injection hr with hr _;subst hr;exact fh h hn
  ·cases hr
 ·split at hr
  ·rename_i len s _ ha;split at hr
   ·injection hr with hr;injection hr with hr _;subst hr;simp only [LQ,ha] at h;exact fh h hn
   ·injection hr with hr;injection hr with hr _;subst hr;simp only [LQ,ha] at h;exact fh h hn
   ·injection hr with hr;injection hr with hr _;subst hr;simp only [LQ,ha] at h;exact fh h hn
   ·cases hr
  ·cases hr
theorem EE {t:Nat} {a i:V} {n:Int} {p:Prop} {v:V} (h:Sk P t a i=true) (hn:lH i=some n) (hr:sE P t a n=some (p,v)):p:=by
 unfold sE at hr;split at hr
 ·split at hr
  ·injection hr with hr;injection hr with hr _;subst hr;exact fh h hn
  ·cases hr
 ·split at hr
  ·rename_i len s ag ha;simp only [aaZ] at hr;obtain ⟨y,_,e⟩:=hr;injection e with e _;subst e;simp only [Sk,ha] at h;exact fh h hn
  ·cases hr
 ·cases hr
theorem ma {k:Nat} {x:D} (h:HV k x=true):JQ k x:=by
 simpa [HV,JQ] using h
theorem B7 {k:Nat} : ∀ {es:List D},es.all (HV k)=true→jg k es
 | [],_=>trivial
 | x::r,h=>by
  simp only [List.all_cons,aa8] at h;exact ⟨ma h.1,B7 h.2⟩
theorem jA {k:Nat} {x:V} {p:Prop} {new:List D} (h:ED σ x=true) (hr:fM k σ x=some (p,new)):p:=by
 unfold fM at hr;split at hr
 ·split at hr
  ·injection hr with hr;injection hr with hr _;subst hr;trivial
  ·cases hr
 ·injection hr with hr;injection hr with hr _;subst hr;trivial
 ·injection hr with hr;injection hr with hr _;subst hr;trivial
 ·split at hr
  ·rename_i hg;split at hr
   ·injection hr with hr;injection hr with hr _;subst hr;simpa [ED,hg] using h
   ·cases hr
  ·cases hr
 ·split at hr
  ·injection hr with hr;injection hr with hr _;subst hr;trivial
  ·cases hr
 ·cases hr
theorem oU {n b:Nat} (h:Uo n b=true):fU n b:=by simpa [Uo,fU] using h
theorem Se {t t':Nat} {s x:V} {p:Prop} {v:V} {new:ak} (h:LN P t s x σ=true) (hr:rq P t t' s x σ id=some (p,v,new)):p:=by
 unfold rq at hr;split at hr
 ·rename_i k bytes ha;split at hr
  ·split at hr
   ·rename_i p' es' he;simp only [LN,ha,he,aa8] at h;have hp:=jA h.1 he;split at hr
    ·injection hr with hr;injection hr with hr _;subst hr;exact ⟨hp,oU h.2⟩
    ·split at hr
     ·injection hr with hr;injection hr with hr _;subst hr;simp only [LO,aa8,abP,List.isEmpty_iff,acb,List.isEmpty_eq_false_iff] at h;exact ⟨hp,by rw [Or];exact oU h.2.1,h.2.2⟩
     ·cases hr
    ·cases hr
   ·cases hr
  ·cases hr
 ·cases hr
theorem Sg {t t':Nat} {s x:V} {p:Prop} {v:V} {s':ak} (h:LN P t s x σ=true) (hr:uV P t t' s x σ id=some (p,v,s')):p:=by
 unfold uV at hr;split at hr
 ·rename_i k bytes i0 k0 lo n ha;split at hr
  ·split at hr
   ·rename_i k' es p' new hg he;split at hr
    ·injection hr with hr;injection hr with hr _;subst hr;simp only [LN,ha,he,LO,hg,aa8,abs] at h;exact ⟨jA h.1 he,h.2.1.1,h.2.1.2,by rw [Or];exact oU h.2.2⟩
    ·cases hr
   ·cases hr
  ·cases hr
 ·cases hr
theorem EB {t t':Nat} {d x:V} {p:Prop} {v:V} {s':ak} (h:Si d x σ=true) (hr:Qs P t t' d x σ=some (p,v,s')):p:=by
 unfold Qs at hr;simp only [Si,aa8] at h;split at hr
 ·split at hr
  ·split at hr
   ·rename_i k' es p' new hg he;split at hr
    ·injection hr with hr;injection hr with hr _;subst hr;have h2:=h.2;simp [ED,hg] at h2;exact ⟨jA h.1 he,h2⟩
    ·cases hr
   ·cases hr
  ·cases hr
 ·cases hr
theorem EC {s d:Nat} {x:V} {p:Prop} {v:V} {s':ak} (h:Sj P s x σ=true) (hr:Te P s d x σ=some (p,v,s')):p:=by
 unfold Te at hr;split at hr
 ·rename_i hc;simp only [aa8] at hc;split at hr
  ·rename_i p' es he;injection hr with hr;injection hr with hr _;subst hr;simp only [Sj,hc.1.1,ab0,he,aa8,abF] at h;refine ⟨jA h.1 he,fun y hy =>?_⟩;have:=h.2 y hy;unfold qM at this;split at this
   ·exact ⟨_,rfl⟩
   ·cases this
  ·cases hr
 ·cases hr
theorem EI {t:Nat} {a x:V} {p:Prop} {v:V} {s':ak} (h:Sq P t a x σ=true) (hr:MI P t a x σ=some (p,v,s')):p:=by
 unfold MI at hr;split at hr
 ·split at hr
  ·split at hr
   ·injection hr with hr;injection hr with hr _;subst hr;trivial
   ·cases hr
  ·cases hr
 ·rename_i s _ i k ix j hl;split at hr
  ·rename_i hg;simp only [Sq,hl,hg,aa8,abs] at h;split at hr
   ·split at hr
    ·rename_i hc;injection hr with hr;injection hr with hr _;subst hr;rw [aa3 hc] at h;exact ⟨h.1,ma h.2⟩
    ·rename_i hc;split at hr
     ·injection hr with hr;injection hr with hr _;subst hr;rw [aaY hc] at h;exact ⟨h.1,ma h.2⟩
     ·cases hr
   ·cases hr
  ·cases hr
 ·cases hr
theorem O6 {op:Op} {p:Prop} {v:V} (h:Dw P op g σ=true) (hr:ce P op g=some (p,v)):p:=by
 have T : ∀ {q:Option (Prop × V)},q=some (p,v)→(∀y,q=some y→y.1)→p:=fun e k=>k _ e
 unfold ce at hr;split at hr;case h_1=>injection hr with hr;injection hr with hr _;subst hr;trivial
 case h_2=>injection hr with hr;injection hr with hr _;subst hr;trivial
 case h_3=>
  unfold mq at hr;split at hr<;>first|(injection hr with hr;injection hr with hr _;subst hr;trivial)|cases hr
 case h_4=>exact B6 h hr
 case h_5=>
  unfold S5 at hr;split at hr<;>first|(injection hr with hr;injection hr with hr _;subst hr;trivial)|cases hr
 case h_6=>
  unfold Ru at hr;split at hr
  ·cases hr
  ·split at hr<;>first|(injection hr with hr;injection hr with hr _;subst hr;trivial)|cases hr
 case h_7=>
  unfold R7 at hr;split at hr<;>first|(injection hr with hr;injection hr with hr _;subst hr;trivial)|cases hr
 case h_8=>
  unfold Tn at hr;split at hr
  ·split at hr
   ·split at hr
    ·split at hr<;>(injection hr with hr;injection hr with hr _;subst hr;trivial)
    ·cases hr
   ·split at hr
    ·simp only [aaZ] at hr;obtain ⟨_,_,e⟩:=hr;injection e with e _;subst e;trivial
    ·cases hr
  ·cases hr
 case h_9=>exact EH h hr
 case h_10=>
  unfold RH at hr;split at hr
  ·split at hr
   ·cases hr
   ·split at hr<;>first|(injection hr with hr;injection hr with hr _;subst hr;trivial)|cases hr
  ·cases hr
 case h_11=>
  unfold RI at hr;split at hr
  ·split at hr<;>first|(simp only [aaZ] at hr;obtain ⟨_,_,e⟩:=hr;injection e with e _;subst e;trivial)|cases hr
  ·cases hr
 case h_12=>
  split at hr
  ·rename_i n hn;exact EF h hn hr
  ·cases hr
 case h_13=>
  split at hr
  ·rename_i n hn;exact EE h hn hr
  ·cases hr
 case h_14=>
  unfold S3 at hr;split at hr
  ·cases hr
  ·cases hr
  ·split at hr
   ·split at hr
    ·injection hr with hr;injection hr with hr _;subst hr;trivial
    ·split at hr
     ·simp only [aaZ] at hr;obtain ⟨_,_,e⟩:=hr;injection e with e _;subst e;trivial
     ·cases hr
   ·split at hr
    ·simp only [aaZ] at hr;obtain ⟨_,_,e⟩:=hr;injection e with e _;subst e;trivial
    ·cases hr
   ·cases hr
 case h_15=>
  unfold RE at hr;split at hr
  ·simp only [aaZ] at hr;obtain ⟨_,_,e⟩:=hr;injection e with e _;subst e;trivial
  ·cases hr
 case h_16=>
  unfold Ra at hr;split at hr
  ·simp only [aaZ] at hr;obtain ⟨_,_,e⟩:=hr;injection e with e _;subst e;trivial
  ·cases hr
 case h_17=>
  unfold iK at hr;split at hr
  ·unfold sN at hr;split at hr
   ·split at hr<;>first|(injection hr with hr;injection hr with hr _;subst hr;trivial)|cases hr
   ·split at hr<;>first|(injection hr with hr;injection hr with hr _;subst hr;trivial)|cases hr
   ·cases hr
  ·unfold Nq at hr;split at hr<;>first|(injection hr with hr;injection hr with hr _;subst hr;trivial)|cases hr
  ·unfold Nq at hr;split at hr<;>first|(injection hr with hr;injection hr with hr _;subst hr;trivial)|cases hr
  ·unfold Fp at hr;repeat' split at hr
   all_goals first|(injection hr with hr;injection hr with hr _;subst hr;trivial)|cases hr
  ·unfold Ew at hr;split at hr<;>first|(injection hr with hr;injection hr with hr _;subst hr;trivial)|cases hr
  ·unfold Ew at hr;split at hr<;>first|(injection hr with hr;injection hr with hr _;subst hr;trivial)|cases hr
  ·cases hr
 case h_18=>cases hr
theorem J1 {op:Op} {p:Prop} {v:V} {new:ak} (h:Dw P op g σ=true) (hr:aR P op g σ id=some (p,v,new)):p:=by
 unfold aR at hr;split at hr
 ·split at hr
  ·split at hr
   ·injection hr with hr;injection hr with hr _;subst hr;trivial
   ·cases hr
  ·cases hr
 ·split at hr
  ·injection hr with hr;injection hr with hr _;subst hr;trivial
  ·cases hr
 ·split at hr
  ·rename_i k _ es ha hs;split at hr
   ·injection hr with hr;injection hr with hr _;subst hr;have h':Sh P _ _=true:=h;simp only [Sh,ha,hs] at h';exact B7 h'
   ·cases hr
  ·cases hr
 ·split at hr
  ·injection hr with hr;injection hr with hr _;subst hr;trivial
  ·cases hr
 ·split at hr
  ·rename_i l' c' k bytes z h1 h2 h3;injection hr with hr;injection hr with hr _;subst hr;have h':Sl P _ _ _=true:=h;simp [Sl,h1,h2,h3] at h';omega
  ·cases hr
 ·split at hr
  ·rename_i c s x t t' e1 e2 e3;simp only [Dw,oT,e1,e2,e3] at h;exact Se h hr
  ·cases hr
 ·injection hr with hr;injection hr with hr _;subst hr;trivial
 ·cases hr
theorem EJ {t:Nat} {x n:V} {p:Prop} {v:V} {s':ak} (h:Sr x n σ=true) (hr:PZ P t x n σ=some (p,v,s')):p:=by
 unfold PZ at hr;split at hr
 ·injection hr with hr;injection hr with hr _;subst hr;trivial
 ·split at hr
  ·rename_i hg;split at hr
   ·injection hr with hr;injection hr with hr _;subst hr;simp only [Sr,hg] at h;intro y hy;have h1:=abF.1 h y hy;unfold qM at h1;split at h1
    ·exact ⟨_,rfl⟩
    ·cases h1
   ·cases hr
  ·cases hr
 ·cases hr
theorem Rx {op:Op} {p:Prop} {v:V} {s':ak} (h:Dw P op g σ=true) (hr:eR P op g σ id=some (p,v,s')):p:=by
 unfold eR at hr;split at hr
 ·exact EI h hr
 ·unfold Tg at hr;split at hr
  ·rename_i r hu;injection hr with hr;subst hr;unfold MY at hu;repeat' split at hu
   all_goals first|(injection hu with hu;injection hu with hu _;subst hu;trivial)|cases hu
  ·exact EC h hr
 ·split at hr
  ·rename_i c s x t t' e1 e2 e3;simp only [Dw,oT,e1,e2,e3] at h;exact Sg h hr
  ·rename_i c d x t t' e1 e2 e3;simp only [Dw,oT,e1,e2,e3] at h;exact EB h hr
  ·rename_i c x n t t' e1 e2 e3;simp only [Dw,oT,e1,e2,e3] at h;exact EJ h hr
  ·rename_i c x t e1 e2 e3;simp only [Dw,oT,e1,e2,e3] at h;unfold Rl at hr;repeat' split at hr
   all_goals first
    | (injection hr with hr;injection hr with hr _;subst hr;trivial)
    | (cases hr;done)
    | (injection hr with hr;injection hr with hr _;subst hr;simp_all;done)
  ·cases hr
 ·simp only [Dw,adV] at h;unfold Sa at hr;repeat' split at hr
  all_goals first|(injection hr with hr;injection hr with hr _;subst hr;trivial)|(cases hr;done)|(simp [Ui,h] at hr;done)
 ·simp only [Dw,adV] at h;unfold R6 at hr;repeat' split at hr
  all_goals first|(injection hr with hr;injection hr with hr _;subst hr;trivial)|(cases hr;done)|(simp [Uh,h] at hr;done)
 ·cases hr
theorem tt {op:Op} {p:Prop} {v:V} {new:ak} (h:Dw P op g σ=true) (hr:bg P op g σ id=some (p,v,new)):p:=by
 unfold bg at hr;split at hr
 ·rename_i h1;injection hr with hr;injection hr with hr _;subst hr;exact O6 h h1
 ·exact J1 h hr
theorem PG {op:Op} {p:Prop} {v:V} {s':ak} (h:Dw P op g σ=true) (hr:dl P op g σ id=some (p,v,s')):p:=by
 unfold dl at hr;split at hr
 ·rename_i h1;injection hr with hr;injection hr with hr _;subst hr;exact tt h h1
 ·exact Rx h hr
end
section
variable {P:Program} {G:Gl} {run:G1} {g:Operand→V} {σ:ak} {id:Nat}
def pF (P:Program) (G:Gl) (run:G1):Prop:=(∀f args σ m r σ',run.call f args σ m=some (r,σ')→ap P G f args σ m r σ') ∧ ∀i args σ id v σ',run.rnd i args σ id=some (v,σ')→pG P G i args σ id v σ'
theorem ul {o:BinOp} {t:Nat} {cst:Bool} {a b:ByteArray} {v:V} (h:MJ o a b=some v) : ∃p,uW P o t cst (.d (.lit (.string a))) (.d (.lit (.string b)))=some (p,v)∧(pU o a b=true→p):=by
 have e1:(⟨⟨a.data.toList++b.data.toList⟩⟩:ByteArray)=a++b:=by
  apply adh;rw [ByteArray.data_append];apply abx.1;simp
 have e2:(a.data.toList==b.data.toList)=(a.toList==b.toList):=by
  rw [ByteArray.toList_eq,ByteArray.toList_eq]
 cases o<;>simp only [MJ,reduceCtorEq,aa5] at h<;>subst h<;>simp only [uW,pu,aa5,abl]
 ·exact ⟨_,⟨rfl,by rw [e1]⟩,fun h=>by simpa [pU] using h⟩
 ·exact ⟨_,⟨rfl,by rw [e2]⟩,fun _=>trivial⟩
 ·exact ⟨_,⟨rfl,by rw [e2]⟩,fun _=>trivial⟩
theorem xR {op:Op} {o:BinOp} {a b:ByteArray} (h:MV op g=some (o,a,b)) : ∃t x y u,op = .binOp o t x y u∧g x = .d (.lit (.string a))∧g y = .d (.lit (.string b)):=by
 unfold MV at h;split at h
 ·split at h
  ·split at h
   ·rename_i o' t x y u _ a' ha _ b' hb;simp only [aa5,abl] at h;obtain ⟨rfl,rfl,rfl⟩:=h;exact ⟨t,x,y,u,rfl,ha,hb⟩
   ·cases h
  ·cases h
 ·cases h
theorem ET {op:Op} {v:V} {new:ak} (h:(match MV op g with
 | some (o,a,b)=>if pU o a b=true then (MJ o a b).map fun v=>(v,([]:ak)) else none
 | none=>if Dw P op g σ=true then (match bg P op g σ id with
  | some r=>some (r.2.1,r.2.2)
  | none=>none) else none)=some (v,new)) : ∃p,bg P op g σ id=some (p,v,new)∧p:=by
 split at h
 ·rename_i o a b ht;obtain ⟨t,x,y,u,rfl,hx,hy⟩:=xR ht;split at h
  ·rename_i hok;simp only [aaZ] at h;obtain ⟨v',hv,e⟩:=h;injection e with e1 e2;subst e1;subst e2;obtain ⟨p,h1,h2⟩:=ul (P:=P) (t:=t) (cst:=e8 x||e8 y) hv;exact ⟨p,by simp only [bg,ce,hx,hy,h1],h2 hok⟩
  ·cases h
 ·split at h
  ·rename_i hok;split at h
   ·rename_i r hr;obtain ⟨p,v',n'⟩:=r;simp only [aa5,abl] at h;obtain ⟨rfl,rfl⟩:=h;exact ⟨p,hr,tt hok hr⟩
   ·cases h
  ·cases h
theorem mJ {op:Op} {v:V} {s:ak} (h:M4 P op g σ id=some (v,s)) : ∃p,dl P op g σ id=some (p,v,s)∧p:=by
 unfold M4 at h;split at h
 ·rename_i o a b ht;obtain ⟨t,x,y,u,rfl,hx,hy⟩:=xR ht;split at h
  ·rename_i hok;simp only [aaZ] at h;obtain ⟨v',hv,e⟩:=h;injection e with e1 e2;subst e1;subst e2;obtain ⟨p,h1,h2⟩:=ul (P:=P) (t:=t) (cst:=e8 x||e8 y) hv;exact ⟨p,by simp only [dl,bg,ce,hx,hy,h1,abb],h2 hok⟩
  ·cases h
 ·split at h
  ·rename_i hok;split at h
   ·rename_i r hr;obtain ⟨p,v',n'⟩:=r;simp only [aa5,abl] at h;obtain ⟨rfl,rfl⟩:=h;exact ⟨p,hr,PG hok hr⟩
   ·cases h
  ·cases h
theorem rZ {k:Nat} {es:List D} {i j:Nat} {x:Nat × Bool} {v:V} {K:V→Prop} (h:Oc k es i j x=some v) (hK:K v):iQ k es i j x K:=by
 unfold Oc at h;split at h
 ·rename_i e he;simp only [aaZ] at h;obtain ⟨y,hy,rfl⟩:=h;refine ⟨(aaX.1 he).1,fun e' he' =>?_⟩;rw [he] at he';injection he' with he';subst he';rw [hy];exact hK
 ·cases h
theorem ki {t:Nat} {a:V} {v:V} {K:V→Prop} (h:BR P t a σ=some v) (hK:K v):fa P t a σ K:=by
 unfold BR at h;split at h
 ·cases h
 ·rename_i x hx;split at h
  ·simp only [BO,hx,cG];exact rZ h hK
  ·split at h
   ·rename_i cs hg;simp only [BQ,hx,cG,hg,rI];rw [h];exact hK
   ·cases h
  ·split at h
   ·rename_i k' es tq hg;split at h
    ·rename_i hk;simp only [BP,hx,cG,hg,I7];exact ⟨hk,rZ h hK⟩
    ·cases h
   ·cases h
  ·cases h
theorem B0 {x:V} {v:V} {s:ak} {K:V→ak→Prop} (h:LF x σ=some (v,s)) (hK:K v s):lT x σ K:=by
 unfold LF at h;split at h
 ·split at h
  ·rename_i s' pos hg;rw [BZ];simp only [cG,hg,sI];split at h<;>rename_i hlt<;>simp only [aa5,abl] at h<;>obtain ⟨rfl,rfl⟩:=h
   ·simp only [abw hlt,rD];exact hK
   ·simp only [abM hlt,ou];exact hK
  ·cases h
 ·cases h
theorem pX {c a b v:V} {K:V→Prop} (h:Gx c a b=some v) (hK:K v):jO c a b K:=by
 unfold Gx at h;split at h
 ·rename_i t;injection h with h;subst h;cases t
  ·exact ⟨(fun e=>by cases e),fun _=>hK⟩
  ·exact ⟨fun _=>hK,(fun e=>by cases e)⟩
 ·cases h
theorem ip {α:Type} {v:V} {al:List V} {k:Nat→List V→Option α} {y:α} (h:qE v al k=some y) : ∃f,k f (kU v al)=some y ∧ ∀(C:Nat→List V→Prop) Y,C f (kU v al)→bC v (fun k caps=>C k (al++caps)) Y (fun k fs=>C k (fs++(al++[]))):=by
 unfold qE at h;split at h
 ·exact ⟨_,h,fun C _ hK=>hK⟩
 ·exact ⟨_,h,fun C _ hK=>hK⟩
 ·exact ⟨_,h,fun C _ hK=>hK⟩
 ·cases h
theorem pJ (ho:pF P G run) {f:Nat} {args:List V} {v:V} {s:ak} {K:V→ak→Prop} (h:wE P run f args σ id=some (v,s)) (hK:K v s):au P G f args σ id K:=by
 unfold wE at h;split at h
 ·rename_i he;split at h
  ·rename_i hl;split at h
   ·rename_i r hr;obtain ⟨r,s'⟩:=r;simp only [aa5,abl] at h;obtain ⟨rfl,rfl⟩:=h;exact au.of _ he (ho.1 _ _ _ _ _ _ hr) hl hK
   ·cases h
  ·cases h
 ·split at h
  ·rename_i he;simp only [aa5,abl] at h;obtain ⟨rfl,rfl⟩:=h;exact ⟨_,_,hK,.inr ⟨he,rfl⟩⟩
  ·cases h
theorem AU (ho:pF P G run) {f:Nat} {args:List V} {v:V} {s:ak} {K:V→ak→Prop} (h:Kj P run f args id=some (v,s)) (hK:K v s):dV P G f args σ id K:=by
 unfold Kj at h;split at h
 ·rename_i he;split at h
  ·rename_i r hr;obtain ⟨r,s'⟩:=r;simp only [aa5,abl] at h;obtain ⟨rfl,rfl⟩:=h;exact dV.of he (ho.1 _ _ _ _ _ _ hr) hK
  ·cases h
 ·split at h
  ·rename_i he;simp only [aa5,abl] at h;obtain ⟨rfl,rfl⟩:=h;exact ⟨_,_,hK,.inr ⟨he,rfl⟩⟩
  ·cases h
theorem qS {op:Op} {r:j3} {p:Prop} {v:V} {s:ak} {K:V→ak→Prop} (h:r=some (p,v,s)) (hp:p) (hK:K v s):fz op r K:=by
 subst h;exact ⟨hp,hK⟩
theorem Re {t n:Nat} {parts:Array (Nat × Operand)} {p:Prop} {v:V} {s:ak} {r2:j3} {K:V→ak→Prop} (h:dl P (.buildSlice t n parts) g σ id=some (p,v,s)) (hp:p) (hK:K v s):Kf (aR P (.buildSlice t n parts) g σ id) r2 σ K:=by
 have h0:ce P (.buildSlice t n parts) g=none:=rfl;have h1:eR P (.buildSlice t n parts) g σ id=none:=rfl;unfold dl bg at h;rw [h0,h1] at h;unfold Kf;cases ha:aR P (.buildSlice t n parts) g σ id with
 | none=>rw [ha] at h;cases h
 | some x=>
  obtain ⟨p',v',n'⟩:=x;rw [ha] at h;simp only [aa5,abl] at h;obtain ⟨rfl,rfl,rfl⟩:=h;exact ⟨hp,hK⟩
theorem kL (ho:pF P G run) {op:Op} {v:V} {s:ak} {K:V→ak→Prop} (h:qf P run op g σ id=some (v,s)) (hK:K v s):aT P G op g σ id K:=by
 unfold qf at h;unfold aT;split at h
 ·simp only [aaZ] at h;obtain ⟨v',hv,e⟩:=h;injection e with e1 e2;subst e1;subst e2;exact pX hv hK
 ·simp only [aaZ] at h;obtain ⟨v',hv,e⟩:=h;injection e with e1 e2;subst e1;subst e2;exact ki hv hK
 ·split at h
  ·rename_i hs;simp only [hs,ab0];exact B0 h hK
  ·cases h
 ·split at h
  ·rename_i hc;simp only [hc];split at h
   ·rename_i i hi;simp only [hi,bC];exact ⟨_,_,hK,ho.2 _ _ _ _ _ _ h⟩
   ·obtain ⟨k,h1,h2⟩:=ip h;exact h2 (fun k al=>au P G k al σ id K) _ (pJ ho h1 hK)
  ·rename_i hc;simp only [hc];obtain ⟨p,h1,h2⟩:=mJ h;exact qS h1 h2 hK
  ·cases h
 ·obtain ⟨p,h1,h2⟩:=mJ h;split
  ·rename_i q1 _ _ _;exact absurd rfl (q1 _ _ _)
  ·rename_i _ q2 _ _;exact absurd rfl (q2 _ _)
  ·rename_i _ _ q3 _;exact absurd rfl (q3 _ _)
  ·rename_i _ _ _ q4;exact absurd rfl (q4 _)
  ·exact Re h1 h2 hK
  ·exact qS h1 h2 hK
theorem jF {op:Op} {v:V} {new:ak} {K:V→ak→Prop} (hv:dD op=false) (h:tp P op g σ id=some (v,new)) (hK:K v new):aZ P G op g σ id K:=by
 unfold tp at h;unfold aZ;split at h
 ·simp only [aaZ] at h;obtain ⟨v',hv,e⟩:=h;injection e with e1 e2;subst e1;subst e2;exact pX hv hK
 ·simp only [aaZ] at h;obtain ⟨v',hv,e⟩:=h;injection e with e1 e2;subst e1;subst e2;exact ki hv hK
 ·rename_i c;split at h
  ·rename_i b hc;simp only [hc];split at h
   ·rename_i hok;split at h
    ·rename_i r hr;obtain ⟨p,v',n'⟩:=r;simp only [aa5,abl] at h;obtain ⟨rfl,rfl⟩:=h;exact qS hr (tt hok hr) hK
    ·cases h
   ·cases h
  ·cases h
 ·obtain ⟨p,h1,h2⟩:=ET h;split
  ·rename_i q1 _ _;exact absurd rfl (q1 _ _ _)
  ·rename_i _ q2 _;exact absurd rfl (q2 _ _)
  ·rename_i _ _ q3;exact absurd rfl (q3 _)
  ·exact qS h1 h2 hK
theorem dC {ops:Array Oper} {o:Oper} {e e':aO} {b:Bool} {yes no:aO→Prop} (h:me ops o e=some (b,e')) (hy:b=true→yes e') (hn:b=false→no e'):cL ops o e yes no:=by
 unfold me at h;unfold cL;split at h
 ·rename_i hg;simp only [aa5,abl] at h;obtain ⟨rfl,rfl⟩:=h;simp only [hg];exact hy rfl
 ·rename_i j want hg;simp only [hg];split at h
  ·cases h
  ·rename_i d hd;simp only [hd,cG];split at h
   ·rename_i b' hb;simp only [aa5,abl] at h;obtain ⟨rfl,rfl⟩:=h;simp only [hb,qq];cases b'<;>cases want<;>simp_all [jT]
   ·rename_i hb;simp only [aa5,abl] at h;obtain ⟨rfl,rfl⟩:=h;simp only [hb,qq];exact hn rfl
   ·cases h
theorem mr (ho:pF P G run) {ops:Array Oper} {base:Nat} : ∀(l:List Oper) (i:Nat) (e:aO) (σ:ak) (e':aO) (σ':ak) (K:aO→ak→Prop),IG P G run ops base i l e σ=some (e',σ')→K e' σ'→nC P G ops base i l e σ K
 | [],i,e,σ,e',σ',K,h,hK=>by
  simp only [IG,aa5,abl] at h;obtain ⟨rfl,rfl⟩:=h;exact hK
 | o::r,i,e,σ,e',σ',K,h,hK=>by
  unfold IG at h;unfold nC;split at h
  ·rename_i e1 hg;refine dC hg (fun _ =>?_) (fun hb=>by cases hb);split at h
   ·rename_i v s1 hs;rw [lP,yL] at h;exact kL ho hs (mr ho r (i+1) _ _ e' σ' K h hK)
   ·cases h
  ·rename_i e1 hg;exact dC hg (fun hb=>by cases hb) (fun _=>mr ho r (i+1) _ _ e' σ' K h hK)
  ·cases h
theorem gi (ho:pF P G run) {lo:List Nat} {ops:Array Oper} {i:Nat} {op:Op} {σp acc:ak} {b:Bool} {v:V} {s:ak} {Kq Ke:V→ak→Prop} (h:pA P run lo ops i op g σp acc id=some (b,v,s)) (hq:b=true→Kq v s) (he:b=false→Ke v s):gR P G lo ops i op g σp acc id Kq Ke:=by
 unfold pA at h;unfold gR;split at h
 ·split at h
  ·rename_i f hf;simp only [hf];split at h
   ·rename_i j hj;simp only [hj,bC];split at h
    ·rename_i hl;simp only [aaZ] at h;obtain ⟨q,hq',e2⟩:=h;injection e2 with e3 e2;subst e2;exact ⟨hl,_,_,he e3.symm,ho.2 _ _ _ _ _ _ hq'⟩
    ·cases h
   obtain ⟨k,h1,h2⟩:=ip h;refine h2 (fun k al=>eW P G lo ops i k al σp acc id Kq Ke) _ ?_;split at h1
   ·simp only [aaZ] at h1;obtain ⟨q,hq',e2⟩:=h1;injection e2 with e3 e2;subst e2;exact .inl (AU ho hq' (hq e3.symm))
   ·split at h1
    ·rename_i hl;simp only [aaZ] at h1;obtain ⟨q,hq',e2⟩:=h1;injection e2 with e3 e2;subst e2;exact .inr ⟨hl,pJ ho hq' (he e3.symm)⟩
    ·cases h1
  ·cases h
 ·cases h
theorem pW (ho:pF P G run) {ops:Array Oper} {base:Nat} : ∀(l:List Oper) (i:Nat) (e:aO) (σp acc:ak) (e':aO) (σ':ak) (K:aO→ak→Prop),ko P G run ops base i l e σp acc=some (e',σ')→K e' σ'→opsL P G [] [] ops base i l e σp acc K
 | [],i,e,σp,acc,e',σ',K,h,hK=>by
  simp only [ko,aa5,abl] at h;obtain ⟨rfl,rfl⟩:=h;exact hK
 | o::r,i,e,σp,acc,e',σ',K,h,hK=>by
  unfold ko at h;unfold opsL;have ih:=fun e1 s1 s2 h=>pW ho (ops:=ops) (base:=base) r (i+1) e1 s1 s2 e' σ' K h hK
  split at h
  ·rename_i e1 hg;refine dC hg (fun _ =>?_) (fun hb=>by cases hb);split at h
   ·rename_i hE;rw [aa3 hE];split at h
    ·rename_i v s1 hs;rw [lP,yL] at h;exact kL ho hs (ih _ _ _ h)
    ·cases h
   ·rename_i hE;rw [aaY hE];split at h
    ·rename_i hV;rw [aa3 hV];split at h
     ·rename_i v new hc;rw [lP] at h;exact gi ho hc (fun _=>ih _ _ _ h) (fun e=>by cases e)
     ·rename_i v s1 hc;rw [lP] at h;exact gi ho hc (fun e=>by cases e) (fun _=>ih _ _ _ h)
     ·cases h
    ·rename_i hV;rw [aaY hV,aaY (by simp)];split at h
     ·rename_i v new hq;rw [lP] at h;exact jF (by simpa using hV) hq (ih _ _ _ h)
     ·cases h
  ·rename_i e1 hg;exact dC hg (fun hb=>by cases hb) (fun _=>ih _ _ _ h)
  ·cases h
theorem D6 (σ:ak) (i j:Nat) (c:bN) (h:j≠i):(σ.set i c).get j=σ.get j:=by
 induction σ with
 | nil=>rfl
 | cons x r ih=>
  obtain ⟨k,b⟩:=x;simp only [ak.set];split
  ·rename_i hk;subst hk;simp only [ak.get];rw [aaY (acx h),aaY (acx h)]
  ·simp only [ak.get,ih]
theorem PE {t:Nat} {a x:V} {σ σ':ak} {p:Prop} {v:V} (h:MI P t a x σ=some (p,v,σ')) : ∃i blk,Ca a=some i∧σ'=σ.set i blk:=by
 unfold MI at h;split at h
 ·split at h
  ·split at h
   ·injection h with h;injection h with _ h;injection h with _ h;exact ⟨_,_,rfl,h.symm⟩
   ·cases h
  ·cases h
 ·split at h
  ·split at h
   ·split at h
    ·injection h with h;injection h with _ h;injection h with _ h;exact ⟨_,_,rfl,h.symm⟩
    ·split at h
     ·injection h with h;injection h with _ h;injection h with _ h;exact ⟨_,_,rfl,h.symm⟩
     ·cases h
   ·cases h
  ·cases h
 ·cases h
theorem Jp {op:Op} {v:V} {σ s σk:ak} (hs:ar σk σ) (hok:CP σk op g=true) (h:qf P run op g σ id=some (v,s)):ar σk s:=by
 unfold CP at hok;split at hok
 ·rename_i t a x;split at hok
  ·rename_i i hi;have hk:σk.get i=none:=by simpa using hok
   have h1:M4 P (.store t a x) g σ id=some (v,s):=h;obtain ⟨p,h2,_⟩:=mJ h1;have h3:MI P t (g a) (g x) σ=some (p,v,s):=h2;obtain ⟨j,blk,e1,rfl⟩:=PE h3;rw [hi] at e1;injection e1 with e1;subst e1;intro k b hb;have hne:k≠i:=fun e=>by subst e;rw [hk] at hb;cases hb
   rw [D6 _ _ _ _ hne];exact hs k b hb
  ·cases hok
 ·cases hok
theorem uq {σk σ acc:ak} (h:ar σk σ):ar σk (σ++acc):=fun i b hb=>by
 rw [b8,h i b hb]
theorem Mn {lo:List Nat} {ops:Array Oper} {i:Nat} {σk σ:ak} {K:Prop} (h:ar σk σ∨ye lo ops i=true) (k:K):zC (Lo lo ops i σk) σ K:=by
 rcases h with h|h
 ·exact zC.of h k
 ·exact zC.late k h
theorem j6 : ∀(ids:List Nat) (σ:ak),ar (N3 ids σ) σ
 | [],σ=>fun _ _ h=>h
 | i::r,σ=>fun j b h=>by
  have:=j6 r (σ.del i) j b h;rw [ak.get_del] at this;split at this
  ·cases this
  ·exact this
theorem Hq {f:Nat} {args:List V} {v:V} {s σk:ak} (hs:ar σk σ) (hok:(fR σ args).all (fun j=>(σk.get j).isNone)=true) (h:wE P run f args σ id=some (v,s)):ar σk s:=by
 unfold wE at h;split at h
 ·split at h
  ·split at h
   ·simp only [aa5,abl] at h;obtain ⟨_,rfl⟩:=h;intro k b hb;have hk:k∉fR σ args:=fun hm=>by
     have:=abF.1 hok k hm;rw [hb] at this;cases this
    rw [b8,sx,aaY hk,hs k b hb]
   ·cases h
  ·cases h
 ·split at h
  ·simp only [aa5,abl] at h;obtain ⟨_,rfl⟩:=h;exact hs
  ·cases h
theorem Kk {lo:List Nat} {ops:Array Oper} {i:Nat} {op:Op} {σp acc σk s:ak} {v:V} (hs:ar σk (σp++acc)) (hok:Um σk (σp++acc) op g=true) (h:pA P run lo ops i op g σp acc id=some (false,v,s)):ar σk s:=by
 unfold Um at hok;simp only [aa8,acb] at hok;obtain ⟨h1,h2⟩:=hok;unfold pA at h;split at h
 ·rename_i c;split at h
  ·rename_i f hf;simp only [FC,Ub,hf] at h1 h2;split at h
   ·rename_i j hj;simp only [hj] at h1;cases h1
   ·obtain ⟨k,h,_⟩:=ip h;split at h
    ·simp only [aaZ] at h;obtain ⟨q,_,e2⟩:=h;injection e2 with e3;cases e3
    ·split at h
     ·simp only [aaZ] at h;obtain ⟨q,hq,e2⟩:=h;injection e2 with _ e2;subst e2;exact Hq hs h2 hq
     ·cases h
  ·cases h
 ·cases h
theorem ku (ho:pF P G run) {lo:List Nat} {σk:ak} {ops:Array Oper} {base:Nat} : ∀(l:List Oper) (i:Nat) (kp:Bool) (e:aO) (σp acc:ak) (e':aO) (σ':ak) (K:aO→ak→Prop),(kp=true→ar σk σp)→kr P G run lo σk ops base i l kp e σp acc=some (e',σ')→K e' σ'→opsL P G lo σk ops base i l e σp acc K
 | [],i,kp,e,σp,acc,e',σ',K,_,h,hK=>by
  simp only [kr,aa5,abl] at h;obtain ⟨rfl,rfl⟩:=h;exact hK
 | o::r,i,kp,e,σp,acc,e',σ',K,hs,h,hK=>by
  unfold kr at h;unfold opsL;have ih:=fun kp e1 s1 s2 hs h=>ku ho (lo:=lo) (σk:=σk) (ops:=ops) (base:=base) r (i+1) kp e1 s1 s2 e' σ' K hs h hK
  split at h
  ·rename_i e1 hg;refine dC hg (fun _ =>?_) (fun hb=>by cases hb);split at h
   ·rename_i hE;rw [aa3 hE];split at h
    ·rename_i hok;split at h
     ·rename_i v s1 hx;rw [lP,yL] at h;have hs1:(kp&&CP σk o.op (eO G e1.get))=true→ar σk s1:=fun hh=>by
       rw [aa8] at hh;exact Jp (uq (hs hh.1)) hh.2 hx
      exact kL ho hx (Mn ((abP _ _▸hok).imp hs1 id) (ih _ _ _ _ hs1 h))
     ·cases h
    ·cases h
   ·rename_i hE;rw [aaY hE];split at h
    ·rename_i hV;rw [aa3 hV];split at h
     ·rename_i v new hc;rw [lP] at h;exact gi ho hc (fun _=>ih _ _ _ _ hs h) (fun e=>by cases e)
     ·rename_i v s1 hc;split at h
      ·rename_i hok;rw [lP] at h;have hs1:(kp&&Um σk (σp++acc) o.op (eO G e1.get))=true→ar σk s1:=fun hh=>by
        rw [aa8] at hh;exact Kk (uq (hs hh.1)) hh.2 hc
       exact gi ho hc (fun e=>by cases e) (fun _=>Mn ((abP _ _▸hok).imp hs1 id) (ih _ _ _ _ hs1 h))
      ·cases h
     ·cases h
    ·rename_i hV;rw [aaY hV];split at h
     ·rename_i hl;rw [aa3 hl];split at h
      ·rename_i v hq;rw [lP] at h;exact jF (by simpa using hV) hq ⟨rfl,ih _ _ _ _ hs h⟩
      ·cases h
     ·rename_i hl;rw [aaY hl];split at h
      ·rename_i v new hq;rw [lP] at h;exact jF (by simpa using hV) hq (ih _ _ _ _ hs h)
      ·cases h
  ·rename_i e1 hg;exact dC hg (fun hb=>by cases hb) (fun _=>ih _ _ _ _ hs h)
  ·cases h
end
end Go.Proofs.YtkkanlcjjpoklaaGreatDoor
set_option linter.unusedVariables false
set_option linter.unusedSimpArgs false
namespace Go.Proofs.YtkkanlcjjpoklaaGreatDoor
theorem oO : ∀(e:aO) (m j:Nat),Nat.testBit m j=false→(keepM m e).get j = .unk
 | [],m,j,_=>by simp [keepM,aO.get]
 | (k,v)::r,m,j,h=>by
  unfold keepM;split
  ·rename_i hk;have hne:k≠j:=by rintro rfl;rw [h] at hk;cases hk
   show (if k=j then v else (keepM _ r).get j) = .unk;rw [aaY hne];exact oO r _ j (by rw [Nat.testBit_xor,h,Nat.testBit_two_pow_of_ne hne];rfl)
  ·exact oO r m j h
theorem oH : ∀(e:aO) (m j:Nat),(keepM m e).get j=e.get j∨(keepM m e).get j = .unk
 | [],m,j=>by simp [keepM]
 | (k,v)::r,m,j=>by
  unfold keepM;split
  ·show (if k=j then v else (keepM _ r).get j)=(if k=j then v else aO.get r j)∨(if k=j then v else (keepM _ r).get j) = .unk;split
   ·exact .inl rfl
   ·exact oH r _ j
  ·rename_i hk;by_cases hj:k=j
   ·subst hj;exact .inr (oO r m k (by simpa using hk))
   ·show _=(if k=j then v else aO.get r j)∨_;rw [aaY hj];exact oH r m j
section
variable {P:Program} {G:Gl} {M:Dt}
theorem ft.keepM {C:uP} {e:aO} {σ:ak} {nx lim:Nat} {a:Act} {w:World} (h:ft C G e σ nx lim a w) (lm:Nat):ft C G (keepM lm e) σ nx lim a w:=by
 obtain ⟨I,β,h1,h2,h3,h4⟩:=h;refine ⟨I,β,h1,h2,fun t =>?_,h4⟩;rcases oH e lm t with h|h
 ·rw [h];exact h3 t
 ·rw [h];trivial
theorem ay.weak {w w':World} {I I':Nat→Prop} {β β':co} {σ σ' σ'':ak} {nx nx':Nat} (h:ay w I β σ nx w' I' β' σ' nx') (he : ∀j b,σ''.get j=some b → ∃c,σ'.get j=some c∧(jS w' I' β' j c→jS w' I' β' j b)):ay w I β σ nx w' I' β' σ'' nx':=
 { h with
  mem:=⟨fun id b hb=>by obtain ⟨c,h1,h2⟩:=he id b hb;exact h2 (h.mem.own id c h1),fun i j b b' k c c' h1 h2=>by
   obtain ⟨x,h3,_⟩:=he _ _ h1;obtain ⟨y,h4,_⟩:=he _ _ h2;exact h.mem.inj i j x y k c c' h3 h4,h.mem.free,h.mem.lt⟩
  own':=fun b ⟨id,blk,c,h1,h2⟩=>by obtain ⟨x,h3,_⟩:=he _ _ h1;exact h.own' b ⟨id,x,c,h3,h2⟩ }
theorem jS.take {w:World} {I:Nat→Prop} {β:co} {id k:Nat} {es:List D} {ty:Option Nat} (m:Nat) (h:jS w I β id (.row k es ty)):jS w I β id (.row k (es.take m) ty):=by
 rcases h with ⟨h1,h2⟩|⟨b,cap,cur,t,h1,h2,h3,h4,h5,h6⟩
 ·exact .inl ⟨h1,by rw [h2];simp⟩
 ·refine .inr ⟨b,cap,cur,t,h1,h2,h3,by simp;omega,h5,fun i e hi=>h6 i e ?_⟩;rw [abW] at hi;split at hi
  ·exact hi
  ·cases hi
theorem Ju (e:aO) (σ0:ak) : ∀(σ:ak) (j:Nat) (b:bN),(qh e σ0 σ).get j=some b → ∃c,σ.get j=some c ∧ ∀(w:World) (I:Nat→Prop) (β:co),jS w I β j c→jS w I β j b:=by
 intro σ;induction σ with
 | nil=>intro j b h;cases h
 | cons x r ih=>
  intro j b h;have key : ∀(i:Nat) (c c':bN),(∀(w:World) (I:Nat→Prop) (β:co),jS w I β i c→jS w I β i c')→ak.get ((i,c')::qh e σ0 r) j=some b → ∃d,ak.get ((i,c)::r) j=some d ∧ ∀(w:World) (I:Nat→Prop) (β:co),jS w I β j d→jS w I β j b:=by
   clear h;intro i c c' hc hq;simp only [ak.get] at hq ⊢;by_cases e:i=j
   ·rw [aa3 e] at hq ⊢;subst e;injection hq with hq;subst hq;exact ⟨c,rfl,hc⟩
   ·rw [aaY e] at hq ⊢;exact ih j b hq
  obtain ⟨i,c⟩:=x;cases c with
  | row k es ty=>
   simp only [qh,F3,Qw] at h;split at h
   ·exact key i _ _ (fun _ _ _ h=>h.take _) h
   ·exact key i _ _ (fun _ _ _ h=>h) h
  | _=>exact key i _ _ (fun _ _ _ h=>h) h
theorem MU (M:Dt) (ops:Array Oper) (m:Nat) (st:St):cH G m st (MT M ops st):=by
 unfold MT;split
 ·split
  ·intro C a w _ hr;obtain ⟨I,β,h1,h2,h3,h4,h5,h6⟩:=hr;have he : ∀j b,(qh st.env st.sg st.sg).get j=some b → ∃c,st.sg.get j=some c∧(jS w I β j c→jS w I β j b):=fun j b hb=>by
    obtain ⟨c,h7,h8⟩:=Ju _ _ _ _ _ hb;exact ⟨c,h7,h8 w I β⟩
   exact ⟨I,β,h1.weak he,h2,h3,h4,h5.sub (fun b ⟨j,bl,c,g1,g2⟩=>by obtain ⟨x,h7,_⟩:=he _ _ g1;exact ⟨j,x,c,h7,g2⟩) (fun b h=> .inl h),h6⟩
  ·exact cH.refl G m st
 ·exact cH.refl G m st
theorem gw (m:Nat) : ∀(n:Nat) (l:List Nat) (st:St),cH G m st (gZ n l st)
 | 0,_,st=>by unfold gZ;exact cH.refl G m st
 | n+1,[],st=>by unfold gZ;exact cH.refl G m st
 | n+1,i::r,st=>by
  unfold gZ;split
  ·exact ((gw m n _ st).trans (cH.frz G m _ i)).trans (gw m n r _)
  ·exact (cH.frz G m _ i).trans (gw m n r _)
  ·exact gw m n r st
abbrev lX (e:Exit) (st:St):Exit→St→Prop:=fun e' s'=>e'=e∧s'=st
theorem AW.le {n m:Nat} {c:Code} {st st':St} {Q:Exit→St→Prop} (hle:cH G m st st') (h:AW P G n m c st' Q):AW P G n m c st Q:=
 fun fr hfr C a w hn hm hr=>h fr hfr C a w hn hm (hle C a w hm hr)
theorem E1 (ho:P.follows .mixedOrders=true) {run:G1} (hrun:pF P G run) {lm:Nat} {id:Nat} {ops:Array Oper} {draw:Bool} {st st':St} {e:Exit} {n m:Nat} (hok:aS n (.region id ops draw)=true) (h:SN P G M run lm ops draw st=some (e,st')):AW P G n m (.region id ops draw) st (lX e st'):=by
 intro fr hfr C a w hn hm hr;simp only [aS] at hok;have hdst : ∀(i:Nat) o x,ops[i]? = some o→o.dst=some x→x<C.n:=fun i o x hi hx=>by rw [hn];exact rY _ hok i o x (by simpa using hi) hx
 have hr':ft C G st.env st.sg (st.nx+4*ops.size) st.nx a w:=ft.bump hr (by omega);unfold SN at h;split at h
 ·rename_i e1 σ1 h1;rw [F3] at h;simp only [aa5,abl] at h;obtain ⟨rfl,rfl⟩:=h;cases draw with
  | false=>
   simp only at h1;refine wpIn_region ?_;have:=jC (P:=P) (G:=G) (C:=C) (fr:=fr) (ops:=ops) (base:=st.nx) (nx:=st.nx+4*ops.size) (Q:=fun e a' w'=> ∃st'',lX .normal ⟨keepM lm e1,σ1,st.nx+4*ops.size⟩ e st''∧qD C G st'' a' w') (aaV _) hdst (K:=fun e σ=>e=e1∧σ=σ1) (fun e σ a w hK hrel=>⟨_,⟨rfl,rfl⟩,by obtain ⟨rfl,rfl⟩:=hK;exact hrel.keepM lm⟩) ops.toList 0 st.env st.sg a w rfl (mr hrun _ _ _ _ _ _ _ h1 ⟨rfl,rfl⟩) (by simpa using hr') (aa1 _);rw [List.range_eq_range'];simpa using this
  | true=>
   simp only at h1;have goD:cI [] ops=true→ko P G run ops st.nx 0 ops.toList st.env st.sg []=some (e1,σ1)→(Code.region id ops true).wpIn (Fr fr) 0 P (fun e a' w'=> ∃st',lX .normal ⟨keepM lm e1,σ1,st.nx+4*ops.size⟩ e st'∧qD C G st' a' w') a w:=fun hd h1=>
    jB (C:=C) ho hd (sP _ _) (nx:=st.nx+4*ops.size) (aaV _) hdst (K:=fun e σ=>e=e1∧σ=σ1) (fun e σ a w hK hrel=>⟨_,⟨rfl,rfl⟩,by obtain ⟨rfl,rfl⟩:=hK;exact hrel.keepM lm⟩) (fun _ _ h=>by cases h) (pW hrun _ _ _ _ _ _ _ _ h1 ⟨rfl,rfl⟩) hr'
   unfold Qt at h1;split at h1
   ·rename_i hd;exact goD hd.1 h1
   ·split at h1
    ·rename_i ids lds oc _;split at h1
     ·rename_i hd;exact goD hd.1 h1
     ·split at h1
      ·rename_i hd;exact jB (C:=C) ho hd.1 hd.2 (nx:=st.nx+4*ops.size) (aaV _) hdst (K:=fun e σ=>e=e1∧σ=σ1) (fun e σ a w hK hrel=>⟨_,⟨rfl,rfl⟩,by obtain ⟨rfl,rfl⟩:=hK;exact hrel.keepM lm⟩) (j6 ids _) (ku hrun _ _ _ _ _ _ _ _ _ (fun _=>j6 ids _) h1 ⟨rfl,rfl⟩) hr'
      ·split at h1
       ·rename_i hd;exact jB (C:=C) ho hd.1 hd.2 (nx:=st.nx+4*ops.size) (aaV _) hdst (K:=fun e σ=>e=e1∧σ=σ1) (fun e σ a w hK hrel=>⟨_,⟨rfl,rfl⟩,by obtain ⟨rfl,rfl⟩:=hK;exact hrel.keepM lm⟩) (j6 _ _) (ku hrun _ _ _ _ _ _ _ _ _ (fun _=>j6 _ _) h1 ⟨rfl,rfl⟩) hr'
       ·cases h1
    ·cases h1
 ·cases h
theorem zz (fr:Option Nat) (k:Nat):(Fr fr).room k:=fun _ h=>by cases h
def AL (P:Program) (G:Gl) (n m:Nat) (c:Code) (st:St) (Q:Exit→St→Prop):Prop:=
 ∀fr,(fr=none∨oS c=true) → ∀(C:uP) a w,C.n=n→C.nx=m→qD C G st a w → ∀(b:Frame) kk cs,b.roundOf=fr → ∃e a' w',(∃st',Q e st'∧qD C G st' a' w')∧ArrivesIn (Machine.fenced P (Fr fr)) P (lone (b.atR a (.code c :: .inLoop c::kk)) cs w) b kk cs e a' w'
theorem AL.aw {n m:Nat} {c:Code} {st:St} {Q:Exit→St→Prop} (h:AL P G n m c st Q):AW P G n m (.loop c) st Q:=fun fr hfr C a w hn hm hr b kk cs hro hb hroom=>by
 obtain ⟨e,a',w',hq,harr⟩:=h fr hfr C a w hn hm hr b kk cs hro;exact ⟨e,a',w',hq,.of_steps (.one (fenced_calm hb hroom rfl) stepR_loop) harr⟩
theorem AL.round {n m:Nat} {c:Code} {st st1:St} {Q:Exit→St→Prop} (h:AW P G n m c st (lX .normal st1)) (k:AL P G n m c st1 Q):AL P G n m c st Q:=fun fr hfr C a w hn hm hr b kk cs hro=>by
 obtain ⟨e,a',w',⟨st',⟨rfl,rfl⟩,hr2⟩,harr⟩:=h fr hfr C a w hn hm hr b (.inLoop c::kk) cs hro trivial (zz fr _);obtain ⟨e2,a2,w2,hq2,harr2⟩:=k fr hfr C a' w' hn hm hr2 b kk cs hro;exact ⟨e2,a2,w2,hq2,.of_steps (StepsIn.trans harr (.one (fenced_calm (n:=0) trivial (zz fr _) rfl) stepR_inLoop)) harr2⟩
theorem AL.out {n m:Nat} {c:Code} {st st1:St} {e1:Exit} (hne:e1 ≠ .normal) (h:AW P G n m c st (lX e1 st1)):AL P G n m c st (lX e1 st1):=fun fr hfr C a w hn hm hr b kk cs hro=>by
 obtain ⟨e,a',w',⟨st',⟨rfl,rfl⟩,hr2⟩,harr⟩:=h fr hfr C a w hn hm hr b (.inLoop c::kk) cs hro trivial (zz fr _);exact ⟨_,a',w',⟨st',⟨rfl,rfl⟩,hr2⟩,.pass (x:= .inLoop c) rfl (fun _ _=> .inl hne) harr⟩
def j1 (P:Program) (G:Gl) (code:eB):Prop:= ∀n lm c st e st',code n lm c st=some (e,st') → ∀m,aS n c=true→AW P G n m c st (lX e st') ∧ ∀c',c = .loop c'→AL P G n m c' st (lX e st')
theorem j1.aw {code:eB} (h:j1 P G code) {lm:Nat} {c:Code} {st st':St} {e:Exit} {n:Nat} (hc:code n lm c st=some (e,st')) (hok:aS n c=true) (m:Nat):AW P G n m c st (lX e st'):=(h n lm c st e st' hc m hok).1
theorem mB {st:St} : ∀(rs:List ResultVar) (vs:List V) (K:List V→Prop),Cq P rs st=some vs→K vs→o7 P rs st K
 | [],vs,K,h,hK=>by simp only [Cq,aa5] at h;subst h;exact hK
 | .tmp t::r,vs,K,h,hK=>by
  simp only [Cq,aaZ] at h;obtain ⟨vs',h1,rfl⟩:=h;exact mB r vs' _ h1 hK
 | .cell a t::r,vs,K,h,hK=>by
  unfold Cq at h;split at h
  ·rename_i v hv;simp only [aaZ] at h;obtain ⟨vs',h1,rfl⟩:=h;exact ki hv (mB r vs' _ h1 hK)
  ·cases h
theorem pN {rs:List ResultVar} {f m:Nat} {st:St} {r:V} {σ':ak} (h:FN P M rs f m st=some (r,σ')):ae P G m rs r σ' st:=by
 unfold FN at h;split at h
 ·cases h
 ·rename_i vs0 _;simp only at h;have hle:cH G m st (if M f=true then st else gZ 50 (sD [] vs0) st):=by
   split
   ·exact cH.refl G m st
   ·exact gw m _ _ _
  revert h hle;generalize (if M f=true then st else gZ 50 (sD [] vs0) st)=st1;intro h hle;split at h
  ·cases h
  ·rename_i vs hvs;split at h
   ·rename_i hl;simp only [aa5,abl] at h;exact aC.via hle (aC.now (mB _ _ _ hvs ⟨_,h.1,by rw [h.2];exact fun _ _ h=>h,hl⟩))
   ·cases h
theorem DY {a b:Value} (h:RC a b=true):a=b:=by
 unfold RC at h;split at h
 ·simp at h;rw [h.1,h.2]
 ·simp at h;rw [h]
 ·rename_i a b;cases a;cases b;simp at h;simp [h]
 ·rfl
 ·rfl
 ·rfl
 ·cases h
mutual
theorem oD : ∀(a b:D),JF a b=true→a=b
 | .lit a,b,h=>by
  cases b<;>simp only [JF,aa9] at h
  rw [DY h]
 | .agg a,b,h=>by
  cases b<;>simp only [JF,aa9] at h
  rw [fe _ _ h]
 | .sd k f a,b,h=>by
  cases b<;>simp only [JF,aa9,aa8,aca] at h
  rw [h.1.1,h.1.2,fe _ _ h.2]
 | .pd k a i j,b,h=>by
  cases b<;>simp only [JF,aa9,aa8,aca] at h
  rw [h.1.1.1,h.1.1.2,h.1.2,fe _ _ h.2]
 | .fn f a,b,h=>by
  cases b<;>simp only [JF,aa9,aa8,aca] at h
  rw [h.1,fe _ _ h.2]
 | .ifc t a,b,h=>by
  cases b<;>simp only [JF,aa9,aa8,aca] at h
  rw [h.1,oD _ _ h.2]
 | .bf f a,b,h=>by
  cases b<;>simp only [JF,aa9,aa8,aca] at h
  rw [h.1,fe _ _ h.2]
 | .ne k,b,h=>by cases b<;>simp only [JF,aa9] at h
theorem fe : ∀(a b:List D),yI a b=true→a=b
 | [],b,h=>by
  cases b<;>simp only [yI,aa9] at h
  rfl
 | x::xs,b,h=>by
  cases b<;>simp only [yI,aa9,aa8] at h
  rw [oD _ _ h.1,fe _ _ h.2]
end
theorem wN : ∀ {a:List V} {b:List D},Tj a b=true→a=b.map V.d
 | [],b,h=>by
  cases b<;>simp only [Tj,aa9] at h
  rfl
 | x::xs,b,h=>by
  cases b with
  | nil=>cases x<;>simp only [Tj,aa9] at h
  | cons y ys=>
   cases x<;>simp only [Tj,aa9,aa8] at h
   rw [oD _ _ h.1,wN h.2];rfl
def bo (P:Program) (G:Gl) (T:xZ):Prop:= ∀x∈T,ap P G x.1 (x.2.1.map V.d) [] 0 x.2.2 []
theorem bo.nil:bo P G []:=fun x h=>by cases h
theorem bo.cons {f:Nat} {az:List D} {r:V} {T:xZ} (h:ap P G f (az.map V.d) [] 0 r []) (k:bo P G T):bo P G ((f,az,r)::T):=fun x hx=>by
 rcases abi.1 hx with rfl|hx
 ·exact h
 ·exact k x hx
theorem oW : ∀ {T:xZ} {f:Nat} {args:List V} {v:V},bo P G T→orc T f args=some v→ap P G f args [] 0 v []
 | [],_,_,_,_,h=>by cases h
 | (g,az,r)::t,f,args,v,hT,h=>by
  have ht:bo P G t:=fun x hx=>hT x (abd _ hx)
  simp only [orc] at h;split at h
  ·rename_i hg;split at h
   ·rename_i ha;injection h with h;have:=hT _ abj;rw [Nat.eq_of_beq_eq_true hg,←wN ha,h] at this;exact this
   ·exact oW ht h
  ·exact oW ht h
theorem EM {f:Nat} {args:List V} {σ:ak} {m:Nat} {v:V} (hT:bo P G M.orc) (h:Sx M f args σ m=some v):ap P G f args σ m v []:=by
 unfold Sx at h;split at h
 ·exact oW hT h
 ·cases h
theorem sw (hT:bo P G M.orc) {code:eB} (h:j1 P G code) : ∀f args σ m r σ',Oy P M code f args σ m=some (r,σ')→ap P G f args σ m r σ':=by
 intro f args σ m r σ' hf;unfold Oy at hf;split at hf
 ·rename_i v hv;injection hf with hf;injection hf with h1 h2;subst h1;subst h2;exact EM hT hv
 split at hf
 ·cases hf
 ·rename_i fn hfn;split at hf
  ·cases hf
  ·rename_i c hc;split at hf
   ·rename_i hok;refine ap.of_aw hfn hc (rs:=fn.results.toList) (by simp) rfl hok.2 ?_;have hle:cH G m ⟨gV 0 args,σ,m⟩ (if M f=true then ⟨gV 0 args,σ,m⟩ else gZ 50 (List.range m) ⟨gV 0 args,σ,m⟩):=by
     split
     ·exact cH.refl G m _
     ·exact gw m _ _ _
    refine AW.le hle ?_;split at hf
    ·rename_i st hst;exact (h.aw hst hok.1 m).mono fun e s ⟨h1,h2⟩=>by subst h1;subst h2;exact pN hf
    ·rename_i st hst;exact (h.aw hst hok.1 m).mono fun e s ⟨h1,h2⟩=>by subst h1;subst h2;exact pN hf
    ·cases hf
   ·cases hf
theorem E3 {ih:eB} (hih:j1 P G ih) : ∀i args σ id v σ',SQ ih i args σ id=some (v,σ')→pG P G i args σ id v σ':=by
 intro i args σ id v σ' h;unfold SQ at h;split at h
 ·rename_i y e hg;split at h
  ·rename_i hc;obtain ⟨c1,c2,c3,c4,c5,c6,c7⟩:=hc;split at h
   ·rename_i st1 h1;split at h
    ·rename_i ex st2 h2;split at h
     ·rename_i j hj;split at h
      ·rename_i hl;simp only [aa5,abl] at h;obtain ⟨rfl,rfl⟩:=h;refine pG.of hg c1 c2 c3 c4 c5 ((hih.aw h1 c6 id).mono ?_);rintro ex1 st3 ⟨rfl,rfl⟩;refine (hih.aw h2 c7 id).mono ?_;rintro ex2 st4 ⟨rfl,rfl⟩;have fin:JU G σ id i y e j (.d (.lit (.bool j.isNone))) ((i,.rc y j e)::st4.sg.sel (mF σ id (Oz id (fR st4.sg ((σ.filter fun p=>decide (p.1<id)).map fun p=> .po p.1 0))))) st4:=⟨rfl,aC.now ⟨_,hl,fun _ _ h=>h⟩⟩
       cases ex2<;>simp only [aa5,reduceCtorEq] at hj<;>subst hj<;>exact fin
      ·cases h
     ·cases h
    ·cases h
   ·cases h
  ·cases h
 ·cases h
theorem rH {α:Type} {v:V} {k:Nat→List V→Option α} {y:α} (h:yj v k=some y) : ∃f caps,k f caps=some y ∧ ∀w I β x,aL w I β v x → ∃cv:List Value,x = .func (.func f) #[] cv.toArray∧cU w I β caps cv:=by
 unfold yj at h;split at h
 ·exact ⟨_,_,h,fun w I β x hd=>Kl hd⟩
 ·exact ⟨_,_,h,fun w I β x hd=>wG hd⟩
 ·cases h
theorem E4 {ih:eB} (hih:j1 P G ih) {n m:Nat} {g:Operand} {ps:Array Nat} {asg body:Code} {st st':St} {e:Exit} {k:Nat} {caps:List V} (hg : ∀w I β x,aL w I β (eO G st.env.get g) x → ∃cv:List Value,x = .func (.func k) #[] cv.toArray∧cU w I β caps cv)
 (h:SR P ih n ps asg body st k caps=some (e,st')):AW P G n m (.rangeFunc g ps asg body) st (lX e st'):=by
 unfold SR at h;split at h
 ·cases h
 ·rename_i fn hf;split at h
  ·cases h
  ·rename_i c hb;split at h
   ·rename_i hc;obtain ⟨c1,c2,c3,c4⟩:=hc;have hrs:fn.results = #[]:=by
     apply abx.1;simpa using c2
    have fin : ∀st1,O1 st st1=some (e,st')→Nz G st (lX e st') st1:=by
     intro st1 ho;unfold O1 at ho;split at ho
     ·rename_i y' e' hx;simp only [aa5,abl] at ho;exact aC.now ⟨_,_,_,hx,ho.1,ho.2⟩
     ·rename_i y' e' hx;simp only [aa5,abl] at ho;exact aC.now ⟨_,_,_,hx,ho.1,ho.2⟩
     ·rename_i y' q e' hx;simp only [aa5,abl] at ho;exact aC.now ⟨_,_,_,hx,ho.1,ho.2⟩
     ·cases ho
    split at h
    ·rename_i st1 h1;refine tz hg c1 hf hb hrs c3 ((hih.aw h1 c4 (st.nx+1)).mono ?_);rintro ex st2 ⟨rfl,rfl⟩;exact fin _ h
    ·rename_i st1 h1;refine tz hg c1 hf hb hrs c3 ((hih.aw h1 c4 (st.nx+1)).mono ?_);rintro ex st2 ⟨rfl,rfl⟩;exact fin _ h
    ·cases h
   ·cases h
theorem AS (ho:P.follows .mixedOrders=true) (hT:bo P G M.orc) {ih:eB} (hih:j1 P G ih):j1 P G (J8 P G M ih):=by
 intro n lm c st e st' h m hok;have key : ∀ {c:Code},(∀c',c ≠ .loop c')→AW P G n m c st (lX e st')→AW P G n m c st (lX e st') ∧ ∀c',c = .loop c'→AL P G n m c' st (lX e st'):=fun hne h=>⟨h,fun c' e=>absurd e (hne c')⟩
 unfold J8 at h;split at h
 ·simp only [aa5,abl] at h;obtain ⟨rfl,rfl⟩:=h;exact key (fun _=>by simp) (fun _ _ C a w _ _ hr=>wpIn_skip ⟨st,⟨rfl,rfl⟩,hr⟩)
 ·exact key (fun _=>by simp) ((E1 ho ⟨sw hT hih,E3 hih⟩ hok h).le ((gw m _ _ _).trans (MU M _ m _)))
 ·rename_i x y;refine key (fun _=>by simp) ?_;simp only [aS,aa8] at hok;split at h
  ·rename_i st1 h1;intro fr hfr C a w hn hm hr;refine wpIn_seq (wpIn_mono (hih.aw h1 hok.1 m fr (hfr.imp id (fun h=>(by simpa only [oS,aa8] using h:_∧_).1)) C a w hn hm hr) ?_);rintro e2 a' w' ⟨st2,⟨rfl,rfl⟩,hr'⟩;exact hih.aw h hok.2 m fr (hfr.imp id (fun h=>(by simpa only [oS,aa8] using h:_∧_).2)) C a' w' hn hm hr'
  ·rename_i hne;intro fr hfr C a w hn hm hr;refine wpIn_seq (wpIn_mono (hih.aw h hok.1 m fr (hfr.imp id (fun h=>(by simpa only [oS,aa8] using h:_∧_).1)) C a w hn hm hr) ?_);rintro e2 a' w' ⟨st2,⟨rfl,rfl⟩,hr'⟩;cases e2 with
   | normal=>exact absurd h (hne st2)
   | _=>exact ⟨st2,⟨rfl,rfl⟩,hr'⟩
 ·rename_i cc x y;refine key (fun _=>by simp) ?_;simp only [aS,aa8] at hok;have hd : ∀ {C:uP} {a:Act} {w:World} {b:Bool},qD C G st a w→eO G st.env.get cc = .d (.lit (.bool b))→a.eval cc = .bool b:=by
   intro C a w b hr hb;obtain ⟨I,β,h1,h2,h3,h4,h5,h6⟩:=id hr;have hd:=qH (e:=st.env) (a:=a) h3 h6 cc;rw [hb] at hd;exact aA hd
  split at h
  ·rename_i hb;intro fr hfr C a w hn hm hr;exact wpIn_cond_true (hd hr hb) (hih.aw h hok.1 m fr (hfr.imp id (fun h=>(by simpa only [oS,aa8] using h:_∧_).1)) C a w hn hm hr)
  ·rename_i hb;intro fr hfr C a w hn hm hr;exact wpIn_cond_false (hd hr hb) (hih.aw h hok.2 m fr (hfr.imp id (fun h=>(by simpa only [oS,aa8] using h:_∧_).2)) C a w hn hm hr)
  ·cases h
 ·rename_i id x;refine key (fun _=>by simp) ?_;simp only [aS] at hok;split at h
  ·rename_i i st1 h1;intro fr hfr C a w hn hm hr;refine wpIn_block (wpIn_mono (hih.aw h1 hok m fr hfr C a w hn hm hr) ?_);rintro e2 a' w' ⟨st2,⟨rfl,rfl⟩,hr'⟩;simp only [Exit.inBlock];split at h<;>rename_i hi<;>simp only [aa5,abl] at h<;>obtain ⟨rfl,rfl⟩:=h
   ·rw [aa3 hi];exact ⟨_,⟨rfl,rfl⟩,hr'⟩
   ·rw [aaY hi];exact ⟨_,⟨rfl,rfl⟩,hr'⟩
  ·rename_i hne;intro fr hfr C a w hn hm hr;refine wpIn_block (wpIn_mono (hih.aw h hok m fr hfr C a w hn hm hr) ?_);rintro e2 a' w' ⟨st2,⟨rfl,rfl⟩,hr'⟩;cases e2 with
   | exit i=>exact absurd h (hne i st2)
   | _=>exact ⟨st2,⟨rfl,rfl⟩,hr'⟩
 ·rename_i x;have hok':aS n x=true:=hok;have hal:AL P G n m x st (lX e st'):=by
   split at h
   ·rename_i st1 h1;exact AL.round (hih.aw h1 hok' m) ((hih n lm _ st1 e st' h m hok).2 x rfl)
   ·rename_i hne;exact AL.out (fun he=>by subst he;exact hne st' h) (hih.aw h hok' m)
  exact ⟨hal.aw,fun c' e=>by injection e with e;subst e;exact hal⟩
 ·simp only [aa5,abl] at h;obtain ⟨rfl,rfl⟩:=h;exact key (fun _=>by simp) (fun _ _ C a w _ _ hr=>wpIn_exit ⟨st,⟨rfl,rfl⟩,hr⟩)
 ·simp only [aa5,abl] at h;obtain ⟨rfl,rfl⟩:=h;exact key (fun _=>by simp) (fun _ _ C a w _ _ hr=>wpIn_ret ⟨st,⟨rfl,rfl⟩,hr⟩)
 ·simp only [aa5,abl] at h;obtain ⟨rfl,rfl⟩:=h;exact key (fun _=>by simp) (fun _ _ C a w _ _ hr=>wpIn_label ⟨st,⟨rfl,rfl⟩,hr⟩)
 ·rename_i g ps a c;refine key (fun _=>by simp) ?_;obtain ⟨k,caps,h1,h2⟩:=rH h;exact E4 hih h2 h1
 ·rename_i x;refine key (fun _=>by simp) ?_;simp only [aS] at hok;split at h
  ·cases h
  ·rename_i hne;intro fr hfr C a w hn hm hr;refine fT (wpIn_mono (hih.aw h hok m fr hfr C a w hn hm hr) ?_);rintro e2 a' w' ⟨st2,⟨rfl,rfl⟩,hr'⟩;cases e2 with
   | goto l=>exact absurd h (hne l st2)
   | _=>exact ⟨st2,⟨rfl,rfl⟩,hr'⟩
 ·cases h
theorem pM (ho:P.follows .mixedOrders=true) (hT:bo P G M.orc) : ∀n,j1 P G (Kr P G M n)
 | 0=>fun _ _ _ _ _ _ h=>by cases h
 | n+1=>AS ho hT (pM ho hT n)
theorem tC (ho:P.follows .mixedOrders=true) (hT:bo P G M.orc) (n:Nat) : ∀f args σ m r σ',Mk P G M n f args σ m=some (r,σ')→ap P G f args σ m r σ':=sw hT (pM ho hT n)
end
end Go.Proofs.YtkkanlcjjpoklaaGreatDoor
set_option linter.unusedSimpArgs false
set_option linter.unusedVariables false
set_option maxRecDepth 8000
namespace Go.Proofs.YtkkanlcjjpoklaaGreatDoor
abbrev aB:D:= .lit (.slice none 0 0)
abbrev iD (n:Int):D:= .lit (.int .i64 n)
abbrev dm (r:Int):D:= .lit (.int .i32 r)
abbrev M0:Nat→Bool:=fun _=>false
theorem wY (G:Gl) (M:Nat→Bool) (n:Nat) {f:Nat} {args:List V} {v:V} (h:Mk Tryz.prog G ⟨M,false,[]⟩ n f args [] 0=some (v,[])):ap Tryz.prog G f args [] 0 v []:=tC ab bo.nil n f args [] 0 _ _ h
theorem g9 {G:Gl} (M:Nat→Bool) {T:xZ} (hT:bo Tryz.prog G T) (n:Nat) {f:Nat} {args:List V} {v:V} (h:Mk Tryz.prog G ⟨M,true,T⟩ n f args [] 0=some (v,[])):ap Tryz.prog G f args [] 0 v []:=tC ab hT n f args [] 0 _ _ h
def MB:Nat→Bool:=fun k=>Nat.testBit 14615733561351007526297951578888938829512932094920907590725980377571682228763262116808301215744 k
inductive Pz where
 | tx (k a:Int) (rs:List Int)
 | fo (a:Int)
def iA:Pz→D
 | .tx k a rs=> .agg [iD k,iD a,.sd 1 false (rs.map dm)]
 | .fo a=> .agg [iD 3,iD a,aB]
attribute [push_cast] iA.eq_1 iA.eq_2
abbrev zp (l:List Pz):bN:= .row 3 (l.map iA)
theorem jH (es:List Pz) (x:Pz):es.map iA++[iA x]=(es++[x]).map iA:=by rw [abc];rfl
end Go.Proofs.YtkkanlcjjpoklaaGreatDoor
