/- Part of the proof of one statement of this seat: an abstract machine for the program, its contracts, and the statement (no condition of our own). -/
import GoSem.Dispatch
import Derived.Below
import Derived.Calls
import Derived.Laws.StructEq
import Derived.Laws.Entries
import Derived.Laws.World
import Derived.Laws.Tables
set_option linter.unusedSimpArgs false
set_option linter.unusedVariables false
section
namespace Go.Abs
structure Fl where
 fr:Bool
 nil:Option Bool
 tight:Bool
inductive RT where
 | box (t:TypeId)
 | row (t:TypeId)
 | rop (t:TypeId)
 deriving DecidableEq
inductive AV where
 | undef
 | int (k:IntKind) (n:Int)
 | bool (b:Bool)
 | str (s:ByteArray)
 | sl (t:TypeId) (fl:Fl) (es:List AV)
 | ro (fr:Bool) (t:TypeId) (x:AV)
 | pnil
 | fnil
 | fn (f:FuncId) (caps:List AV)
 | own (o:Nat) (t:TypeId) (off n:Nat)
 | ptr (o:Nat) (r:RT) (p:List Nat)
 | st (t:TypeId) (fs:List AV)
 | ar (t:TypeId) (es:List AV)
 | tup (vs:List AV)
 | mp (t:TypeId) (ks:List AV) (fs:List FuncId)
inductive TK where
 | int (k:IntKind)
 | bool
 | str
 | slice (e:TypeId)
 | struct (fs:List TypeId)
 | array (n:Nat) (e:TypeId)
 | ptr (e:TypeId)
 | func
 | map (k e:TypeId)
structure TyD where
 k:TK
 size:Nat
 bytes:Nat
 zero:AV
abbrev Tys:=TypeId→Option TyD
structure Obj where
 r:RT
 fr:Bool
 es:List AV
structure St where
 tm:List (Nat × AV)
 ob:List (Nat × Obj)
def aget {α:Type} (t:Nat):List (Nat × α)→Option α
 | []=>none
 | (u,v)::r=>if u=t then some v else aget t r
def adel {α:Type} (t:Nat):List (Nat × α)→List (Nat × α)
 | []=>[]
 | (u,v)::r=>if u=t then adel t r else (u,v)::adel t r
def aput {α:Type} (t:Nat) (v:α) (l:List (Nat × α)):List (Nat × α):=(t,v)::adel t l
def ofVal:Value→Option AV
 | .int k n=>some (.int k n)
 | .bool b=>some (.bool b)
 | .string s=>some (.str s)
 | .slice none 0 0=>some (.sl 0 ⟨true,some true,true⟩ [])
 | .pointer none=>some .pnil
 | .nilFunc=>some .fnil
 | _=>none
abbrev Globs:=Nat→Option (TypeId × AV)
def ment (d:Nat):AV→Bool
 | .own o _ _ _=>o==d
 | .ptr o _ _=>o==d
 | .fn _ cs=>mentL d cs
 | .st _ fs=>mentL d fs
 | .tup vs=>mentL d vs
 | _=>false
where mentL (d:Nat):List AV→Bool
 | []=>false
 | x::r=>ment d x || mentL d r
def closed:AV→Bool
 | .own ..=>false
 | .ptr ..=>false
 | .undef=>false
 | .fn _ cs=>cs.isEmpty
 | .st _ fs=>closedL fs
 | .tup _=>false
 | _=>true
where closedL:List AV→Bool
 | []=>true
 | x::r=>closed x&&closedL r
def fresh:AV→Bool
 | .sl _ fl _=>fl.fr
 | .ro fr _ _=>fr
 | .mp _ ks _=>ks.isEmpty
 | .st _ fs=>freshL fs
 | _=>true
where freshL:List AV→Bool
 | []=>true
 | x::r=>fresh x&&freshL r
def reflag (fr:Bool):AV→AV
 | .sl t fl es=> .sl t ⟨fr,fl.nil,fl.tight⟩ es
 | .ro _ t x=> .ro fr t x
 | .st t fs=> .st t (reflagL fr fs)
 | .fn f cs=>if cs.isEmpty then .fn f cs else .undef
 | x=>x
where reflagL (fr:Bool):List AV→List AV
 | []=>[]
 | x::r=>reflag fr x::reflagL fr r
def solid:AV→Bool
 | .undef=>false
 | .st _ fs=>solidL fs
 | .tup _=>false
 | _=>true
where solidL:List AV→Bool
 | []=>true
 | x::r=>solid x&&solidL r
def flat:AV→Bool
 | .int ..=>true
 | .bool _=>true
 | .str _=>true
 | .st _ fs=>flatL fs
 | _=>false
where flatL:List AV→Bool
 | []=>true
 | x::r=>flat x&&flatL r
def tree:AV→List Nat→Option AV
 | x,[]=>some x
 | .st _ fs,i::p=>match fs[i]? with | some y=>tree y p | none=>none
 | .ar _ es,i::p=>match es[i]? with | some y=>tree y p | none=>none
 | _,_::_=>none
def plant:AV→List Nat→AV→Option AV
 | _,[],v=>some v
 | .st t fs,i::p,v=>match fs[i]? with
   | some y=>match plant y p v with | some z=>some (.st t (fs.set i z)) | none=>none
   | none=>none
 | .ar t es,i::p,v=>match es[i]? with
   | some y=>match plant y p v with | some z=>some (.ar t (es.set i z)) | none=>none
   | none=>none
 | _,_::_,_=>none
def inArray:AV→List Nat→Bool
 | _,[]=>false
 | .st _ fs,i::p=>match fs[i]? with | some y=>inArray y p | none=>false
 | _,_::_=>true
def tyAt (ty:Tys):TypeId→List Nat→Option TypeId
 | t,[]=>some t
 | t,i::p=>match ty t with
   | some ⟨.struct fs,_,_,_⟩=>match fs[i]? with | some u=>tyAt ty u p | none=>none
   | some ⟨.array _ e,_,_,_⟩=>tyAt ty e p
   | _=>none
def RT.tyAt (ty:Tys):RT→List Nat→Option TypeId
 | .box t,p=>Abs.tyAt ty t p
 | .row t,_::p=>Abs.tyAt ty t p
 | .row _,[]=>none
 | .rop t,_::p=>Abs.tyAt ty t p
 | .rop _,[]=>none
def Obj.seen (b:Obj) (v:AV):AV:=match b.r with | .box _=>v | .row _=>reflag b.fr v | .rop _=>v
def Obj.tree (b:Obj) (p:List Nat):Option AV:=
 match b.r,p with
 | .box _,p=>match b.es with | [x]=>Abs.tree x p | _=>none
 | .row _,i::p=>match b.es[i]? with | some x=>Abs.tree x p | none=>none
 | .row _,[]=>none
 | .rop _,i::p=>match b.es[i]? with | some x=>Abs.tree x p | none=>none
 | .rop _,[]=>none
def Obj.plant (b:Obj) (p:List Nat) (v:AV):Option Obj:=
 match b.r,p with
 | .box _,p=>match b.es with
   | [x]=>if inArray x p&& !flat v then none else match Abs.plant x p v with | some z=>some ⟨b.r,b.fr&&fresh v,[z]⟩ | none=>none
   | _=>none
 | .row _,i::p=>if closed v then (match b.es[i]? with
   | some x=>if inArray x p&& !flat v then none else (match Abs.plant x p v with | some z=>some ⟨b.r,b.fr&&fresh v,b.es.set i z⟩ | none=>none)
   | none=>none) else none
 | .row _,[]=>none
 | .rop _,_=>none
def isLeaf:TK→Bool
 | .struct _=>false
 | .array _ _=>false
 | _=>true
def leafV:AV→Bool
 | .st ..=>false
 | .ar ..=>false
 | .tup _=>false
 | _=>true
def fits (ty:Tys) (t:TypeId):AV→Bool
 | .st u _=>u==t
 | .ar u _=>u==t
 | .tup _=>false
 | .undef=>false
 | _=>match ty t with | some d=>isLeaf d.k | none=>false
def bits2 (op:BinOp) (k:IntKind) (x y:Int):Int:=
 let a:=BitVec.ofInt k.bits x
 let b:=BitVec.ofInt k.bits y
 k.wrap (match op with
  | .and=>a &&& b
  | .or=>a ||| b
  | .xor=>a ^^^ b
  | _=>a &&& ~~~b).toNat
def shl2 (k:IntKind) (x y:Int):Int:=k.wrap (x * 2 ^ (min y.toNat k.bits))
def shr2 (k:IntKind) (x y:Int):Int:=x.fdiv (2 ^ (min y.toNat k.bits))
def b2 (op:BinOp) (k:IntKind) (a b:Int):Option AV:=
 match op with
 | .add=>some (.int k (k.wrap (a+b)))
 | .sub=>some (.int k (k.wrap (a - b)))
 | .mul=>some (.int k (k.wrap (a * b)))
 | .quo=>if b=0 then none else some (.int k (k.wrap (a.tdiv b)))
 | .rem=>if b=0 then none else some (.int k (a.tmod b))
 | .and=>some (.int k (bits2 .and k a b))
 | .or=>some (.int k (bits2 .or k a b))
 | .xor=>some (.int k (bits2 .xor k a b))
 | .andNot=>some (.int k (bits2 .andNot k a b))
 | .eql=>some (.bool (a==b))
 | .neq=>some (.bool (!(a==b)))
 | .lss=>some (.bool (decide (a < b)))
 | .leq=>some (.bool (decide (a≤b)))
 | .gtr=>some (.bool (decide (b < a)))
 | .geq=>some (.bool (decide (b≤a)))
 | _=>none
def isBool (ty:Tys) (t:TypeId):Bool:=match ty t with | some ⟨.bool,_,_,_⟩=>true | _=>false
def isSlice (ty:Tys) (t:TypeId):Bool:=match ty t with | some ⟨.slice _,_,_,_⟩=>true | _=>false
def obind {α β:Type} (x:Option α) (f:α→Option β):Option β:=match x with | some a=>f a | none=>none
theorem obind_some {α β:Type} (a:α) (f:α→Option β):obind (some a) f=f a:=rfl
theorem obind_none {α β:Type} (f:α→Option β):obind (none:Option α) f=none:=rfl
def eqL (ty:Tys) (u:TypeId):AV→AV→Option Bool
 | .int k a,.int k' b=>match ty u with | some ⟨.int _,_,_,_⟩=>if k=k' then some (a==b) else none | _=>none
 | .bool a,.bool b=>if isBool ty u=true then some (a==b) else none
 | .str a,.str b=>match ty u with | some ⟨.str,_,_,_⟩=>some (a.toList==b.toList) | _=>none
 | _,_=>none
def eqFs (ty:Tys):List TypeId→List AV→List AV→Option Bool
 | [],[],[]=>some true
 | u::ts,x::r,y::s=>obind (eqL ty u x y) fun b=>obind (eqFs ty ts r s) fun c=>some (b&&c)
 | _,_,_=>none
def eqSt (ty:Tys) (t t1:TypeId) (fs:List AV) (t2:TypeId) (gs:List AV):Option Bool:=
 if t1=t∧t2=t then (match ty t with | some ⟨.struct ts,_,_,_⟩=>eqFs ty ts fs gs | _=>none) else none
def eqRes (op:BinOp) (b:Bool):Option AV:=match op with | .eql=>some (.bool b) | .neq=>some (.bool (!b)) | _=>none
def keyL (ty:Tys) (u:TypeId):AV→AV→Option Bool
 | .int k a,.int k' b=>match ty u with | some ⟨.int q,_,_,_⟩=>if k=q∧k'=q then some (a==b) else none | _=>none
 | .bool a,.bool b=>if isBool ty u=true then some (a==b) else none
 | _,_=>none
def keyFs (ty:Tys):List TypeId→List AV→List AV→Option Bool
 | [],[],[]=>some true
 | u::ts,x::r,y::s=>obind (keyL ty u x y) fun b=>obind (keyFs ty ts r s) fun c=>some (b&&c)
 | _,_,_=>none
def keyEq (ty:Tys) (u:TypeId):AV→AV→Option Bool
 | .st t1 fs,.st t2 gs=>if t1=u∧t2=u then (match ty u with | some ⟨.struct ts,_,_,_⟩=>keyFs ty ts fs gs | _=>none) else none
 | x,y=>match ty u with | some ⟨.int _,_,_,_⟩=>keyL ty u x y | _=>none
def mpGet (ty:Tys) (u:TypeId) (k:AV):List AV→List FuncId→Option (Option FuncId)
 | [],_=>some none
 | x::ks,f::fs=>obind (keyEq ty u k x) fun b=>obind (mpGet ty u k ks fs) fun r=>some (if b=true then some f else r)
 | _,_=>none
def mpV:Option FuncId→AV
 | some f=> .fn f []
 | none=> .fnil
def mpRes (ok:Bool) (r:Option FuncId):AV:=if ok=true then .tup [mpV r,.bool r.isSome] else mpV r
def lkp (ty:Tys) (t:TypeId) (ok:Bool) (k:AV):AV→Option AV
 | .mp u (k0::ks) fs=>if u=t then (match ty t with
   | some ⟨.map kt et,_,_,_⟩=>(match ty et with
     | some ⟨.func,_,_,.fnil⟩=>obind (mpGet ty kt k (k0::ks) fs) fun r=>some (mpRes ok r)
     | _=>none)
   | _=>none) else none
 | _=>none
def bin (ty:Tys) (t:TypeId) (op:BinOp):AV→AV→Option AV
 | .int k a,.int k' b=>match op with
   | .shl=>if b < 0 then none else some (.int k (shl2 k a b))
   | .shr=>if b < 0 then none else some (.int k (shr2 k a b))
   | op=>if k=k' then b2 op k a b else none
 | .bool a,.bool b=>if isBool ty t=true then (match op with | .eql=>some (.bool (a==b)) | .neq=>some (.bool (!(a==b))) | _=>none) else none
 | .str a,.str b=>match op with
   | .eql=>some (.bool (a.toList==b.toList))
   | .neq=>some (.bool (!(a.toList==b.toList)))
   | .add=>if a.size+b.size≤4611686018427387904 then some (.str (a++b)) else none
   | _=>none
 | .sl _ fl _,.sl 0 ⟨_,some true,_⟩ []=>match fl.nil with
   | some b=>if isSlice ty t=true then (match op with | .eql=>some (.bool b) | .neq=>some (.bool (!b)) | _=>none) else none
   | none=>none
 | .st t1 fs,.st t2 gs=>obind (eqSt ty t t1 fs t2 gs) (eqRes op)
 | _,_=>none
def una (op:UnOp):AV→Option AV
 | .bool b=>match op with | .not=>some (.bool (!b)) | _=>none
 | .int k n=>match op with | .neg=>some (.int k (k.wrap (-n))) | .xor=>some (.int k (bits2 .xor k (if k.signed then -1 else k.max) n)) | _=>none
 | _=>none
structure DH where
 del:List Nat
 wr:List Nat
 nom:List Nat
def dh0:DH:=⟨[],[],[]⟩
structure Env where
 ty:Tys
 G:Globs
 n:Nat
 K:Nat
 C:FuncId→List AV→Option AV
 D:Nat→Option (List DH × List Nat)
 okA:Nat→Prop:=fun _=>True
 lo:Option Nat:=none
 lent:Nat→Prop:=fun _=>False
 W:FuncId→Bool:=fun _=>false
 M:FuncId→List AV→List (Nat × Obj)→Option (AV × List (Nat × Obj)):=fun _ _ _=>none
 Q:FuncId→Bool:=fun _=>false
 Z:Nat→List Nat:=fun _=>[]
def St.val (G:Globs) (σ:St):Operand→Option AV
 | .tmp t=>aget t σ.tm
 | .const v=>ofVal v
 | .func f=>some (.fn f [])
 | .global g=>match G g with | some x=>some (.ro false x.1 x.2) | none=>none
def mkParts (G:Globs) (σ:St):List (Nat × Operand)→Option (List (Nat × AV))
 | []=>some []
 | (i,x)::r=>obind (σ.val G x) fun v=>obind (mkParts G σ r) fun l=>some ((i,v)::l)
def fillSt (ty:Tys) (ts:List TypeId) (fs:List AV):List (Nat × AV)→Option (List AV)
 | []=>some fs
 | (i,v)::r=>match ts[i]? with
   | some t=>if fits ty t v then fillSt ty ts (fs.set i v) r else none
   | none=>none
def fillAr (ty:Tys) (t:TypeId) (n:Nat) (okE:AV→Bool) (fs:List AV):List (Nat × AV)→Option (List AV)
 | []=>some fs
 | (i,v)::r=>if i < n∧fits ty t v=true∧okE v=true then fillAr ty t n okE (fs.set i v) r else none
def vals (G:Globs) (σ:St):List Operand→Option (List AV)
 | []=>some []
 | x::r=>obind (σ.val G x) fun v=>obind (vals G σ r) fun l=>some (v::l)
def expo (ty:Tys) (ob:List (Nat × Obj)):Nat→AV→Option AV
 | 0,_=>none
 | _+1,.own o t i n=>match aget o ob with
   | some ⟨.row u,_,es⟩=>if t=u∧i+n≤es.length then some (.sl t ⟨false,none,false⟩ (if i=0∧n=es.length then es else (es.drop i).take n)) else none
   | _=>none
 | k+1,.ptr o r p=>match aget o ob with
   | some b=>if b.r=r then (match b.tree p with
     | some x=>match r.tyAt ty p with | some u=>obind (expo ty ob k x) fun y=>some (.ro false u y) | none=>none
     | none=>none) else none
   | none=>none
 | k+1,.st t fs=>obind (expoL ty ob k fs) fun gs=>some (.st t gs)
 | k+1,.fn f cs=>obind (expoL ty ob k cs) fun ds=>some (.fn f ds)
 | _,.sl t fl es=>some (.sl t ⟨false,none,false⟩ es)
 | _,.ro _ t x=>some (.ro false t x)
 | _,.tup _=>none
 | _,.undef=>none
 | _,x=>some x
where expoL (ty:Tys) (ob:List (Nat × Obj)):Nat→List AV→Option (List AV)
 | 0,_=>none
 | _,[]=>some []
 | k+1,x::r=>obind (expo ty ob k x) fun y=>obind (expoL ty ob k r) fun l=>some (y::l)
def St.free (σ:St) (d:Nat):Bool:=freeT d σ.tm&&freeO d σ.ob
where
 freeT (d:Nat):List (Nat × AV)→Bool
  | []=>true
  | (_,x)::r=> !ment d x&&freeT d r
 freeO (d:Nat):List (Nat × Obj)→Bool
  | []=>true
  | (o,b)::r=>(o==d || !ment.mentL d (match b.r with | .box _=>b.es | .row _=>[] | .rop _=>b.es))&&freeO d r
def anyV (_:AV):Bool:=true
def isPtrT (ty:Tys) (e:TypeId):Bool:=match ty e with | some ⟨.ptr _,_,_,_⟩=>true | _=>false
def rtOf (ty:Tys) (e:TypeId):RT:=if isPtrT ty e=true then .rop e else .row e
def litAll {α:Type} (x:α):Nat→List α
 | 0=>[]
 | n+1=>x::litAll x n
def roomy (n bytes:Nat):Bool:=decide (n * bytes≤140737488355328)
def isStr (ty:Tys) (t:TypeId):Bool:=match ty t with | some ⟨.str,_,_,_⟩=>true | _=>false
def lenOf (ty:Tys):List TypeId→List AV→Option Int
 | [t],[.sl _ _ es]=>if isSlice ty t=true then some es.length else none
 | [t],[.own _ _ _ n]=>if isSlice ty t=true then some n else none
 | [t],[.str s]=>if isStr ty t=true then some s.size else none
 | _,_=>none
def frOf:AV→Bool
 | .sl _ fl _=>fl.fr
 | .ro fr _ _=>fr
 | .mp _ ks _=>ks.isEmpty
 | _=>true
def newR:AV→Bool
 | .st _ fs=>newRL fs
 | .tup vs=>newRL vs
 | x=>frOf x
where newRL:List AV→Bool
 | []=>true
 | x::r=>newR x&&newRL r
def xsOf (ob:List (Nat × Obj)) (e:TypeId):AV→Option (List AV × Bool)
 | .own o u i n=>match aget o ob with
   | some ⟨.row v,fr,es⟩=>if u=e∧v=e∧i+n≤es.length then some (if i=0∧n=es.length then es else (es.drop i).take n,fr) else none
   | _=>none
 | .sl u fl es=>if u=e∨es.isEmpty=true then some (es,fl.fr) else none
 | _=>none
def appd (E:Env) (d:Nat) (σ:St) (t:TypeId) (s x:AV):Option (AV × List (Nat × Obj)):=
 match E.ty t with
 | some ⟨.slice e,_,_,_⟩=>match E.ty e with
   | some T=>obind (xsOf σ.ob e x) fun p=>if 0 < T.size∧σ.free d=true then (match s with
     | .sl _ fl _=>if fl.nil=some true∧roomy p.1.length T.bytes=true∧p.1.length≤140737488355328 then some (.own d e 0 p.1.length,aput d ⟨.row e,p.2,p.1⟩ σ.ob) else none
     | .own o u 0 n=>match aget o σ.ob with
       | some ⟨.row v,fr,es⟩=>if u=e∧v=e∧n=es.length∧o ≠ d∧roomy (n+p.1.length) T.bytes=true∧n+p.1.length≤140737488355328 then some (.own d e 0 (n+p.1.length),aput d ⟨.row e,fr&&p.2,es++p.1⟩ (adel o σ.ob))
         else if u=e∧v=e∧n+p.1.length≤es.length∧o ≠ d then some (.own d e 0 (n+p.1.length),aput d ⟨.row e,fr&&p.2,es.take n++(p.1++es.drop (n+p.1.length))⟩ (adel o σ.ob)) else none
       | _=>none
     | _=>none) else none
   | none=>none
 | _=>none
def bnd (G:Globs) (σ:St) (o:Option Operand) (n:Nat):Option Nat:=
 match o with
 | none=>some n
 | some y=>obind (σ.val G y) fun v=>match v with
   | .int _ i=>if 0≤i then some i.toNat else none
   | _=>none
def adels:List Nat→List (Nat × Obj)→List (Nat × Obj)
 | [],l=>l
 | d::r,l=>adel d (adels r l)
def rowLen (ob:List (Nat × Obj)):AV→Nat
 | .own o u _ _=>match aget o ob with
   | some b=>(match b.r with | .row v=>if v=u then b.es.length else 0 | .box _=>0 | .rop _=>0)
   | none=>0
 | _=>0
def slc (ty:Tys) (t:TypeId) (x:AV) (l h:Nat) (m:Option Nat) (rl:Nat):Option AV:=
 match x with
 | .own o u off n=>if isSlice ty t=true∧l≤h∧(h≤n∨off+h≤rl)∧0 < szOf0 ty t∧szEl ty t=some u then (match m with
   | some m=>if h≤m∧m≤n then some .undef else none
   | none=>if l=0 then some (.own o u off h) else if l < h then some (.own o u (off+l) (h - l)) else some (.sl u ⟨true,some false,false⟩ [])) else none
 | .sl u fl es=>if isSlice ty t=true∧l≤h∧h≤es.length∧0 < szOf0 ty t∧(szEl ty t=some u∨es.isEmpty=true) then (match m with
   | some m=>if h≤m∧m≤es.length then some .undef else none
   | none=>some (.sl u ⟨fl.fr,fl.nil,false⟩ ((es.drop l).take (h - l)))) else none
 | .str s=>match m with | none=>if isStr ty t=true∧l≤h∧h≤s.size then some (.str (s.extract l h)) else none | some _=>none
 | _=>none
where
 szEl (ty:Tys) (t:TypeId):Option TypeId:=match ty t with | some ⟨.slice e,_,_,_⟩=>some e | _=>none
 szOf0 (ty:Tys) (t:TypeId):Nat:=match ty t with | some ⟨.slice e,_,_,_⟩=>(match ty e with | some T=>T.size | none=>0) | _=>0
def lenAV:AV→Nat
 | .own _ _ _ n=>n
 | .sl _ _ es=>es.length
 | .str s=>s.size
 | _=>0
def ids:AV→List Nat→List Nat
 | .own o _ _ _,l=>if l.contains o=true then l else l++[o]
 | .ptr o _ _,l=>if l.contains o=true then l else l++[o]
 | .fn _ cs,l=>idsL cs l
 | .st _ fs,l=>idsL fs l
 | .tup vs,l=>idsL vs l
 | _,l=>l
where idsL:List AV→List Nat→List Nat
 | [],l=>l
 | x::r,l=>idsL r (ids x l)
def num (b:Nat):List Nat→List (Nat × Nat)
 | []=>[]
 | o::r=>(o,b)::num (b+1) r
def rn (pr:List (Nat × Nat)) (o:Nat):Nat:=match aget o pr with | some n=>n | none=>o
def ren (pr:List (Nat × Nat)):AV→AV
 | .own o t i n=> .own (rn pr o) t i n
 | .ptr o r p=> .ptr (rn pr o) r p
 | .fn f cs=> .fn f (renL pr cs)
 | .st t fs=> .st t (renL pr fs)
 | .tup vs=> .tup (renL pr vs)
 | x=>x
where renL (pr:List (Nat × Nat)):List AV→List AV
 | []=>[]
 | x::r=>ren pr x::renL pr r
def okLend (b:Obj):Bool:=match b.r with | .row _=>true | .box _=>closed.closedL b.es | .rop _=>false
def lends (ob:List (Nat × Obj)):List (Nat × Nat)→Option (List (Nat × Obj))
 | []=>some []
 | (o,n)::r=>obind (aget o ob) fun b=>if okLend b=true then obind (lends ob r) fun l=>some ((n,b)::l) else none
def pick (ob:List (Nat × Obj)):List Nat→Option (List (Nat × Obj))
 | []=>some []
 | o::r=>obind (aget o ob) fun b=>obind (pick ob r) fun l=>some ((o,b)::l)
def fsts {α:Type}:List (Nat × α)→List Nat
 | []=>[]
 | (o,_)::r=>o::fsts r
def nodupB:List Nat→Bool
 | []=>true
 | o::r=> !r.contains o&&nodupB r
def freeAll (σ:St):List (Nat × Nat)→Bool
 | []=>true
 | (_,n)::r=>σ.free n&&freeAll σ r
def within (l:List Nat):List Nat→Bool
 | []=>true
 | o::r=>l.contains o&&within l r
def lentB:Nat:=1000000
def recvB (d:Nat):Nat:=3000000+d * 1000
def aputs:List (Nat × Obj)→List (Nat × Obj)→List (Nat × Obj)
 | [],l=>l
 | (n,b)::r,l=>aput n b (aputs r l)
def mback (X:Nat) (σ:St) (pr:List (Nat × Nat)) (q:AV × List (Nat × Obj)):Option (AV × List (Nat × Obj)):=
 if nodupB (fsts q.2)=true∧freeAll σ (num (X) (fsts q.2))=true∧within (fsts q.2) (ids q.1 [])=true then
  obind (lends q.2 (num (X) (fsts q.2))) fun l=>some (ren (num (X) (fsts q.2)) q.1,aputs l (adels (fsts pr) σ.ob))
 else none
def mcall (E:Env) (d:Nat) (σ:St) (f:FuncId) (l:List AV):Option (AV × List (Nat × Obj)):=
 obind (lends σ.ob (num lentB (ids.idsL l []))) fun ob0=>obind (E.M f (ren.renL (num lentB (ids.idsL l [])) l) ob0) (mback (recvB d) σ (num lentB (ids.idsL l [])))
def isQ (Q:FuncId→Bool):Operand→Bool
 | .func f=>Q f
 | _=>false
def fidOf:Operand→FuncId
 | .func f=>f
 | _=>0
def qback (d:Nat) (σ:St) (q:AV × List (Nat × Obj)):Option (AV × List (Nat × Obj)):=match q.2 with
 | [(o,b)]=>if σ.free d=true∧okLend b=true∧within [o] (ids q.1 [])=true then some (ren [(o,d)] q.1,aput d b σ.ob) else none
 | _=>none
def qcall (E:Env) (d:Nat) (σ:St) (f:FuncId) (l:List AV):Option (AV × List (Nat × Obj)):=
 if (ids.idsL l []).isEmpty=true then obind (E.M f l []) (qback d σ) else none
def ares (E:Env) (d:Nat) (σ:St):Op→Option (AV × List (Nat × Obj))
 | .move x=>obind (σ.val E.G x) fun v=>some (v,σ.ob)
 | .assign x=>obind (σ.val E.G x) fun v=>some (v,σ.ob)
 | .pick c a b=>obind (σ.val E.G c) fun q=>match q with
   | .bool q=>if q=true then obind (σ.val E.G a) fun v=>some (v,σ.ob) else obind (σ.val E.G b) fun v=>some (v,σ.ob)
   | _=>none
 | .alloc t=>match E.ty t with
   | some T=>if σ.free d=true then some (.ptr d (.box t) [],aput d ⟨.box t,true,[T.zero]⟩ σ.ob) else none
   | none=>none
 | .box t x=>obind (σ.val E.G x) fun v=>if fits E.ty t v=true∧solid v=true∧σ.free d=true∧ment d v=false then some (.ptr d (.box t) [],aput d ⟨.box t,fresh v,[v]⟩ σ.ob) else none
 | .build t ps=>match E.ty t with
   | some ⟨.struct ts,_,_,.st _ fs⟩=>obind (mkParts E.G σ ps.toList) fun l=>obind (fillSt E.ty ts fs l) fun gs=>some (.st t gs,σ.ob)
   | some ⟨.array n e,_,_,.ar _ fs⟩=>obind (mkParts E.G σ ps.toList) fun l=>obind (fillAr E.ty e n flat fs l) fun gs=>some (.ar t gs,σ.ob)
   | _=>none
 | .buildSlice t n ps=>match E.ty t with
   | some ⟨.slice e,_,_,_⟩=>match E.ty e with
     | some T=>obind (mkParts E.G σ ps.toList) fun l=>(if isPtrT E.ty e=true then obind (fillAr E.ty e n anyV (litAll T.zero n) l) fun gs=>if σ.free d=true∧0 < T.size∧n * T.size≤16777216∧ment.mentL d gs=false then some (.own d e 0 n,aput d ⟨.rop e,fresh.freshL gs,gs⟩ σ.ob) else none else obind (fillAr E.ty e n closed (litAll T.zero n) l) fun gs=>if σ.free d=true∧0 < T.size∧n * T.size≤16777216 then some (.own d e 0 n,aput d ⟨.row e,fresh.freshL gs,gs⟩ σ.ob) else none)
     | none=>none
   | _=>none
 | .makeSlice t x y=>match E.ty t with
   | some ⟨.slice e,_,_,_⟩=>match E.ty e with
     | some T=>obind (σ.val E.G x) fun n=>obind (σ.val E.G y) fun m=>match n,m with
       | .int .i64 n,.int .i64 m=>if n=m∧0≤n∧n * T.bytes≤140737488355328∧0 < T.size∧0 < T.bytes∧σ.free d=true then some (.own d e 0 n.toNat,aput d ⟨.row e,true,List.replicate n.toNat T.zero⟩ σ.ob) else none
       | _,_=>none
     | none=>none
   | _=>none
 | .load t a=>obind (σ.val E.G a) fun a=>match a with
   | .ptr o r p=>match aget o σ.ob with
     | some b=>if b.r=r then obind (b.tree p) fun v=>if fits E.ty t v=true then some (b.seen v,σ.ob) else none else none
     | none=>none
   | .ro fr _ x=>if fits E.ty t x=true then some (reflag fr x,σ.ob) else none
   | _=>none
 | .store t a x=>obind (σ.val E.G a) fun a=>obind (σ.val E.G x) fun v=>match a with
   | .ptr o r p=>match aget o σ.ob with
     | some b=>if b.r=r∧fits E.ty t v=true∧solid v=true∧r.tyAt E.ty p=some t then obind (b.plant p v) fun c=>some (.undef,aput o c σ.ob) else none
     | none=>none
   | _=>none
 | .fieldAddr s x f=>obind (σ.val E.G x) fun x=>match x with
   | .ptr o r p=>if r.tyAt E.ty p=some s then (match E.ty s with
     | some ⟨.struct ts,_,_,_⟩=>if f < ts.length then some (.ptr o r (p++[f]),σ.ob) else none
     | _=>none) else none
   | .ro fr _ (.st t fs)=>if t=s then (match E.ty s with
     | some ⟨.struct ts,_,_,_⟩=>obind ts[f]? fun u=>obind fs[f]? fun y=>some (.ro fr u y,σ.ob)
     | _=>none) else none
   | _=>none
 | .field s x f=>obind (σ.val E.G x) fun x=>match x with
   | .st t fs=>if t=s then obind fs[f]? fun y=>some (y,σ.ob) else none
   | _=>none
 | .binOp op t x y _=>obind (σ.val E.G x) fun a=>obind (σ.val E.G y) fun b=>obind (bin E.ty t op a b) fun v=>some (v,σ.ob)
 | .unOp op _ x=>obind (σ.val E.G x) fun a=>obind (una op a) fun v=>some (v,σ.ob)
 | .nilCheck x=>obind (σ.val E.G x) fun x=>match x with
   | .ptr o r p=>some (.ptr o r p,σ.ob)
   | .ro fr t y=>some (.ro fr t y,σ.ob)
   | _=>none
 | .extract x i=>obind (σ.val E.G x) fun x=>match x with
   | .tup vs=>match vs[i]? with | some v=>some (v,σ.ob) | none=>none
   | _=>none
 | .indexAddr t x ix=>match E.ty t with
   | some ⟨.slice e,_,_,_⟩=>obind (σ.val E.G x) fun x=>obind (σ.val E.G ix) fun ix=>match x,ix with
     | .own o u off n,.int _ i=>if u=e∧0≤i∧i < n then some (.ptr o (rtOf E.ty e) [off+i.toNat],σ.ob) else none
     | .sl u fl es,.int _ i=>if u=e∧0≤i then obind es[i.toNat]? fun y=>some (.ro fl.fr e y,σ.ob) else none
     | _,_=>none
   | some ⟨.array n e,_,_,_⟩=>obind (σ.val E.G x) fun x=>obind (σ.val E.G ix) fun ix=>match x,ix with
     | .ptr o r p,.int _ i=>if r.tyAt E.ty p=some t∧0≤i∧i < n then some (.ptr o r (p++[i.toNat]),σ.ob) else none
     | .ro fr _ (.ar u es),.int _ i=>if u=t∧0≤i then obind es[i.toNat]? fun y=>some (.ro fr e y,σ.ob) else none
     | _,_=>none
   | _=>none
 | .lookup t m k ok=>obind (σ.val E.G m) fun m=>obind (σ.val E.G k) fun k=>obind (lkp E.ty t ok k m) fun v=>some (v,σ.ob)
 | .index t x ix=>obind (σ.val E.G x) fun x=>obind (σ.val E.G ix) fun ix=>match x,ix with
   | .str s,.int _ i=>if isStr E.ty t=true∧0≤i then obind s[i.toNat]? fun y=>some (.int .u8 y.toNat,σ.ob) else none
   | _,_=>none
 | .makeFunc fn first captured=>match fn with
   | .func f=>if first.size=0 then obind (vals E.G σ captured.toList) fun l=>if l.all leafV=true then some (.fn f l,σ.ob) else none else none
   | _=>none
 | .convert s t x=>obind (σ.val E.G x) fun x=>match x with
   | .int _ n=>match E.ty t with
     | some ⟨.int k,_,_,_⟩=>match E.ty s with
       | some _=>some (.int k (k.wrap n),σ.ob)
       | none=>none
     | _=>none
   | _=>none
 | .slice t x lo hi mx=>obind (σ.val E.G x) fun x=>obind (bnd E.G σ lo 0) fun l=>obind (bnd E.G σ hi (lenAV x)) fun h=>match mx with
   | none=>obind (slc E.ty t x l h none (rowLen σ.ob x)) fun v=>some (v,σ.ob)
   | some _=>if hi.isSome=true then obind (bnd E.G σ mx 0) fun m=>obind (slc E.ty t x l h (some m) 0) fun v=>some (v,σ.ob) else none
 | .call c=>match c.callee with
   | .value g=>if isQ E.Q g=true then obind (vals E.G σ c.args.toList) (qcall E d σ (fidOf g)) else obind (σ.val E.G g) fun g=>obind (vals E.G σ c.args.toList) fun l=>match g with
     | .fn f cs=>obind (expo.expoL E.ty σ.ob 30 (l++cs)) fun l'=>obind (E.C f l') fun v=>if closed.closedL (l++cs)=true∨newR v=true then some (v,σ.ob) else none
     | _=>none
   | .builtin .append=>obind (vals E.G σ c.args.toList) fun l=>match l,c.argTypes.toList with
     | [s,x],[t,t']=>if t=t' then appd E d σ t s x else none
     | _,_=>none
   | .builtin .max=>obind (vals E.G σ c.args.toList) fun l=>match l with
     | [.int k a,.int k' b]=>if k=k' then some (.int k (if b > a then b else a),σ.ob) else none
     | _=>none
   | .builtin .len=>obind (vals E.G σ c.args.toList) fun l=>obind (lenOf E.ty c.argTypes.toList l) fun n=>some (.int .i64 n,σ.ob)
   | _=>none
 | _=>none
def dstOf (ops:List Oper) (j:Nat):Option Nat:=match ops[j]? with | some o=>o.dst | none=>none
def setRes (E:Env) (σ:St) (d:Option Nat) (x:AV × List (Nat × Obj)):Option St:=
 match d with
 | some t=>if t < E.n then some ⟨aput t x.1 σ.tm,x.2⟩ else none
 | none=>some ⟨σ.tm,x.2⟩
def aop (E:Env) (ops:List Oper) (o:Oper) (σ:St):Option St:=
 match o.guard with
 | none=>obind (ares E (o.dst.getD 0) σ o.op) (setRes E σ o.dst)
 | some (j,b)=>match dstOf ops j with
   | some t=>match aget t σ.tm with
     | some (.bool q)=>if q=b then obind (ares E (o.dst.getD 0) σ o.op) (setRes E σ o.dst) else setRes E σ o.dst (.tup [],σ.ob)
     | some (.tup [])=>setRes E σ o.dst (.tup [],σ.ob)
     | _=>none
   | none=>none
def aops (E:Env) (ops:List Oper):List Oper→St→Option St
 | [],σ=>some σ
 | o::r,σ=>obind (aop E ops o σ) (aops E ops r)
def clr (E:Env) (σ:St) (t:TypeId) (x:AV):Option (AV × List (Nat × Obj)):=
 match E.ty t with
 | some ⟨.slice e,_,_,_⟩=>obind (E.ty e) fun T=>match x with
   | .own o u off n=>obind (aget o σ.ob) fun b=>match b with
     | ⟨.row v,fr,es⟩=>if u=e∧v=e∧off+n≤es.length∧0 < T.size then some (.undef,aput o ⟨.row v,fr,es.take off++(List.replicate n T.zero++es.drop (off+n))⟩ σ.ob) else none
     | _=>none
   | .sl _ _ []=>some (.undef,σ.ob)
   | _=>none
 | _=>none
def aresM (E:Env) (d:Nat) (σ:St):Op→Option (AV × List (Nat × Obj))
 | .call c=>match c.callee with
   | .value g=>obind (σ.val E.G g) fun y=>match y with
     | .fn f cs=>if E.W f=true then obind (vals E.G σ c.args.toList) fun l=>mcall E d σ f (l++cs) else ares E d σ (.call c)
     | _=>none
   | .builtin .clear=>obind (vals E.G σ c.args.toList) fun l=>match l,c.argTypes.toList with
     | [x],[t]=>clr E σ t x
     | _,_=>none
   | _=>ares E d σ (.call c)
 | op=>ares E d σ op
def aopM (E:Env) (ops:List Oper) (o:Oper) (σ:St):Option St:=
 match o.guard with
 | none=>obind (aresM E (o.dst.getD 0) σ o.op) (setRes E σ o.dst)
 | some (j,b)=>match dstOf ops j with
   | some t=>match aget t σ.tm with
     | some (.bool q)=>if q=b then obind (aresM E (o.dst.getD 0) σ o.op) (setRes E σ o.dst) else setRes E σ o.dst (.tup [],σ.ob)
     | some (.tup [])=>setRes E σ o.dst (.tup [],σ.ob)
     | _=>none
   | none=>none
def aopsM (E:Env) (ops:List Oper):List Oper→St→Option St
 | [],σ=>some σ
 | o::r,σ=>obind (aopM E ops o σ) (aopsM E ops r)
def Obj.ment (o:Nat) (b:Obj):Bool:=match b.r with | .box _=>Abs.ment.mentL o b.es | .row _=>false | .rop _=>Abs.ment.mentL o b.es
def isApp:Builtin→Bool
 | .append=>true
 | _=>false
def wrCall (Q:FuncId→Bool) (G:Globs) (d:Nat) (σ:St) (c:Call):List Nat:=match c.callee with
 | .value g=>if isQ Q g=true then [d] else []
 | .builtin b=>if isApp b=true then (match vals G σ c.args.toList with
   | some (.own o _ _ _::_)=>[d,o]
   | some _=>[d]
   | none=>[]) else []
 | _=>[]
def wrO (Q:FuncId→Bool) (G:Globs) (d:Nat) (σ:St):Op→List Nat
 | .alloc _=>[d]
 | .box _ _=>[d]
 | .buildSlice _ _ _=>[d]
 | .makeSlice _ _ _=>[d]
 | .store _ a _=>match σ.val G a with | some (.ptr o _ _)=>[o] | _=>[]
 | .call c=>wrCall Q G d σ c
 | _=>[]
def noment (d:Nat) (σ:St) (t:Option Nat) (w:List Nat):Bool:=
 (match t with | some t=>(match aget t σ.tm with | some v=> !ment d v | none=>true) | none=>true)&&
 w.all fun o=>match aget o σ.ob with | some b=> !b.ment d | none=>true
def okD (E:Env) (L:List Oper) (o:Oper) (h:DH) (σ σ':St):Bool:=
 (h.del.isEmpty || (aop E L o ⟨σ.tm,adels h.del σ.ob⟩).isSome)&&
 (h.wr.isEmpty || (wrO E.Q E.G (o.dst.getD 0) σ o.op).all fun x=>h.wr.contains x)&&
 h.nom.all fun d=>noment d σ' o.dst (wrO E.Q E.G (o.dst.getD 0) σ o.op)
def adops (E:Env) (L:List Oper):List DH→List Oper→St→Option St
 | _,[],σ=>some σ
 | hs,o::r,σ=>obind (aop E L o σ) fun σ'=>if okD E L o (hs.headD dh0) σ σ'=true then adops E L hs.tail r σ' else none
def adraw (E:Env) (id:Nat) (L:List Oper) (σ:St):Option St:=
 match E.D id with
 | none=>aops E L L σ
 | some (hs,mids)=>if mids.all (fun d=>σ.free d)=true then adops E L hs L σ else none
def inK (K t:Nat):Bool:=(K >>> t) % 2==1
def kept {α:Type} (K:Nat):List (Nat × α)→List (Nat × α)
 | []=>[]
 | (t,v)::r=>if inK K t=true then (t,v)::kept K r else kept K r
def endRegion (E:Env) (σ:St):St:=⟨kept E.K σ.tm,σ.ob⟩
inductive AX where
 | norm
 | exit (id:Nat)
 | ret
structure Hint where
 tm:List Nat
 ob:List Nat
 sl:List (Nat × Nat × TypeId):=[]
 fin:Option (List Nat × List Nat):=none
def keepL {α:Type} (l:List (Nat × α)):List Nat→List (Nat × α)
 | []=>[]
 | t::r=>match aget t l with | some v=>(t,v)::keepL l r | none=>keepL l r
def St.keep (σ:St) (h:Hint):St:=⟨keepL σ.tm h.tm,keepL σ.ob h.ob⟩
def St.fin (σ:St) (h:Hint):St:=match h.fin with
 | none=>σ
 | some (ts,os)=>⟨keepL σ.tm ts,keepL σ.ob os⟩
def post (h:Hint):Option (AX × St)→Option (AX × St)
 | some (x,σ)=>some (x,σ.fin h)
 | none=>none
def allLeaf:List AV→Bool
 | []=>true
 | x::r=>leafV x&&allLeaf r
def ownOf (e:TypeId):List AV→Option Nat
 | []=>none
 | .own q t _ _::r=>if t=e then some q else ownOf e r
 | _::r=>ownOf e r
def slotF (q c:Nat):AV→AV
 | .own o t i n=>if o=q then .own c t i n else .own o t i n
 | x=>x
def slotN (c:Nat) (e:TypeId):AV→AV
 | .sl t fl es=>if t=e∧fl.nil=some true then .own c e 0 0 else .sl t fl es
 | x=>x
def St.slot (ty:Tys) (σ:St) (t c:Nat) (e:TypeId):St:=
 match aget t σ.tm with
 | some (.own o u 0 n)=>(match aget o σ.ob with
   | some ⟨.row v,fr,es⟩=>if o=c∨σ.free c=true then ⟨aput t (.own c u 0 n) σ.tm,aput c ⟨.row v,fr,es⟩ (adel o σ.ob)⟩ else σ
   | _=>σ)
 | some (.sl _ fl _)=>(match ty e with
   | some T=>if fl.nil=some true∧0 < T.size∧σ.free c=true then ⟨aput t (.own c e 0 0) σ.tm,aput c ⟨.row e,true,[]⟩ σ.ob⟩ else σ
   | none=>σ)
 | some (.ptr o (.box _) [])=>(match aget o σ.ob with
   | some ⟨.box u,f,[.st v fs]⟩=>(match ownOf e fs with
     | some q=>(match aget q σ.ob with
       | some ⟨.row v',fr,es⟩=>if q=c∨σ.free c=true then ⟨σ.tm,aput o ⟨.box u,f,[.st v (fs.map (slotF q c))]⟩ (aput c ⟨.row v',fr,es⟩ (adel q σ.ob))⟩ else σ
       | _=>σ)
     | none=>(match ty e with
       | some T=>if 0 < T.size∧σ.free c=true then ⟨σ.tm,aput o ⟨.box u,f,[.st v (fs.map (slotN c e))]⟩ (aput c ⟨.row e,true,[]⟩ σ.ob)⟩ else σ
       | none=>σ))
   | _=>σ)
 | _=>σ
def St.slots (ty:Tys) (σ:St):List (Nat × Nat × TypeId)→St
 | []=>σ
 | s::r=>(σ.slot ty s.1 s.2.1 s.2.2).slots ty r
def then_ (r:Option (AX × St)) (f:St→Option (AX × St)):Option (AX × St):=
 match r with
 | some (.norm,σ)=>f σ
 | r=>r
def inBlock (id:Nat) (r:Option (AX × St)):Option (AX × St):=
 match r with
 | some (.exit i,σ)=>if i=id then some (.norm,σ) else some (.exit i,σ)
 | r=>r
theorem then_norm (σ:St) (f):then_ (some (.norm,σ)) f=f σ:=rfl
theorem then_exit (i:Nat) (σ:St) (f):then_ (some (.exit i,σ)) f=some (.exit i,σ):=rfl
theorem then_ret (σ:St) (f):then_ (some (.ret,σ)) f=some (.ret,σ):=rfl
theorem then_none (f):then_ none f=none:=rfl
theorem then_ite (c:Prop) [Decidable c] (a b f):then_ (if c then a else b) f=if c then then_ a f else then_ b f:=by split <;> rfl
theorem inBlock_norm (i:Nat) (σ:St):inBlock i (some (.norm,σ))=some (.norm,σ):=rfl
theorem inBlock_exit (i j:Nat) (σ:St):inBlock i (some (.exit j,σ))=if j=i then some (.norm,σ) else some (.exit j,σ):=rfl
theorem inBlock_ret (i:Nat) (σ:St):inBlock i (some (.ret,σ))=some (.ret,σ):=rfl
theorem inBlock_none (i:Nat):inBlock i none=none:=rfl
theorem inBlock_ite (i:Nat) (c:Prop) [Decidable c] (a b):inBlock i (if c then a else b)=if c then inBlock i a else inBlock i b:=by split <;> rfl
def aloop (ty:Tys) (f:St→Option (AX × St)) (h:Hint):Nat→St→Option (AX × St)
 | 0,_=>none
 | k+1,σ=>then_ (f ((σ.keep h).slots ty h.sl)) (aloop ty f h k)
def firstId:Code→Nat
 | .region id _ _=>id
 | .seq a _=>firstId a
 | .block _ c=>firstId c
 | .loop c=>firstId c
 | _=>0
def frz (o:Nat) (t:TypeId) (y:AV):AV→AV
 | .ptr o' (.box u) []=>if o'=o then .ro (newR y) t y else .ptr o' (.box u) []
 | x=>x
def frzL (o:Nat) (t:TypeId) (y:AV):List (Nat × AV)→List (Nat × AV)
 | []=>[]
 | (u,x)::r=>(u,frz o t y x)::frzL o t y r
def frzV (o t:Nat) (fr:Bool) (es:List AV):AV→AV
 | .own o' t' i n=>if o'=o∧t'=t∧i=0∧n=es.length then .sl t ⟨fr,none,false⟩ es else .own o' t' i n
 | x=>x
def frzVL (o t:Nat) (fr:Bool) (es:List AV):List AV→List AV
 | []=>[]
 | x::r=>frzV o t fr es x::frzVL o t fr es r
def frzB (o t:Nat) (fr:Bool) (es:List AV):Obj→Obj
 | ⟨.box u,f,[.st v fs]⟩=>if allLeaf fs=true then ⟨.box u,f,[.st v (frzVL o t fr es fs)]⟩ else ⟨.box u,f,[.st v fs]⟩
 | b=>b
def frzM (o t:Nat) (fr:Bool) (es:List AV):List (Nat × Obj)→List (Nat × Obj)
 | []=>[]
 | (q,b)::r=>(q,frzB o t fr es b)::frzM o t fr es r
def frzO (σ:St) (o:Nat):Obj→St
 | ⟨.box t,_,[y]⟩=>if closed y=true then ⟨frzL o t y σ.tm,adel o σ.ob⟩ else σ
 | ⟨.row t,fr,es⟩=>⟨σ.tm,frzM o t fr es (adel o σ.ob)⟩
 | _=>σ
def St.freeze1 (σ:St) (o:Nat):St:=match aget o σ.ob with | some b=>frzO σ o b | none=>σ
def St.freeze (σ:St):List Nat→St
 | []=>σ
 | o::r=>(σ.freeze1 o).freeze r
def arun (E:Env) (H:Nat→Hint) (k:Nat):Code→St→Option (AX × St)
 | .skip,σ=>some (.norm,σ)
 | .region id ops true,σ=>obind (adraw E id ops.toList σ) fun σ'=>some (.norm,endRegion E σ')
 | .region id ops false,σ=>obind (aopsM E ops.toList ops.toList (σ.freeze (E.Z id))) fun σ'=>some (.norm,endRegion E σ')
 | .seq a b,σ=>then_ (arun E H k a σ) (arun E H k b)
 | .cond c a b,σ=>obind (σ.val E.G c) fun q=>match q with
   | .bool q=>if q=true then arun E H k a σ else arun E H k b σ
   | _=>none
 | .block id c,σ=>inBlock id (arun E H k c σ)
 | .loop c,σ=>post (H (firstId c)) (aloop E.ty (arun E H k c) (H (firstId c)) k σ)
 | .exit id,σ=>some (.exit id,σ)
 | .ret,σ=>some (.ret,σ)
 | _,_=>none
def argTms:Nat→List AV→List (Nat × AV)
 | _,[]=>[]
 | i,x::r=>(i,x)::argTms (i+1) r
def aresOf (E:Env) (σ:St):ResultVar→Option AV
 | .tmp t=>aget t σ.tm
 | .cell a t=>obind (aget a σ.tm) fun a=>match a with
   | .ptr o r p=>match aget o σ.ob with
     | some b=>if b.r=r then obind (b.tree p) fun v=>if fits E.ty t v=true then some (b.seen v) else none else none
     | none=>none
   | _=>none
def aresults (E:Env) (σ:St):List ResultVar→Option (List AV)
 | []=>some []
 | r::l=>obind (aresOf E σ r) fun v=>obind (aresults E σ l) fun vs=>some (v::vs)
def hand (ty:Tys) (ob:List (Nat × Obj)):Nat→AV→Option AV
 | 0,_=>none
 | _+1,.own o t i n=>match aget o ob with
   | some ⟨.row u,fr,es⟩=>if t=u∧i+n≤es.length then some (.sl t ⟨fr,none,false⟩ (if i=0∧n=es.length then es else (es.drop i).take n)) else none
   | _=>none
 | k+1,.ptr o (.box u0) p=>match aget o ob with
   | some b=>if b.r = .box u0 then (match b.tree p with
     | some x=>match (RT.box u0).tyAt ty p with | some u=>obind (hand ty ob k x) fun y=>some (.ro (newR y) u y) | none=>none
     | none=>none) else none
   | none=>none
 | k+1,.st t fs=>obind (handL ty ob k fs) fun gs=>some (.st t gs)
 | _,.ptr ..=>none
 | _,.tup _=>none
 | _,.undef=>none
 | _,.fn ..=>none
 | _,x=>some x
where handL (ty:Tys) (ob:List (Nat × Obj)):Nat→List AV→Option (List AV)
 | 0,_=>none
 | _,[]=>some []
 | k+1,x::r=>obind (hand ty ob k x) fun y=>obind (handL ty ob k r) fun l=>some (y::l)
def one:List AV→AV
 | [v]=>v
 | vs=> .tup vs
def finish (E:Env) (rs:List ResultVar):Option (AX × St)→Option AV
 | some (.norm,σ)=>obind (aresults E σ rs) fun vs=>obind (hand.handL E.ty σ.ob 30 vs) fun vs=>some (one vs)
 | some (.ret,σ)=>obind (aresults E σ rs) fun vs=>obind (hand.handL E.ty σ.ob 30 vs) fun vs=>some (one vs)
 | _=>none
theorem finish_ite (E rs) (c:Prop) [Decidable c] (a b):finish E rs (if c then a else b)=if c then finish E rs a else finish E rs b:=by split <;> rfl
theorem finish_ret (E rs) (σ:St):finish E rs (some (.ret,σ))=obind (aresults E σ rs) fun vs=>obind (hand.handL E.ty σ.ob 30 vs) fun vs=>some (one vs):=rfl
theorem finish_norm (E rs) (σ:St):finish E rs (some (.norm,σ))=obind (aresults E σ rs) fun vs=>obind (hand.handL E.ty σ.ob 30 vs) fun vs=>some (one vs):=rfl
theorem finish_none (E rs):finish E rs none=none:=rfl
def oldV:AV→Bool
 | .mp ..=>false
 | .sl _ fl _=> !fl.fr
 | .ro fr _ _=> !fr
 | .st _ fs=>oldL fs
 | .fn _ cs=>oldL cs
 | .own ..=>false
 | .ptr ..=>false
 | .undef=>false
 | .tup _=>false
 | _=>true
where oldL:List AV→Bool
 | []=>true
 | x::r=>oldV x&&oldL r
def acall (E:Env) (H:Nat→Hint) (k:Nat) (fn:Func) (args:List AV):Option AV:=
 match fn.body with
 | none=>none
 | some c=>if oldV.oldL args=true then finish E fn.results.toList (arun E H k c ⟨argTms 0 args,[]⟩) else none
def noTup:AV→Bool
 | .tup _=>false
 | _=>true
def resultsM (E:Env) (rs:List ResultVar) (σ:St):Option (AV × List (Nat × Obj)):=
 obind (aresults E σ rs) fun vs=>obind (pick σ.ob (ids.idsL vs [])) fun ob=>if vs.all noTup=true then some (one vs,ob) else none
def finishM (E:Env) (rs:List ResultVar):Option (AX × St)→Option (AV × List (Nat × Obj))
 | some (.norm,σ)=>resultsM E rs σ
 | some (.ret,σ)=>resultsM E rs σ
 | _=>none
theorem finishM_ret (E rs) (σ:St):finishM E rs (some (.ret,σ))=resultsM E rs σ:=rfl
theorem finishM_norm (E rs) (σ:St):finishM E rs (some (.norm,σ))=resultsM E rs σ:=rfl
theorem finishM_none (E rs):finishM E rs none=none:=rfl
def macall (E:Env) (H:Nat→Hint) (k:Nat) (fn:Func) (args:List AV) (ob:List (Nat × Obj)):Option (AV × List (Nat × Obj)):=
 match fn.body with
 | none=>none
 | some c=>finishM E fn.results.toList (arun E H k c ⟨argTms 0 args,ob⟩)
end Go.Abs
end
section
namespace Go.Abs
open Go Go.RowKit
mutual
def leaves:AV→List AV
 | .st _ fs=>leavesL fs
 | .ar _ es=>leavesL es
 | x=>[x]
def leavesL:List AV→List AV
 | []=>[]
 | x::r=>leaves x++leavesL r
end
theorem leaves_leaf {x:AV} (h:leafV x=true):leaves x=[x]:=by cases x <;> simp_all [leafV,leaves]
def szOf (ty:Tys) (t:TypeId):Nat:=match ty t with | some d=>d.size | none=>0
inductive Conf (ty:Tys):TypeId→AV→Prop
 | leaf {t:TypeId} {d:TyD} {x:AV}:ty t=some d→isLeaf d.k=true→d.size=1→leafV x=true→Conf ty t x
 | st {t:TypeId} {ts:List TypeId} {s b:Nat} {z:AV} {fs:List AV}:ty t=some ⟨.struct ts,s,b,z⟩→fs.length=ts.length→s=(ts.map (szOf ty)).sum→
    (∀ (i:Nat) (x:AV) (u:TypeId),fs[i]? = some x→ts[i]? = some u→Conf ty u x)→Conf ty t (.st t fs)
 | ar {t e:TypeId} {n s b:Nat} {z:AV} {es:List AV}:ty t=some ⟨.array n e,s,b,z⟩→es.length=n→s=n * szOf ty e→
    (∀ x ∈ es,Conf ty e x)→(∀ x ∈ es,flat x=true)→Conf ty t (.ar t es)
theorem leavesL_append (a b:List AV):leavesL (a++b)=leavesL a++leavesL b:=by
 induction a with
 | nil=>simp[leavesL]
 | cons x r ih=>simp[leavesL,ih]
theorem leavesL_len_of {ty:Tys}:∀ (fs:List AV) (ts:List TypeId),fs.length=ts.length→
 (∀ (i:Nat) (x:AV) (u:TypeId),fs[i]? = some x→ts[i]? = some u→(leaves x).length=szOf ty u)→(leavesL fs).length=(ts.map (szOf ty)).sum
 | [],[],_,_=>rfl
 | x::fs,u::ts,hl,h=>by
   have h0:=h 0 x u rfl rfl;have hr:=leavesL_len_of fs ts (by simpa using hl) (fun i y v hy hv=>h (i+1) y v (by simpa using hy) (by simpa using hv));simp[leavesL,h0,hr]
 | [],_::_,hl,_=>by simp at hl
 | _::_,[],hl,_=>by simp at hl
theorem leavesL_len_const (s:Nat):∀ (es:List AV),(∀ x ∈ es,(leaves x).length=s)→(leavesL es).length=es.length * s
 | [],_=>by simp[leavesL]
 | x::r,h=>by
   have h0:=h x (by simp);have hr:=leavesL_len_const s r (fun y hy=>h y (by simp[hy]));simp[leavesL,h0,hr,Nat.succ_mul,Nat.add_comm]
theorem Conf.len {ty:Tys} {t:TypeId} {x:AV} (h:Conf ty t x):(leaves x).length=szOf ty t:=by
 induction h with
 | leaf h1 _ h3 h4=>simp[leaves_leaf h4,szOf,h1,h3]
 | st h1 h2 h3 _ ih=>
   simp only[leaves,szOf,h1];rw[leavesL_len_of _ _ h2 ih,h3]
 | ar h1 h2 h3 _ _ ih=>
   simp only[leaves,szOf,h1];rw[leavesL_len_const _ _ ih,h2,h3]
theorem leavesL_at (s:Nat):∀ (es:List AV),(∀ x ∈ es,(leaves x).length=s)→∀ (i:Nat) (x:AV),es[i]? = some x→∀ j,j < s→(leavesL es)[i * s+j]? = (leaves x)[j]?
 | [],_,i,x,hx,_,_=>by simp at hx
 | y::r,h,0,x,hx,j,hj=>by
   simp at hx;subst hx;have h0:=h y (by simp);simp only[leavesL,Nat.zero_mul,Nat.zero_add];rw[List.getElem?_append_left (by omega)]
 | y::r,h,i+1,x,hx,j,hj=>by
   have h0:=h y (by simp);have hr:=leavesL_at s r (fun z hz=>h z (by simp[hz])) i x (by simpa using hx) j hj;simp only[leavesL];rw[List.getElem?_append_right (by rw[h0,Nat.succ_mul];omega),h0];rw[← hr];congr 1;rw[Nat.succ_mul];omega
theorem leavesL_field {ty:Tys}:∀ (fs:List AV) (ts:List TypeId),fs.length=ts.length→(∀ (i:Nat) (x:AV) (u:TypeId),fs[i]? = some x→ts[i]? = some u→(leaves x).length=szOf ty u)→
 ∀ (i:Nat) (x:AV) (u:TypeId),fs[i]? = some x→ts[i]? = some u→∀ j,j < szOf ty u→(leavesL fs)[((ts.take i).map (szOf ty)).sum+j]? = (leaves x)[j]?
 | [],_,_,_,i,x,u,hx,_,_,_=>by simp at hx
 | _::_,[],hl,_,_,_,_,_,_,_,_=>by simp at hl
 | y::fs,v::ts,hl,h,0,x,u,hx,hu,j,hj=>by
   simp at hx hu;subst hx;subst hu;have h0:=h 0 y v rfl rfl;simp only[leavesL,List.take_zero,List.map_nil,List.sum_nil,Nat.zero_add];rw[List.getElem?_append_left (by omega)]
 | y::fs,v::ts,hl,h,i+1,x,u,hx,hu,j,hj=>by
   have h0:=h 0 y v rfl rfl;have hr:=leavesL_field fs ts (by simpa using hl) (fun i z w hz hw=>h (i+1) z w (by simpa using hz) (by simpa using hw)) i x u (by simpa using hx) (by simpa using hu) j hj;simp only[leavesL,List.take_succ_cons,List.map_cons,List.sum_cons];rw[List.getElem?_append_right (by omega),h0,← hr];congr 1;omega
def offTy (ty:Tys):TypeId→List Nat→Option Nat
 | _,[]=>some 0
 | t,i::p=>match ty t with
   | some ⟨.struct ts,_,_,_⟩=>match ts[i]? with
     | some u=>match offTy ty u p with | some d=>some (((ts.take i).map (szOf ty)).sum+d) | none=>none
     | none=>none
   | some ⟨.array n e,_,_,_⟩=>if i < n then (match offTy ty e p with | some d=>some (i * szOf ty e+d) | none=>none) else none
   | _=>none
def offRT (ty:Tys):RT→List Nat→Option Nat
 | .box t,p=>offTy ty t p
 | .row t,i::p=>match offTy ty t p with | some d=>some (i * szOf ty t+d) | none=>none
 | .row _,[]=>none
 | .rop t,i::p=>match offTy ty t p with | some d=>some (i * szOf ty t+d) | none=>none
 | .rop _,[]=>none
theorem Conf.tree {ty:Tys}:∀ (p:List Nat) {t:TypeId} {x y:AV} {d:Nat},Conf ty t x→Abs.tree x p=some y→offTy ty t p=some d→
 ∃ u,tyAt ty t p=some u∧Conf ty u y∧∀ j,j < szOf ty u→(leaves x)[d+j]? = (leaves y)[j]?
 | [],t,x,y,d,h,hy,hd=>by
   simp[Abs.tree] at hy;simp[offTy] at hd;subst hy;subst hd;exact⟨t,by simp[tyAt],h,fun j _=>by simp⟩
 | i::p,t,x,y,d,h,hy,hd=>by
   cases h with
   | leaf h1 h2 _ h4=>cases x <;> simp_all [Abs.tree,leafV]
   | @st _ ts s b z fs h1 h2 h3 h4=>
     simp only[Abs.tree] at hy;split at hy
     ·rename_i q hq;simp only[offTy,h1] at hd;split at hd
      ·rename_i u hu;split at hd
       ·rename_i d' hd';injection hd with hd;subst hd
        obtain⟨u',a1,a2,a3⟩:=Conf.tree p (h4 i q u hq hu) hy hd';refine⟨u',by simp[tyAt,h1,hu,a1],a2,fun j hj=>?_⟩;rw[← a3 j hj];have hlt:d'+j < szOf ty u:=by
         have h5:((leaves q)[d'+j]?).isSome:=by rw[a3 j hj];simp[a2.len,hj]
         simp[(h4 i q u hq hu).len] at h5;exact h5
        have:=leavesL_field fs ts h2 (fun i x u hx hu=>(h4 i x u hx hu).len) i q u hq hu (d'+j) hlt;simp only[leaves];rw[← this];congr 1;omega
       ·simp at hd
      ·simp at hd
     ·simp at hy
   | @ar _ e n s b z es h1 h2 h3 h4 h5=>
     simp only[Abs.tree] at hy;split at hy
     ·rename_i q hq;simp only[offTy,h1] at hd;split at hd
      ·split at hd
       ·rename_i d' hd';injection hd with hd;subst hd
        have hm:q ∈ es:=List.mem_of_getElem? hq;obtain⟨u',a1,a2,a3⟩:=Conf.tree p (h4 q hm) hy hd';refine⟨u',by simp[tyAt,h1,a1],a2,fun j hj=>?_⟩;rw[← a3 j hj];have hlt:d'+j < szOf ty e:=by
         have h5:((leaves q)[d'+j]?).isSome:=by rw[a3 j hj];simp[a2.len,hj]
         simp[(h4 q hm).len] at h5;exact h5
        have:=leavesL_at (szOf ty e) es (fun x hx=>(h4 x hx).len) i q hq (d'+j) hlt;simp only[leaves];rw[← this];congr 1;omega
       ·simp at hd
      ·simp at hd
     ·simp at hy
theorem flatL_iff:∀ (fs:List AV),flat.flatL fs=true↔∀ x ∈ fs,flat x=true
 | []=>by simp[flat.flatL]
 | x::r=>by simp[flat.flatL,flatL_iff r]
theorem mem_set_or {α:Type} {l:List α} {i:Nat} {a x:α} (h:x ∈ l.set i a):x=a∨x ∈ l:=by
 rcases List.mem_or_eq_of_mem_set h with h | h
 ·exact .inr h
 ·exact .inl h
theorem plant_flat:∀ (p:List Nat) {x v z:AV},flat x=true→flat v=true→plant x p v=some z→flat z=true
 | [],x,v,z,_,hv,h=>by simp[plant] at h;subst h;exact hv
 | i::p,x,v,z,hx,hv,h=>by
   cases x with
   | st t fs=>
     simp only[plant] at h;split at h
     ·rename_i q hq;split at h
      ·rename_i r hr;injection h with h;subst h
       have hall:=(flatL_iff fs).1 (by simpa[flat] using hx);have:=plant_flat p (hall q (List.mem_of_getElem? hq)) hv hr;simp only[flat];rw[flatL_iff];intro y hy;rcases mem_set_or hy with rfl | hy
       ·exact this
       ·exact hall y hy
      ·cases h
     ·cases h
   | ar t es=>simp[flat] at hx
   | _=>simp[plant] at h
theorem app3 {α:Type} (A B B' C:List α) (h:B'.length=B.length) (j:Nat) :
 (A++(B'++C))[j]? = if A.length≤j∧j < A.length+B.length then B'[j - A.length]? else (A++(B++C))[j]?:=by
 by_cases h1:j < A.length
 ·rw[if_neg (by omega),List.getElem?_append_left h1,List.getElem?_append_left h1]
 ·rw[List.getElem?_append_right (by omega)];by_cases h2:j < A.length+B.length
  ·rw[if_pos ⟨by omega,h2⟩,List.getElem?_append_left (by omega)]
  ·rw[if_neg (by omega),List.getElem?_append_right (by omega),List.getElem?_append_right (by omega),List.getElem?_append_right (by omega),h]
theorem split_at {α:Type}:∀ (l:List α) (i:Nat) (x:α),l[i]? = some x→l=l.take i++x::l.drop (i+1)∧∀ y,l.set i y=l.take i++y::l.drop (i+1)
 | [],i,x,h=>by simp at h
 | a::r,0,x,h=>by simp at h;subst h;simp
 | a::r,i+1,x,h=>by
   obtain⟨h1,h2⟩:=split_at r i x (by simpa using h);refine⟨by simp only[List.take_succ_cons,List.drop_succ_cons,List.cons_append];rw[← h1],fun y=>?_⟩;simp only[List.set_cons_succ,List.take_succ_cons,List.drop_succ_cons,List.cons_append,h2 y]
theorem leavesL_set (fs:List AV) (i:Nat) (x z:AV) (o:Nat) (hx:fs[i]? = some x) (hl:(leaves z).length=(leaves x).length) (ho:(leavesL (fs.take i)).length=o) (j:Nat) :
 (leavesL (fs.set i z))[j]? = if o≤j∧j < o+(leaves x).length then (leaves z)[j - o]? else (leavesL fs)[j]?:=by
 obtain⟨h1,h2⟩:=split_at fs i x hx;have e1:leavesL fs=leavesL (fs.take i)++(leaves x++leavesL (fs.drop (i+1))):=by
  conv=>lhs;rw[h1]
  rw[leavesL_append];rfl
 have e2:leavesL (fs.set i z)=leavesL (fs.take i)++(leaves z++leavesL (fs.drop (i+1))):=by
  rw[h2 z,leavesL_append];rfl
 rw[e1,e2,app3 _ _ _ _ hl,ho]
theorem len_take_field {ty:Tys} (fs:List AV) (ts:List TypeId) (hl:fs.length=ts.length) (h:∀ (i:Nat) (x:AV) (u:TypeId),fs[i]? = some x→ts[i]? = some u→(leaves x).length=szOf ty u) (i:Nat) :
 (leavesL (fs.take i)).length=((ts.take i).map (szOf ty)).sum:=
 leavesL_len_of _ _ (by simp[hl]) fun k x u hx hu=>by
  rw[List.getElem?_take] at hx hu;split at hx
  ·rename_i hk;rw[if_pos hk] at hu;exact h k x u hx hu
  ·cases hx
theorem Conf.plant {ty:Tys}:∀ (p:List Nat) {t u:TypeId} {x v z:AV} {d:Nat},Conf ty t x→Abs.plant x p v=some z→tyAt ty t p=some u→Conf ty u v→
 offTy ty t p=some d→(inArray x p=true→flat v=true)→
 Conf ty t z∧d+szOf ty u≤szOf ty t∧∀ j,(leaves z)[j]? = if d≤j∧j < d+szOf ty u then (leaves v)[j - d]? else (leaves x)[j]?
 | [],t,u,x,v,z,d,h,hz,hu,hv,hd,_=>by
   simp[Abs.plant] at hz;simp[offTy] at hd;simp[tyAt] at hu;subst hz;subst hd;subst hu;refine⟨hv,by omega,fun j=>?_⟩;by_cases hj:j < szOf ty t
   ·rw[if_pos ⟨by omega,by omega⟩];simp
   ·rw[if_neg (by omega),List.getElem?_eq_none (by rw[hv.len];omega),List.getElem?_eq_none (by rw[h.len];omega)]
 | i::p,t,u,x,v,z,d,h,hz,hu,hv,hd,hf=>by
   cases h with
   | leaf h1 h2 _ h4=>cases x <;> simp_all [Abs.plant,leafV]
   | @st _ ts s b z0 fs h1 h2 h3 h4=>
     simp only[Abs.plant] at hz;split at hz
     ·rename_i q hq;split at hz
      ·rename_i r hr;injection hz with hz;subst hz
       simp only[offTy,h1] at hd;split at hd
       ·rename_i w hw;split at hd
        ·rename_i d' hd';injection hd with hd;subst hd
         have hu':tyAt ty w p=some u:=by simpa[tyAt,h1,hw] using hu
         obtain⟨a1,a2,a3⟩:=Conf.plant p (h4 i q w hq hw) hr hu' hv hd' (fun hin=>hf (by simp[inArray,hq,hin]));have hlen:∀ (i:Nat) (x:AV) (u:TypeId),fs[i]? = some x→ts[i]? = some u→(leaves x).length=szOf ty u:=fun i x u hx hu=>(h4 i x u hx hu).len
         have ho:=len_take_field fs ts h2 hlen i;have hset:=leavesL_set fs i q r _ hq (by rw[a1.len,(h4 i q w hq hw).len]) ho;have hqlen:=(h4 i q w hq hw).len;have hil:i < fs.length:=(List.getElem?_eq_some_iff.1 hq).1;refine⟨.st h1 (by simpa using h2) h3 fun k x' u' hx' hu''=>?_,?_,fun j=>?_⟩
         ·rw[List.getElem?_set] at hx';split at hx'
          ·rename_i hk;subst hk;injection hx' with hx';subst hx'
           rw[hw] at hu'';injection hu'' with hu'';subst hu''
           exact a1
          ·exact h4 k x' u' hx' hu''
         ·have:((ts.take i).map (szOf ty)).sum+szOf ty w≤(ts.map (szOf ty)).sum:=by
           obtain⟨e1,_⟩:=split_at ts i w hw
           conv=>rhs;rw[e1]
           simp
          have hs:szOf ty t=s:=by simp[szOf,h1]
          rw[hs,h3];omega
         ·simp only[leaves];rw[hset j,hqlen];by_cases hj:((ts.take i).map (szOf ty)).sum≤j∧j < ((ts.take i).map (szOf ty)).sum+szOf ty w
          ·rw[if_pos hj,a3];by_cases hj2:d'≤j - ((ts.take i).map (szOf ty)).sum∧j - ((ts.take i).map (szOf ty)).sum < d'+szOf ty u
           ·rw[if_pos hj2,if_pos (by omega)];congr 1;omega
           ·rw[if_neg hj2,if_neg (by omega)];have:=leavesL_field fs ts h2 hlen i q w hq hw (j - ((ts.take i).map (szOf ty)).sum) (by omega);rw[← this];congr 1;omega
          ·rw[if_neg hj,if_neg (by omega)]
        ·cases hd
       ·cases hd
      ·cases hz
     ·cases hz
   | @ar _ e n s b z0 es h1 h2 h3 h4 h5=>
     simp only[Abs.plant] at hz;split at hz
     ·rename_i q hq;split at hz
      ·rename_i r hr;injection hz with hz;subst hz
       simp only[offTy,h1] at hd;split at hd
       ·rename_i hin;split at hd
        ·rename_i d' hd';injection hd with hd;subst hd
         have hm:q ∈ es:=List.mem_of_getElem? hq;have hfv:flat v=true:=hf (by simp[inArray]);have hu':tyAt ty e p=some u:=by simpa[tyAt,h1] using hu
         obtain⟨a1,a2,a3⟩:=Conf.plant p (h4 q hm) hr hu' hv hd' (fun _=>hfv);have hlen:∀ x ∈ es,(leaves x).length=szOf ty e:=fun x hx=>(h4 x hx).len
         have ho:(leavesL (es.take i)).length=i * szOf ty e:=by
          rw[leavesL_len_const (szOf ty e) _ (fun x hx=>hlen x (List.mem_of_mem_take hx)),List.length_take,h2,Nat.min_eq_left (Nat.le_of_lt hin)]
         have hset:=leavesL_set es i q r _ hq (by rw[a1.len,(h4 q hm).len]) ho;have hqlen:=(h4 q hm).len;refine⟨.ar h1 (by simpa using h2) h3 (fun x hx=>?_) (fun x hx=>?_),?_,fun j=>?_⟩
         ·rcases mem_set_or hx with rfl | hx
          ·exact a1
          ·exact h4 x hx
         ·rcases mem_set_or hx with rfl | hx
          ·exact plant_flat p (h5 q hm) hfv hr
          ·exact h5 x hx
         ·have hs:szOf ty t=s:=by simp[szOf,h1]
          rw[hs,h3];have:(i+1) * szOf ty e≤n * szOf ty e:=Nat.mul_le_mul_right _ hin;rw[Nat.succ_mul] at this;omega
         ·simp only[leaves];rw[hset j,hqlen];by_cases hj:i * szOf ty e≤j∧j < i * szOf ty e+szOf ty e
          ·rw[if_pos hj,a3];by_cases hj2:d'≤j - i * szOf ty e∧j - i * szOf ty e < d'+szOf ty u
           ·rw[if_pos hj2,if_pos (by omega)];congr 1;omega
           ·rw[if_neg hj2,if_neg (by omega)];have:=leavesL_at (szOf ty e) es hlen i q hq (j - i * szOf ty e) (by omega);rw[← this];congr 1;omega
          ·rw[if_neg hj,if_neg (by omega)]
        ·cases hd
       ·cases hd
      ·cases hz
     ·cases hz
theorem offTy_append {ty:Tys}:∀ (p q:List Nat) {t u:TypeId} {d e:Nat},tyAt ty t p=some u→offTy ty t p=some d→offTy ty u q=some e→offTy ty t (p++q)=some (d+e)
 | [],q,t,u,d,e,h,hd,he=>by simp[tyAt] at h;simp[offTy] at hd;subst h;subst hd;simpa using he
 | i::p,q,t,u,d,e,h,hd,he=>by
   simp only[tyAt,offTy,List.cons_append] at h hd ⊢;split at h
   ·rename_i fs _ _ _ hty;split at h
    ·rename_i v hv;simp only[hty,hv] at hd ⊢;split at hd
     ·rename_i d' hd';injection hd with hd;subst hd
      rw[offTy_append p q h hd' he];simp[Nat.add_assoc]
     ·cases hd
    ·cases h
   ·rename_i n el _ _ _ hty;simp only[hty] at hd ⊢;split at hd
    ·rename_i hin;rw[if_pos hin];split at hd
     ·rename_i d' hd';injection hd with hd;subst hd
      rw[offTy_append p q h hd' he];simp[Nat.add_assoc]
     ·cases hd
    ·cases hd
   ·cases h
end Go.Abs
end
section
namespace Go.Abs
open Go Go.RowKit
def kv1:AV→Value
 | .int k n=> .int k n
 | .bool b=> .bool b
 | _=>undef
def kv:AV→Value
 | .st _ fs=> .agg (fs.map kv1).toArray
 | x=>kv1 x
def mpE (ks:List AV) (fs:List FuncId):List (Value × Value):=(ks.map kv).zip (fs.map fun f=> .func (.func f) #[] #[])
inductive LR (ty:Tys) (w:World) (okb:Nat→Prop):AV→Value→Prop
 | int (k:IntKind) (n:Int):LR ty w okb (.int k n) (.int k n)
 | bool (b:Bool):LR ty w okb (.bool b) (.bool b)
 | str (s:ByteArray):LR ty w okb (.str s) (.string s)
 | pnil:LR ty w okb .pnil (.pointer none)
 | fnil:LR ty w okb .fnil .nilFunc
 | fn (f:FuncId) (cs:List AV) (us:Array Value):us.size=cs.length→(∀ (i:Nat) (x:AV),cs[i]? = some x→LR ty w okb x (us.getD i undef))→
    LR ty w okb (.fn f cs) (.func (.func f) #[] us)
 | slN (t:TypeId) (fl:Fl) (c:Nat):fl.nil ≠ some false→c=0→LR ty w okb (.sl t fl []) (.slice none 0 c)
 | sl (t:TypeId) (fl:Fl) (es:List AV) (blk off c:Nat) (vs:Nat→Value):es.length≤c→fl.nil ≠ some true→(fl.tight=true→c=es.length)→
    (es ≠ []→okb blk∧blk < w.heap.size)→(∀ x ∈ es,Conf ty t x)→
    (∀ (j:Nat) (y:AV),(leavesL es)[j]? = some y→w.cell? ⟨blk,off+j,none⟩=some (vs j))→
    (∀ (j:Nat) (y:AV),(leavesL es)[j]? = some y→LR ty w okb y (vs j))→
    LR ty w okb (.sl t fl es) (.slice (some ⟨blk,off,none⟩) es.length c)
 | ro (fr:Bool) (t:TypeId) (x:AV) (blk off:Nat) (vs:Nat→Value):okb blk→blk < w.heap.size→Conf ty t x→
    (∀ (j:Nat) (y:AV),(leaves x)[j]? = some y→w.cell? ⟨blk,off+j,none⟩=some (vs j))→
    (∀ (j:Nat) (y:AV),(leaves x)[j]? = some y→LR ty w okb y (vs j))→
    LR ty w okb (.ro fr t x) (.pointer (some ⟨blk,off,none⟩))
 | mpN (t:TypeId):LR ty w okb (.mp t [] []) (.map none)
 | mp (t:TypeId) (ks:List AV) (fs:List FuncId) (blk:Nat) (es:Array MapEntry) (cl:Nat):okb blk→blk < w.heap.size→ks ≠ []→ks.length=fs.length→w.heap[blk]? = some (.map es cl)→
    (es.toList.map fun e=>(e.key,e.val)).Perm (mpE ks fs)→(ks.map kv).Pairwise (·≠ ·)→LR ty w okb (.mp t ks fs) (.map (some blk))
theorem LR.mono {ty:Tys} {w w':World} {okb okb':Nat→Prop} {x:AV} {v:Value} (h:LR ty w okb x v)
 (hk:∀ b,okb b→b < w.heap.size→okb' b∧b < w'.heap.size∧w'.heap[b]? = w.heap[b]?):LR ty w' okb' x v:=by
 induction h with
 | int k n=>exact .int k n
 | bool b=>exact .bool b
 | str s=>exact .str s
 | pnil=>exact .pnil
 | fnil=>exact .fnil
 | fn f cs us h1 _ ih=>exact .fn f cs us h1 ih
 | slN t fl c h1 h2=>exact .slN t fl c h1 h2
 | sl t fl es blk off c vs h1 h2 h3 h4 h5 h6 h7 ih=>
   refine .sl t fl es blk off c vs h1 h2 h3 (fun hne=>?_) h5 (fun j y hy=>?_) ih
   ·obtain⟨a,b⟩:=h4 hne;exact⟨(hk _ a b).1,(hk _ a b).2.1⟩
   ·have hne:es ≠ []:=by rintro rfl;simp[leavesL] at hy
    obtain⟨a,b⟩:=h4 hne;rw[← h6 j y hy];exact World.cell?_of_block (hk _ a b).2.2
 | ro fr t x blk off vs h1 h2 h3 h4 h5 ih=>
   obtain⟨a,b,c⟩:=hk _ h1 h2;exact .ro fr t x blk off vs a b h3 (fun j y hy=>by rw[← h4 j y hy];exact World.cell?_of_block c) ih
 | mpN t=>exact .mpN t
 | mp t ks fs blk es cl h1 h2 h3 h3' h4 h5 h6=>
   obtain⟨a,b,c⟩:=hk _ h1 h2;exact .mp t ks fs blk es cl a b h3 h3' (c.trans h4) h5 h6
theorem LR.cell {ty:Tys} {w:World} {okb:Nat→Prop} {x:AV} {v:Value} (h:LR ty w okb x v):(∀ cs,v ≠ .agg cs)∧(∀ cs,v ≠ .tuple cs):=by
 cases h <;> simp
theorem LR.leaf {ty:Tys} {w:World} {okb:Nat→Prop} {x:AV} {v:Value} (h:LR ty w okb x v):leafV x=true:=by
 cases h <;> rfl
structure Cx where
 ty:Tys
 base:Nat
 w:World
 β:Nat→Option Nat
 mu:Nat→Prop
 new:Nat→Prop
def Cx.okb (c:Cx) (fr:Bool) (b:Nat):Prop:=¬ c.mu b∧(fr=true→c.base≤b)
inductive OR (c:Cx):AV→Value→Prop
 | undef (v:Value):OR c .undef v
 | cl {x:AV} {v:Value}:LR c.ty c.w (c.okb (frOf x)) x v→OR c x v
 | ownN (o:Nat) (t:TypeId):c.β o=none→OR c (.own o t 0 0) (.slice none 0 0)
 | own (o:Nat) (t:TypeId) (off n k cp:Nat) (arr:Array Value) (e:TypeId):c.β o=some k→c.w.heap[k]? = some (.cells arr e (0,0))→
    (off+cp) * szOf c.ty t=arr.size→n≤cp→OR c (.own o t off n) (.slice (some ⟨k,off * szOf c.ty t,none⟩) n cp)
 | ptr (o:Nat) (r:RT) (p:List Nat) (k d:Nat):c.β o=some k→offRT c.ty r p=some d→OR c (.ptr o r p) (.pointer (some ⟨k,d,none⟩))
 | fn (f:FuncId) (cs:List AV) (vs:Array Value):vs.size=cs.length→(∀ (i:Nat) (x:AV),cs[i]? = some x→OR c x (vs.getD i undef))→
    OR c (.fn f cs) (.func (.func f) #[] vs)
def F2 (R:AV→Value→Prop) (xs:List AV) (vs:List Value):Prop:=
 xs.length=vs.length∧∀ (i:Nat) (x:AV) (v:Value),xs[i]? = some x→vs[i]? = some v→R x v
def VR1 (c:Cx):AV→Value→Prop
 | .st t fs,v=>∃ vs,v = .agg vs∧Conf c.ty t (.st t fs)∧F2 (OR c) (leaves (.st t fs)) vs.toList
 | .ar t es,v=>∃ vs,v = .agg vs∧Conf c.ty t (.ar t es)∧F2 (OR c) (leaves (.ar t es)) vs.toList
 | .tup _,_=>False
 | x,v=>OR c x v
def VR (c:Cx):AV→Value→Prop
 | .tup xs,v=>∃ vs,v = .tuple vs∧F2 (VR1 c) xs vs.toList
 | x,v=>VR1 c x v
theorem VR1_leaf {c:Cx} {x:AV} {v:Value} (h:leafV x=true):VR1 c x v↔OR c x v:=by cases x <;> simp_all [VR1,leafV]
theorem VR_one {c:Cx} {x:AV} {v:Value} (h:VR1 c x v):VR c x v:=by cases x <;> first | exact h | exact h.elim
structure Mono0 (c c':Cx):Prop where
 ty:c'.ty=c.ty
 base:c'.base=c.base
 size:c.w.heap.size≤c'.w.heap.size
 keep:∀ b:Nat,¬ c.mu b→b < c.w.heap.size→¬ c'.mu b∧c'.w.heap[b]? = c.w.heap[b]?
 rows:∀ (b:Nat) (arr:Array Value) (e:TypeId),c.w.heap[b]? = some (.cells arr e (0,0))→∃ arr',c'.w.heap[b]? = some (.cells arr' e (0,0))∧arr'.size=arr.size
structure Mono (c c':Cx):Prop extends Mono0 c c' where
 new:c'.new=c.new
theorem Mono0.lr {c c':Cx} (m:Mono0 c c') {fr:Bool} {x:AV} {v:Value} (h:LR c.ty c.w (c.okb fr) x v):LR c'.ty c'.w (c'.okb fr) x v:=by
 rw[m.ty];refine h.mono fun b hb hlt=>?_
 obtain⟨h1,h2⟩:=m.keep b hb.1 hlt;exact⟨⟨h1,fun hf=>by rw[m.base];exact hb.2 hf⟩,Nat.lt_of_lt_of_le hlt m.size,h2⟩
theorem mentL_get (o:Nat):∀ (cs:List AV),ment.mentL o cs=false→∀ (i:Nat) (x:AV),cs[i]? = some x→ment o x=false
 | [],_,i,x,h=>by simp at h
 | y::r,h,0,x,hx=>by simp[ment.mentL] at h;simp at hx;subst hx;exact h.1
 | y::r,h,i+1,x,hx=>by simp[ment.mentL] at h;exact mentL_get o r h.2 i x (by simpa using hx)
theorem Mono0.or {c c':Cx} (m:Mono0 c c') {x:AV} {v:Value} (h:OR c x v) (hβ:∀ o,ment o x=true→c'.β o=c.β o):OR c' x v:=by
 induction h with
 | undef v=>exact .undef v
 | cl h=>exact .cl (m.lr h)
 | ownN o t h=>exact .ownN o t (by rw[hβ o (by simp[ment])];exact h)
 | own o t off n k cp arr e h1 h2 h3 h4=>
   obtain⟨arr',h5,h6⟩:=m.rows k arr e h2;have:=OR.own (c:=c') o t off n k cp arr' e (by rw[hβ o (by simp[ment])];exact h1) h5 (by rw[m.ty,h6];exact h3) h4
   rwa [m.ty] at this
 | ptr o r p k d h1 h2=>exact .ptr o r p k d (by rw[hβ o (by simp[ment])];exact h1) (by rw[m.ty];exact h2)
 | fn f cs vs h1 _ ih=>
   refine .fn f cs vs h1 fun i x hx=>ih i x hx fun o ho=>hβ o ?_
   simp only[ment];cases hm:ment.mentL o cs with
   | true=>rfl
   | false=>rw[mentL_get o cs hm i x hx] at ho;cases ho
theorem leaves_ment (o:Nat):∀ (n:Nat) (x:AV) ,SizeOf.sizeOf x < n→flat x=true→∀ y ∈ leaves x,ment o y=false
 | 0,_,h,_,_,_=>by omega
 | n+1,x,h,hf,y,hy=>by
   cases x with
   | st t fs=>
     simp only[leaves] at hy;have hall:=(flatL_iff fs).1 (by simpa[flat] using hf);have key:∀ (l:List AV),(∀ z ∈ l,flat z=true∧SizeOf.sizeOf z < n)→∀ y ∈ leavesL l,ment o y=false:=by
      intro l
      induction l with
      | nil=>intro _ y hy;simp[leavesL] at hy
      | cons a r ih=>
        intro hl y hy;simp only[leavesL,List.mem_append] at hy;rcases hy with hy | hy
        ·exact leaves_ment o n a (hl a (by simp)).2 (hl a (by simp)).1 y hy
        ·exact ih (fun z hz=>hl z (by simp[hz])) y hy
     refine key fs (fun z hz=>⟨hall z hz,?_⟩) y hy;have:=List.sizeOf_lt_of_mem hz;simp at h;omega
   | ar t es=>simp[flat] at hf
   | int k a=>simp[leaves] at hy;subst hy;simp[ment]
   | bool b=>simp[leaves] at hy;subst hy;simp[ment]
   | str s=>simp[leaves] at hy;subst hy;simp[ment]
   | _=>simp[flat] at hf
theorem leavesL_ment (o:Nat) (l:List AV) (h:∀ x ∈ l,∀ y ∈ leaves x,ment o y=false):∀ y ∈ leavesL l,ment o y=false:=by
 induction l with
 | nil=>intro y hy;simp[leavesL] at hy
 | cons a r ih=>
   intro y hy;simp only[leavesL,List.mem_append] at hy;rcases hy with hy | hy
   ·exact h a (by simp) y hy
   ·exact ih (fun x hx=>h x (by simp[hx])) y hy
theorem ment_leaf {ty:Tys} {t:TypeId} {x:AV} (hc:Conf ty t x) (o:Nat) (h:ment o x=false):∀ y ∈ leaves x,ment o y=false:=by
 induction hc with
 | leaf _ _ _ h4=>intro y hy;rw[leaves_leaf h4] at hy;simp at hy;subst hy;exact h
 | @st t ts s b z fs h1 h2 h3 h4 ih=>
   simp only[leaves];refine leavesL_ment o fs fun x hx=>?_
   obtain⟨i,hi,e⟩:=List.getElem_of_mem hx;have hx':fs[i]? = some x:=by rw[List.getElem?_eq_getElem hi,e]
   obtain⟨u,hu⟩:∃ u,ts[i]? = some u:=⟨ts[i]'(by omega),by rw[List.getElem?_eq_getElem]⟩
   exact ih i x u hx' hu (mentL_get o fs (by simpa[ment] using h) i x hx')
 | ar h1 h2 h3 h4 h5 _=>
   simp only[leaves];exact leavesL_ment o _ fun x hx=>leaves_ment o _ x (Nat.lt_succ_self _) (h5 x hx)
theorem Mono0.vr1 {c c':Cx} (m:Mono0 c c') {x:AV} {v:Value} (h:VR1 c x v) (hβ:∀ o,ment o x=true→c'.β o=c.β o):VR1 c' x v:=by
 have hβ':∀ o,c'.β o=c.β o∨ment o x=false:=fun o=>by
  cases hm:ment o x with
  | true=>exact .inl (hβ o hm)
  | false=>exact .inr rfl
 have key:∀ t,Conf c.ty t x→∀ vs:Array Value,F2 (OR c) (leaves x) vs.toList→F2 (OR c') (leaves x) vs.toList:=fun t hc vs hF=>by
  refine⟨hF.1,fun i y u hy hu=>m.or (hF.2 i y u hy hu) fun o ho=>?_⟩;rcases hβ' o with h | h
  ·exact h
  ·rw[ment_leaf hc o h y (List.mem_of_getElem? hy)] at ho;cases ho
 cases x with
 | st t fs=>obtain⟨vs,e,hc,hF⟩:=h;exact⟨vs,e,by rw[m.ty];exact hc,key t hc vs hF⟩
 | ar t es=>obtain⟨vs,e,hc,hF⟩:=h;exact⟨vs,e,by rw[m.ty];exact hc,key t hc vs hF⟩
 | tup _=>exact h.elim
 | _=>exact m.or h hβ
theorem Mono0.vr {c c':Cx} (m:Mono0 c c') {x:AV} {v:Value} (h:VR c x v) (hβ:∀ o,ment o x=true→c'.β o=c.β o):VR c' x v:=by
 cases x with
 | tup xs=>
   obtain⟨vs,e,hF⟩:=h;refine⟨vs,e,hF.1,fun i y u hy hu=>m.vr1 (hF.2 i y u hy hu) fun o ho=>hβ o ?_⟩;simp only[ment];cases hm:ment.mentL o xs with
   | true=>rfl
   | false=>rw[mentL_get o xs hm i y hy] at ho;cases ho
 | _=>exact VR_one (m.vr1 (show VR1 c _ v from h) hβ)
def cellR (c:Cx) (b:Obj) (x:AV) (v:Value):Prop:=
 match b.r with
 | .box _=>OR c x v
 | .row _=>LR c.ty c.w (c.okb b.fr) x v
 | .rop _=>OR c x v
abbrev ConfB (ty:Tys) (b:Obj):Prop:=match b.r with
 | .box t=>∃ x,b.es=[x]∧Conf ty t x
 | .row t=>(∀ x ∈ b.es,Conf ty t x)∧0 < szOf ty t
 | .rop t=>(∀ x ∈ b.es,Conf ty t x)∧0 < szOf ty t
structure ObR (c:Cx) (o:Nat) (b:Obj):Prop where
 conf:ConfB c.ty b
 blk:match c.β o with
  | none=>(∃ t,b.r = .row t)∧b.es=[]
  | some k=>c.new k∧∃ arr e,c.w.heap[k]? = some (.cells arr e (0,0))∧
     ∀ (j:Nat) (x:AV),(leavesL b.es)[j]? = some x→∃ v,arr[j]? = some v∧cellR c b x v
theorem Mono0.cellR {c c':Cx} (m:Mono0 c c') {b:Obj} {x:AV} {v:Value} (h:cellR c b x v) (hβ:∀ o,(∃ t,b.r = .box t∨b.r = .rop t)→Abs.ment o x=true→c'.β o=c.β o):cellR c' b x v:=by
 unfold Abs.cellR at *;split at h
 ·rename_i t hr;exact m.or h fun o ho=>hβ o ⟨t,.inl hr⟩ ho
 ·exact m.lr h
 ·rename_i t hr;exact m.or h fun o ho=>hβ o ⟨t,.inr hr⟩ ho
theorem mem_leavesL0 {l:List AV} {y:AV} (h:y ∈ leavesL l):∃ x ∈ l,y ∈ leaves x:=by
 induction l with
 | nil=>simp[leavesL] at h
 | cons a r ih=>
   simp only[leavesL,List.mem_append] at h;rcases h with h | h
   ·exact⟨a,List.mem_cons_self ..,h⟩
   ·obtain⟨x,h1,h2⟩:=ih h;exact⟨x,List.mem_cons_of_mem _ h1,h2⟩
theorem mentL_leaf {ty:Tys} {t:TypeId} {es:List AV} (hc:∀ x ∈ es,Conf ty t x) (o:Nat) (hm:ment.mentL o es=false) {x:AV} (hx:x ∈ leavesL es):Abs.ment o x=false:=by
 obtain⟨y,h1,h2⟩:=mem_leavesL0 hx;obtain⟨i,hi,e⟩:=List.getElem_of_mem h1;exact ment_leaf (hc y h1) o (mentL_get o es hm i y (by rw[List.getElem?_eq_getElem hi,e])) x h2
theorem Mono.obR {c c':Cx} (m:Mono c c') {o:Nat} {b:Obj} (h:ObR c o b) (hβ:∀ o',b.ment o'=true→c'.β o'=c.β o') (ho:c'.β o=c.β o)
 (hk:∀ k,c.β o=some k→c'.w.heap[k]? = c.w.heap[k]?):ObR c' o b:=by
 obtain⟨h1,h2⟩:=h;refine⟨by rw[m.ty];exact h1,?_⟩;rw[ho];split
 ·rename_i hn;rw[hn] at h2;exact h2
 ·rename_i k hs;rw[hs] at h2;obtain⟨a,arr,e,h3,h4⟩:=h2;refine⟨by rw[m.new];exact a,arr,e,by rw[hk k hs];exact h3,fun j x hx=>?_⟩;obtain⟨v,h5,h6⟩:=h4 j x hx;refine⟨v,h5,m.cellR h6 fun o' ⟨t,hr⟩ hm=>hβ o' ?_⟩;unfold ConfB at h1;rcases hr with hr | hr
  rotate_left
  ·rw[hr] at h1;simp only[Obj.ment,hr];cases hq:Abs.ment.mentL o' b.es with
   | true=>rfl
   | false=>rw[mentL_leaf h1.1 o' hq (List.mem_of_getElem? hx)] at hm;cases hm
  rw[hr] at h1;obtain⟨y,e1,e2⟩:=h1;simp only[Obj.ment,hr,e1,Abs.ment.mentL,Bool.or_false];cases hq:Abs.ment o' y with
  | true=>rfl
  | false=>
    rw[e1] at hx;simp only[leavesL,List.append_nil] at hx;rw[ment_leaf e2 o' hq x (List.mem_of_getElem? hx)] at hm;cases hm
def lowOf (lo:Option Nat) (n:Nat):Nat:=match lo with | none=>n | some B=>min B n
theorem lowOf_le (lo:Option Nat) (n:Nat):lowOf lo n≤n:=by cases lo <;> simp[lowOf];omega
structure BelowL (L:Nat→Prop) (B:Nat) (w w':World):Prop where
 os:w'.os=w.os
 tape:w'.tape=w.tape
 output:w'.output=w.output
 size:w.heap.size≤w'.heap.size
 block:∀ k,k < B→¬ L k→w'.heap[k]? = w.heap[k]?
 rows:∀ (b:Nat) (arr:Array Value) (e:TypeId),w.heap[b]? = some (.cells arr e (0,0))→∃ arr',w'.heap[b]? = some (.cells arr' e (0,0))∧arr'.size=arr.size
theorem BelowL.of {L:Nat→Prop} {B:Nat} {w w':World} (h:Below w.heap.size w w') (hB:B≤w.heap.size):BelowL L B w w':=
 ⟨h.os,h.tape,h.output,h.size,fun k hk _=>h.block k (by omega),fun b arr e hb=>⟨arr,by rw[h.block b (Array.getElem?_eq_some_iff.1 hb).1];exact hb,rfl⟩⟩
theorem BelowL.refl (L:Nat→Prop) (B:Nat) (w:World):BelowL L B w w:=⟨rfl,rfl,rfl,Nat.le_refl _,fun _ _ _=>rfl,fun _ arr _ hb=>⟨arr,hb,rfl⟩⟩
theorem BelowL.trans {L:Nat→Prop} {B:Nat} {a b c:World} (h:BelowL L B a b) (k:BelowL L B b c):BelowL L B a c:=
 ⟨k.os.trans h.os,k.tape.trans h.tape,k.output.trans h.output,Nat.le_trans h.size k.size,fun i hi hl=>(k.block i hi hl).trans (h.block i hi hl),fun b arr e hb=>by
   obtain⟨arr1,h1,h2⟩:=h.rows b arr e hb;obtain⟨arr2,h3,h4⟩:=k.rows b arr1 e h1;exact⟨arr2,h3,h4.trans h2⟩⟩
theorem BelowL.plain {L:Nat→Prop} {B:Nat} {w w':World} (h:BelowL L B w w') (hL:∀ k,¬ L k):Below B w w':=⟨h.os,h.tape,h.output,h.size,fun k hk=>h.block k hk (hL k)⟩
def lentOf (E:Env) (k:Nat):Prop:=E.lent k∧¬ E.okA k
def cxOf (E:Env) (w0:World) (σ:St) (w:World) (β:Nat→Option Nat):Cx:=
 ⟨E.ty,lowOf E.lo w0.heap.size,w,β,fun k=>(k < w0.heap.size∧¬ E.okA k)∨∃ o b,aget o σ.ob=some b∧β o=some k,fun k=>w0.heap.size≤k∨(E.lent k∧¬ E.okA k)⟩
def Marks (B:Nat) (ds:List Deferred) (w:World):Prop:=
 (∀ d ∈ ds,∃ D,d = { target:= .collected D,args:=#[] }∧B≤D∧w.heap[D]? = some (Go.Obj.deferred (some [])))∧ds.Pairwise (fun x y=>x ≠ y)
theorem Marks.nil (B:Nat) (w:World):Marks B [] w:=⟨fun d hd=>by simp at hd,List.Pairwise.nil⟩
theorem Marks.to {B:Nat} {ds:List Deferred} {w w':World} (h:Marks B ds w) (hw:∀ k:Nat,w.heap[k]? = some (Go.Obj.deferred (some []))→w'.heap[k]? = some (Go.Obj.deferred (some []))):Marks B ds w':=
 ⟨fun d hd=>by obtain⟨D,h1,h2,h3⟩:=h.1 d hd;exact⟨D,h1,h2,hw D h3⟩,h.2⟩
theorem Marks.below {B:Nat} {ds:List Deferred} {w w':World} (h:Marks B ds w) (hb:Below w.heap.size w w'):Marks B ds w':=
 h.to fun k hk=>by rw[hb.block k (Array.getElem?_eq_some_iff.1 hk).1];exact hk
structure Sim (E:Env) (w0:World) (σ:St) (a:Act) (w:World) (β:Nat→Option Nat):Prop where
 below:BelowL (lentOf E) w0.heap.size w0 w
 size:a.tmps.size=E.n
 defers:Marks w0.heap.size a.defers w
 tms:∀ t x,aget t σ.tm=some x→t < E.n∧VR (cxOf E w0 σ w β) x (a.tmps.getD t undef)
 obs:∀ o b,aget o σ.ob=some b→ObR (cxOf E w0 σ w β) o b
 inj:∀ o o' b b' k,aget o σ.ob=some b→aget o' σ.ob=some b'→β o=some k→β o'=some k→o=o'
end Go.Abs
end
section
namespace Go.Abs
open Go Go.RowKit
def setBlk (w:World) (b:Nat) (o:Go.Obj):World:={ w with heap:=w.heap.setIfInBounds b o }
@[simp] theorem setBlk_size (w:World) (b:Nat) (o:Go.Obj):(setBlk w b o).heap.size=w.heap.size:=by simp[setBlk]
theorem setBlk_same (w:World) (b:Nat) (o:Go.Obj) (h:b < w.heap.size):(setBlk w b o).heap[b]? = some o:=by simp[setBlk,h]
theorem setBlk_other (w:World) (b c:Nat) (o:Go.Obj) (h:c ≠ b):(setBlk w b o).heap[c]? = w.heap[c]?:=by
 simp only[setBlk,Array.getElem?_setIfInBounds];rw[if_neg (by omega)]
theorem setBlk_setBlk (w:World) (b:Nat) (o o':Go.Obj):setBlk (setBlk w b o) b o'=setBlk w b o':=by
 simp[setBlk]
theorem setBlk_self (w:World) (b:Nat) (o:Go.Obj) (h:w.heap[b]? = some o):setBlk w b o=w:=by
 have:w.heap.setIfInBounds b o=w.heap:=by
  apply Array.ext_getElem?;intro i;rw[Array.getElem?_setIfInBounds];split
  ·rename_i hi;subst hi;rw[h];split
   ·rfl
   ·rename_i hn;rw[Array.getElem?_eq_none (by omega)] at h;cases h
  ·rfl
 cases w;simp_all [setBlk]
theorem setCell_blk (w:World) (b o:Nat) (v:Value) (arr:Array Value) (e:TypeId) (h:w.heap[b]? = some (.cells arr e (0,0))) :
 w.setCell ⟨b,o,none⟩ v=setBlk w b (.cells (arr.setIfInBounds o v) e (0,0)):=by
 have:(w.setCell ⟨b,o,none⟩ v).heap=w.heap.setIfInBounds b (.cells (arr.setIfInBounds o v) e (0,0)):=by
  apply Array.ext_getElem?;intro i;simp only[World.setCell,Array.getElem?_modify,Array.getElem?_setIfInBounds];by_cases hi:b=i
  ·subst hi;simp[h];exact (Array.getElem?_eq_some_iff.1 h).1
  ·simp[hi]
 unfold setBlk;rw[← this];rfl
theorem cell_blk (w:World) (b o:Nat) (arr:Array Value) (e:TypeId) (fr:Nat × Nat) (h:w.heap[b]? = some (.cells arr e fr)):w.cell? ⟨b,o,none⟩=arr[o]?:=by
 simp[World.cell?,h]
theorem frozen_blk (w:World) (b o:Nat) (arr:Array Value) (e:TypeId) (h:w.heap[b]? = some (.cells arr e (0,0))):w.frozen? ⟨b,o,none⟩=false:=by
 simp[World.frozen?,h]
theorem add_none (b o n:Nat):(⟨b,o,none⟩:Addr).add n=⟨b,o+n,none⟩:=by
 unfold Addr.add;split <;> simp_all
def spl (arr:Array Value) (o:Nat):List Value→Array Value
 | []=>arr
 | v::r=>spl (arr.setIfInBounds o v) (o+1) r
@[simp] theorem spl_size:∀ (vs:List Value) (arr:Array Value) (o:Nat),(spl arr o vs).size=arr.size
  | [],arr,o=>rfl
  | v::r,arr,o=>by simp[spl,spl_size r]
theorem spl_get:∀ (vs:List Value) (arr:Array Value) (o j:Nat),o+vs.length≤arr.size→
 (spl arr o vs)[j]? = if o≤j∧j < o+vs.length then vs[j - o]? else arr[j]?
 | [],arr,o,j,_=>by simp[spl];omega
 | v::r,arr,o,j,h=>by
   simp only[List.length_cons] at h ⊢;rw[spl,spl_get r _ _ _ (by simp;omega)];by_cases h1:o+1≤j∧j < o+1+r.length
   ·rw[if_pos h1,if_pos (by omega)];have:j - o=(j - (o+1))+1:=by omega
    rw[this];simp
   ·rw[if_neg h1,Array.getElem?_setIfInBounds];by_cases h2:o=j
    ·subst h2;rw[if_pos rfl,if_pos (by omega),if_pos (by omega)];simp
    ·rw[if_neg h2,if_neg (by omega)]
def oneCell (v:Value):Prop:=(∀ cs,v ≠ .agg cs)∧(∀ cs,v ≠ .tuple cs)
theorem run_store_blk (P:Program) (w:World) (b o:Nat) (v:Value) (arr:Array Value) (e:TypeId) (h:w.heap[b]? = some (.cells arr e (0,0))) (ho:o < arr.size) (hv:oneCell v) :
 (store ⟨b,o,none⟩ v).run P w = .ok () (setBlk w b (.cells (arr.setIfInBounds o v) e (0,0))):=by
 have hc:w.cell? ⟨b,o,none⟩=some arr[o]:=by rw[cell_blk w b o arr e _ h];simp[ho]
 have hf:=frozen_blk w b o arr e h;have hs:=setCell_blk w b o v arr e h;cases v <;> simp only[store,Sem.run,hc,hf,hs,Bool.false_eq_true,if_false] <;> first | rfl | (exact absurd rfl (hv.1 _)) | (exact absurd rfl (hv.2 _))
theorem run_storeCells_blk (P:Program) (b off:Nat) (e:TypeId):∀ (vs:List Value) (i:Nat) (w:World) (arr:Array Value),w.heap[b]? = some (.cells arr e (0,0))→
 off+i+vs.length≤arr.size→(∀ v ∈ vs,oneCell v)→(storeCells ⟨b,off,none⟩ vs i).run P w = .ok () (setBlk w b (.cells (spl arr (off+i) vs) e (0,0)))
 | [],i,w,arr,h,_,_=>by simp[storeCells,spl,setBlk_self w b _ h]
 | v::r,i,w,arr,h,hl,hv=>by
   simp only[List.length_cons] at hl;have hb:b < w.heap.size:=(Array.getElem?_eq_some_iff.1 h).1;simp only[storeCells,Sem.run_bind,add_none];rw[run_store_blk P w b (off+i) v arr e h (by omega) (hv v (by simp))];simp only[Result.andThen_ok];rw[run_storeCells_blk P b off e r (i+1) _ _ (setBlk_same w b _ hb) (by simp;omega) (fun u hu=>hv u (by simp[hu]))];rw[setBlk_setBlk];rfl
theorem run_loadCellsFrom_at (P:Program) (w:World) (b off:Nat):∀ (us:List Value) (i:Nat) (acc:Array Value),
 (∀ (j:Nat) (v:Value),us[j]? = some v→w.cell? ⟨b,off+(i+j),none⟩=some v)→(loadCellsFrom ⟨b,off,none⟩ i us.length acc).run P w = .ok (acc++us.toArray) w
 | [],i,acc,_=>by simp[loadCellsFrom]
 | v::r,i,acc,h=>by
   have h0:=h 0 v rfl;simp only[List.length_cons,loadCellsFrom,Sem.run_bind,add_none,run_load];rw[show off+i=off+(i+0) from rfl,h0];simp only[Result.andThen_ok];rw[run_loadCellsFrom_at P w b off r (i+1) _ (fun j u hu=>by have:=h (j+1) u (by simpa using hu);rw[← this];congr 2;omega)];simp
def kindOk (P:Program) (ty:Tys) (t:TypeId) (d:TyD):Prop:=
 match d.k with
 | .int k=>P.underlying t=some (.int k)
 | .bool=>P.underlying t=some .bool
 | .str=>P.underlying t=some .string
 | .slice e=>P.underlying t=some (.slice e)∧0 < szOf ty e
 | .struct ts=>∃ fs,P.underlying t=some (.struct fs)∧fs.size=ts.length∧∀ (i:Nat) (f:Field),fs[i]? = some f→ts[i]? = some f.type∧f.offset=((ts.take i).map (szOf ty)).sum
 | .array n e=>P.underlying t=some (.array n e)
 | .ptr e=>P.underlying t=some (.pointer e)
 | .func=>∃ ps rs v,P.underlying t=some (.func ps rs v)
 | .map k e=>P.underlying t=some (.map k e)
def eqOkT (P:Program) (t:TypeId):Bool:= !P.stoodInHeld t&& !P.eqGuardType P.depth t&&(P.fieldsOf t).toList.all (fun f=>f.name != "_")
structure TyOk1 (P:Program) (ty:Tys) (t:TypeId) (d:TyD):Prop where
 kind:kindOk P ty t d
 info:∃ i z,P.info? t=some i∧i.size=d.size∧i.bytes=d.bytes∧i.zero=some z∧
  F2 (fun x v=>∀ (w:World) (okb:Nat→Prop),LR ty w okb x v) (leaves d.zero) z.cells.toList∧(isLeaf d.k=false→∃ cs,z = .agg cs)
 conf:Conf ty t d.zero
 leafz:isLeaf d.k=true→∀ i z,P.info? t=some i→i.zero=some z→∀ cs,z ≠ .agg cs
 flatz:closed d.zero=true∧fresh d.zero=true∧(∀ o,ment o d.zero=false)
def TyOk (P:Program) (ty:Tys):Prop:=∀ t d,ty t=some d→TyOk1 P ty t d
theorem TyOk1.size {ty:Tys} {t:TypeId} {d:TyD} (ht:ty t=some d):szOf ty t=d.size:=by simp[szOf,ht]
section
variable {P:Program} {ty:Tys}
theorem run_isAgg_ty (hT:TyOk P ty) {t:TypeId} {d:TyD} (h:ty t=some d) (w:World):(isAgg t).run P w = .ok (!isLeaf d.k) w:=by
 have hk:=(hT t d h).kind;unfold isAgg;simp only[Sem.run_bind];unfold kindOk at hk;split at hk <;> rename_i hd <;> simp only[hd,isLeaf]
 case h_1=>rw[run_underlying hk];rfl
 case h_2=>rw[run_underlying hk];rfl
 case h_3=>rw[run_underlying hk];rfl
 case h_4=>rw[run_underlying hk.1];rfl
 case h_5=>obtain⟨fs,h1,_⟩:=hk;rw[run_underlying h1];rfl
 case h_6=>rw[run_underlying hk];rfl
 case h_7=>rw[run_underlying hk];rfl
 case h_8=>obtain⟨a,b,c,h1⟩:=hk;rw[run_underlying h1];rfl
 case h_9=>rw[run_underlying hk];rfl
theorem run_sizeOf_ty (hT:TyOk P ty) {t:TypeId} {d:TyD} (h:ty t=some d) (w:World):(Go.sizeOf t).run P w = .ok (szOf ty t) w:=by
 obtain⟨i,z,h1,h2,_⟩:=(hT t d h).info;have:szOf ty t=i.size:=by simp[szOf,h,h2]
 simp[Go.sizeOf,typeInfo,h1,this]
theorem run_zero_ty (hT:TyOk P ty) {t:TypeId} {d:TyD} (h:ty t=some d) (w:World) :
 ∃ z,(zeroValue t).run P w = .ok z w∧F2 (fun x v=>∀ (w:World) (okb:Nat→Prop),LR ty w okb x v) (leaves d.zero) z.cells.toList∧(isLeaf d.k=false→∃ cs,z = .agg cs):=by
 obtain⟨i,z,h1,_,_,h4,h5,h6⟩:=(hT t d h).info;exact⟨z,by simp[zeroValue,typeInfo,h1,h4],h5,h6⟩
end
end Go.Abs
end
section
namespace Go.Abs
open Go Go.RowKit
theorem aget_adel {α:Type} (t u:Nat):∀ (l:List (Nat × α)),aget t (adel u l)=if u=t then none else aget t l
 | []=>by simp[adel,aget]
 | (x,v)::r=>by
   by_cases h:x=u
   ·simp only[adel,h,if_true,aget_adel t u r,aget];by_cases h2:u=t <;> simp[h2]
   ·simp only[adel,h,if_false,aget,aget_adel t u r];by_cases h2:x=t
    ·have:u ≠ t:=by omega
     simp[h2,this]
    ·simp[h2]
theorem aget_aput {α:Type} (t u:Nat) (v:α) (l:List (Nat × α)):aget t (aput u v l)=if u=t then some v else aget t l:=by
 simp only[aput,aget,aget_adel];split <;> rfl
theorem obind_eq {α β:Type} {x:Option α} {f:α→Option β} {b:β} (h:obind x f=some b):∃ a,x=some a∧f a=some b:=by
 cases x with
 | none=>simp[obind] at h
 | some a=>exact⟨a,rfl,h⟩
theorem Mono.of_below {E:Env} {w0 w w':World} {σ:St} {β:Nat→Option Nat} (h:Below w.heap.size w w'):Mono (cxOf E w0 σ w β) (cxOf E w0 σ w' β) where
 ty:=rfl
 base:=rfl
 new:=rfl
 size:=h.size
 keep:=fun b hb hl=>⟨hb,h.block b hl⟩
 rows:=fun b arr e hb=>⟨arr,by show w'.heap[b]? = _;rw[h.block b (Array.getElem?_eq_some_iff.1 hb).1];exact hb,rfl⟩
theorem Sim.grow {E:Env} {w0 w w':World} {σ:St} {a:Act} {β:Nat→Option Nat} (h:Sim E w0 σ a w β) (hb:Below w.heap.size w w'):Sim E w0 σ a w' β where
 below:=h.below.trans (.of hb h.below.size)
 size:=h.size
 defers:=h.defers.below hb
 tms:=fun t x hx=>⟨(h.tms t x hx).1,(Mono.of_below hb).vr (h.tms t x hx).2 fun _ _=>rfl⟩
 obs:=fun o b ho=>(Mono.of_below hb).obR (h.obs o b ho) (fun _ _=>rfl) rfl fun k hk=>by
  have:=(h.obs o b ho).blk;have hk':β o=some k:=hk;simp only[cxOf,hk'] at this;obtain⟨_,arr,e,h1,_⟩:=this;exact hb.block k (Array.getElem?_eq_some_iff.1 h1).1
 inj:=h.inj
theorem Sim.put {E:Env} {w0 w:World} {σ:St} {a:Act} {β:Nat→Option Nat} (h:Sim E w0 σ a w β) {t:Nat} {x:AV} {v:Value} (ht:t < E.n)
 (hx:VR (cxOf E w0 σ w β) x v):Sim E w0 ⟨aput t x σ.tm,σ.ob⟩ (a.put (some t) v) w β where
 below:=h.below
 size:=by simp[Act.put,h.size]
 defers:=h.defers
 tms:=fun u y hy=>by
  simp only[aget_aput] at hy;split at hy
  ·rename_i e;subst e;injection hy with hy;subst hy
   refine⟨ht,?_⟩;have:(a.put (some t) v).tmps.getD t undef=v:=by simp[Act.put,h.size,ht]
   rw[this];exact hx
  ·rename_i e;obtain⟨h1,h2⟩:=h.tms u y hy;refine⟨h1,?_⟩;have:(a.put (some t) v).tmps.getD u undef=a.tmps.getD u undef:=by
    simp only[Act.put,Array.getD_eq_getD_getElem?,Array.getElem?_setIfInBounds];rw[if_neg e]
   rw[this];exact h2
 obs:=h.obs
 inj:=h.inj
theorem Sim.less {E:Env} {w0 w:World} {σ σ':St} {a:Act} {β:Nat→Option Nat} (h:Sim E w0 σ a w β) (ht:∀ t x,aget t σ'.tm=some x→aget t σ.tm=some x)
 (ho:∀ o b,aget o σ'.ob=some b→aget o σ.ob=some b):Sim E w0 σ' a w β:=by
 have m:Mono (cxOf E w0 σ w β) (cxOf E w0 σ' w β):={
  ty:=rfl,base:=rfl,new:=rfl,size:=Nat.le_refl _
  keep:=fun b hb _=>⟨fun hmu=>hmu.elim (fun q=>hb (.inl q)) fun⟨o,b',h1,h2⟩=>hb (.inr ⟨o,b',ho o b' h1,h2⟩),rfl⟩
  rows:=fun b arr e hb=>⟨arr,hb,rfl⟩ }
 exact {
  below:=h.below,size:=h.size,defers:=h.defers
  tms:=fun t x hx=>⟨(h.tms t x (ht t x hx)).1,m.vr (h.tms t x (ht t x hx)).2 fun _ _=>rfl⟩
  obs:=fun o b hb=>m.obR (h.obs o b (ho o b hb)) (fun _ _=>rfl) rfl fun _ _=>rfl
  inj:=fun o o' b b' k h1 h2=>h.inj o o' b b' k (ho o b h1) (ho o' b' h2) }
theorem freeT_get {d:Nat}:∀ {l:List (Nat × AV)},St.free.freeT d l=true→∀ t x,aget t l=some x→ment d x=false
 | [],_,t,x,h=>by simp[aget] at h
 | (u,y)::r,hf,t,x,h=>by
   simp only[St.free.freeT,Bool.and_eq_true,Bool.not_eq_true'] at hf;simp only[aget] at h;split at h
   ·injection h with h;subst h;exact hf.1
   ·exact freeT_get hf.2 t x h
theorem freeO_get {d:Nat}:∀ {l:List (Nat × Obj)},St.free.freeO d l=true→∀ o b,aget o l=some b→o ≠ d→b.ment d=false
 | [],_,t,x,h=>by simp[aget] at h
 | (u,y)::r,hf,t,x,h=>fun hne=>by
   simp only[St.free.freeO,Bool.and_eq_true,Bool.or_eq_true] at hf;simp only[aget] at h;split at h
   ·rename_i e;injection h with h;subst h
    rcases hf.1 with h1 | h1
    ·simp at h1;omega
    ·unfold Obj.ment;cases hr:y.r <;> simp[hr] at h1 ⊢;all_goals exact h1
   ·exact freeO_get hf.2 t x h hne
theorem Sim.new {E:Env} {w0 w:World} {σ:St} {a:Act} {β:Nat→Option Nat} (h:Sim E w0 σ a w β) {d:Nat} (hf:σ.free d=true) {b:Obj} {arr:Array Value} {e:TypeId}
 (hconf:ConfB E.ty b)
 (hm:b.ment d=false)
 (hcell:∀ (j:Nat) (x:AV),(leavesL b.es)[j]? = some x→∃ v,arr[j]? = some v∧cellR (cxOf E w0 σ w β) b x v) :
 Sim E w0 ⟨σ.tm,aput d b σ.ob⟩ a (w.alloc (.cells arr e)) (fun o=>if o=d then some w.heap.size else β o)∧
 Mono (cxOf E w0 σ w β) (cxOf E w0 ⟨σ.tm,aput d b σ.ob⟩ (w.alloc (.cells arr e)) (fun o=>if o=d then some w.heap.size else β o)):=by
 simp only[St.free,Bool.and_eq_true] at hf;have hbl:Below w.heap.size w (w.alloc (.cells arr e)):=(Below.refl _ _).alloc (Nat.le_refl _) _;have hnew:(w.alloc (.cells arr e)).heap[w.heap.size]? = some (.cells arr e (0,0)):=by
  show (w.heap.push _)[w.heap.size]? = _;simp
 have m:Mono (cxOf E w0 σ w β) (cxOf E w0 ⟨σ.tm,aput d b σ.ob⟩ (w.alloc (.cells arr e)) (fun o=>if o=d then some w.heap.size else β o)):={
  ty:=rfl,base:=rfl,new:=rfl,size:=hbl.size
  keep:=fun k hk hl=>⟨fun hmu=>hmu.elim (fun q=>hk (.inl q)) fun⟨o,b',h1,h2⟩=>by
   simp only[aget_aput] at h1;dsimp only at h2;by_cases ho:o=d
   ·rw[if_pos ho] at h2;injection h2 with h2
    have:k < w.heap.size:=hl;omega
   ·rw[if_neg ho] at h2;rw[if_neg (Ne.symm ho)] at h1;exact hk (.inr ⟨o,b',h1,h2⟩),hbl.block k hl⟩
  rows:=fun k arr' e' hk=>⟨arr',by
   show (w.alloc (.cells arr e)).heap[k]? = _;rw[hbl.block k (Array.getElem?_eq_some_iff.1 hk).1];exact hk,rfl⟩ }
 refine⟨?_,m⟩;exact {
  below:=h.below.trans (.of hbl h.below.size),size:=h.size,defers:=h.defers.below hbl
  tms:=fun t x hx=>⟨(h.tms t x hx).1,m.vr (h.tms t x hx).2 fun o ho=>by
   show (if o=d then _ else β o)=β o;rw[if_neg];rintro rfl;rw[freeT_get hf.1 t x hx] at ho;cases ho⟩
  obs:=fun o b' ho=>by
   simp only[aget_aput] at ho;split at ho
   ·rename_i e1;subst e1;injection ho with ho;subst ho
    refine⟨by exact hconf,?_⟩;simp only[cxOf,if_true];refine⟨.inl h.below.size,arr,e,hnew,fun j x hx=>?_⟩;obtain⟨v,h1,h2⟩:=hcell j x hx;refine⟨v,h1,m.cellR h2 fun o' ⟨t,hr⟩ hmo=>?_⟩;show (if o'=d then _ else β o')=β o';rw[if_neg];rintro rfl;unfold ConfB at hconf;rcases hr with hr | hr
    rotate_left
    ·rw[hr] at hconf;have hy:Abs.ment.mentL o' b.es=false:=by simpa[Obj.ment,hr] using hm
     rw[mentL_leaf hconf.1 o' hy (List.mem_of_getElem? hx)] at hmo;cases hmo
    rw[hr] at hconf;obtain⟨y,e1,e2⟩:=hconf;have hy:Abs.ment o' y=false:=by
     simpa[Obj.ment,hr,e1,Abs.ment.mentL] using hm
    rw[e1] at hx;simp only[leavesL,List.append_nil] at hx;rw[ment_leaf e2 o' hy x (List.mem_of_getElem? hx)] at hmo;cases hmo
   ·rename_i hne;refine m.obR (h.obs o b' ho) (fun o' ho'=>?_) ?_ fun k hk=>?_
    ·show (if o'=d then _ else β o')=β o';rw[if_neg];rintro rfl;rw[freeO_get hf.2 o b' ho (Ne.symm hne)] at ho';cases ho'
    ·show (if o=d then _ else β o)=β o;rw[if_neg (Ne.symm hne)]
    ·have:=(h.obs o b' ho).blk;have hk':β o=some k:=hk;simp only[cxOf,hk'] at this;obtain⟨_,arr',e',h1,_⟩:=this;exact hbl.block k (Array.getElem?_eq_some_iff.1 h1).1
  inj:=fun o o' b1 b2 k h1 h2 k1 k2=>by
   have lt:∀ o b',aget o σ.ob=some b'→β o=some k→k < w.heap.size:=fun o b' ho hk=>by
    have:=(h.obs o b' ho).blk;simp only[cxOf,hk] at this;obtain⟨_,arr',e',h1,_⟩:=this;exact (Array.getElem?_eq_some_iff.1 h1).1
   simp only[aget_aput] at h1 h2;by_cases e1:o=d <;> by_cases e2:o'=d
   ·omega
   ·rw[if_pos e1] at k1;rw[if_neg e2] at k2;rw[if_neg (Ne.symm e2)] at h2;injection k1 with k1
    have:=lt o' b2 h2 k2;omega
   ·rw[if_neg e1] at k1;rw[if_pos e2] at k2;rw[if_neg (Ne.symm e1)] at h1;injection k2 with k2
    have:=lt o b1 h1 k1;omega
   ·rw[if_neg e1] at k1;rw[if_neg e2] at k2;rw[if_neg (Ne.symm e1)] at h1;rw[if_neg (Ne.symm e2)] at h2;exact h.inj o o' b1 b2 k h1 h2 k1 k2 }
theorem Sim.write {E:Env} {w0 w:World} {σ:St} {a:Act} {β:Nat→Option Nat} (h:Sim E w0 σ a w β) {o k:Nat} {b b':Obj} {arr arr':Array Value} {e:TypeId}
 (ho:aget o σ.ob=some b) (hk:β o=some k) (hh:w.heap[k]? = some (.cells arr e (0,0))) (hs:arr'.size=arr.size)
 (hconf:ConfB E.ty b')
 (hcell:∀ (j:Nat) (x:AV),(leavesL b'.es)[j]? = some x→∃ v,arr'[j]? = some v∧cellR (cxOf E w0 σ w β) b' x v) :
 Sim E w0 ⟨σ.tm,aput o b' σ.ob⟩ a (setBlk w k (.cells arr' e (0,0))) β∧
 Mono (cxOf E w0 σ w β) (cxOf E w0 ⟨σ.tm,aput o b' σ.ob⟩ (setBlk w k (.cells arr' e (0,0))) β):=by
 have hlt:k < w.heap.size:=(Array.getElem?_eq_some_iff.1 hh).1;have hbase:w0.heap.size≤k∨(E.lent k∧¬ E.okA k):=by
  have:=(h.obs o b ho).blk;simp only[cxOf,hk] at this;exact this.1
 have hlive:∀ o1,(∃ b1,aget o1 (aput o b' σ.ob)=some b1)↔(∃ b1,aget o1 σ.ob=some b1):=fun o1=>by
  simp only[aget_aput];by_cases e1:o=o1
  ·subst e1;simp[ho]
  ·simp[e1]
 have m:Mono (cxOf E w0 σ w β) (cxOf E w0 ⟨σ.tm,aput o b' σ.ob⟩ (setBlk w k (.cells arr' e (0,0))) β):={
  ty:=rfl,base:=rfl,new:=rfl,size:=by simp[cxOf]
  keep:=fun q hq hl=>by
   have hqk:q ≠ k:=by rintro rfl;exact hq (.inr ⟨o,b,ho,hk⟩)
   refine⟨fun hmu=>hmu.elim (fun z=>hq (.inl z)) fun⟨o1,b1,h1,h2⟩=>?_,setBlk_other w k q _ hqk⟩;obtain⟨b2,hb2⟩:=(hlive o1).1 ⟨b1,h1⟩;exact hq (.inr ⟨o1,b2,hb2,h2⟩)
  rows:=fun q arr2 e2 hq=>by
   by_cases hqk:q=k
   ·subst hqk;have hq':w.heap[q]? = some (.cells arr2 e2 (0,0)):=hq;rw[hh] at hq';injection hq' with hq';injection hq' with h1 h2 h3
    subst h1;subst h2;exact⟨arr',setBlk_same w q _ hlt,hs⟩
   ·exact⟨arr2,(setBlk_other w k q _ hqk).trans hq,rfl⟩ }
 refine⟨?_,m⟩;exact {
  below:=h.below.trans ⟨rfl,rfl,rfl,by simp,fun q hq hL=>setBlk_other w k q _ (by rintro rfl;rcases hbase with hb | hb;omega;exact hL hb),m.rows⟩
  size:=h.size,defers:=h.defers.to fun q hq=>by rw[setBlk_other w k q _ (by rintro rfl;rw[hh] at hq;cases hq)];exact hq
  tms:=fun t x hx=>⟨(h.tms t x hx).1,m.vr (h.tms t x hx).2 fun _ _=>rfl⟩
  obs:=fun o1 b1 h1=>by
   simp only[aget_aput] at h1;split at h1
   ·rename_i e1;subst e1;injection h1 with h1;subst h1
    refine⟨by exact hconf,?_⟩;simp only[cxOf,hk];refine⟨hbase,arr',e,setBlk_same w k _ hlt,fun j x hx=>?_⟩;obtain⟨v,h2,h3⟩:=hcell j x hx;exact⟨v,h2,m.cellR h3 fun _ _ _=>rfl⟩
   ·rename_i hne;refine m.obR (h.obs o1 b1 h1) (fun _ _=>rfl) rfl fun q hq=>?_
    refine setBlk_other w k q _ ?_;rintro rfl;exact hne (h.inj o o1 b b1 q ho h1 hk hq)
  inj:=fun o1 o2 b1 b2 q h1 h2 k1 k2=>by
   obtain⟨c1,hc1⟩:=(hlive o1).1 ⟨b1,h1⟩;obtain⟨c2,hc2⟩:=(hlive o2).1 ⟨b2,h2⟩;exact h.inj o1 o2 c1 c2 q hc1 hc2 k1 k2 }
end Go.Abs
end
section
namespace Go.Abs
open Go Go.RowKit
def GlobOk (E:Env) (w:World):Prop:=∀ g t x,E.G g=some (t,x)→LR E.ty w E.okA (.ro false t x) (.pointer (some ⟨g,0,none⟩))
theorem Sim.mut_lt {E:Env} {w0 w:World} {σ:St} {a:Act} {β:Nat→Option Nat} (h:Sim E w0 σ a w β) {k:Nat} (hk:∃ o b,aget o σ.ob=some b∧β o=some k):(w0.heap.size≤k∨(E.lent k∧¬ E.okA k))∧k < w.heap.size:=by
 obtain⟨o,b,h1,h2⟩:=hk;have:=(h.obs o b h1).blk;simp only[cxOf,h2] at this;obtain⟨h3,arr,e,h4,_⟩:=this;exact⟨h3,(Array.getElem?_eq_some_iff.1 h4).1⟩
theorem Sim.old {E:Env} {w0 w:World} {σ:St} {a:Act} {β:Nat→Option Nat} (h:Sim E w0 σ a w β) {x:AV} {v:Value} (hx:LR E.ty w0 E.okA x v) :
 LR E.ty w ((cxOf E w0 σ w β).okb false) x v:=by
 refine hx.mono fun b hA hb=>⟨⟨fun hm=>hm.elim (fun z=>z.2 hA) fun hm=>?_,fun hf=>by cases hf⟩,Nat.lt_of_lt_of_le hb h.below.size,h.below.block b hb fun hl=>hl.2 hA⟩
 rcases (h.mut_lt hm).1 with h1 | h1
 ·omega
 ·exact h1.2 hA
theorem val_sound {E:Env} {w0 w:World} {σ:St} {a:Act} {β:Nat→Option Nat} (h:Sim E w0 σ a w β) (hG:GlobOk E w0) {x:Operand} {v:AV} (hv:σ.val E.G x=some v) :
 VR (cxOf E w0 σ w β) v (a.eval x):=by
 cases x with
 | tmp t=>exact (h.tms t v hv).2
 | const c=>
   simp only[St.val] at hv;unfold ofVal at hv;split at hv <;> first | (injection hv with hv;subst hv) | cases hv
   ·exact .cl (.int _ _)
   ·exact .cl (.bool _)
   ·exact .cl (.str _)
   ·exact .cl (.slN _ _ _ (by simp) rfl)
   ·exact .cl .pnil
   ·exact .cl .fnil
 | func f=>
   simp only[St.val] at hv;injection hv with hv;subst hv
   exact .fn f [] #[] rfl (fun i x hx=>by simp at hx)
 | global g=>
   simp only[St.val] at hv;split at hv
   ·rename_i y hy;injection hv with hv;subst hv
    exact .cl (h.old (hG g y.1 y.2 (by rw[hy])))
   ·cases hv
theorem OR.one {c:Cx} {x:AV} {v:Value} (h:OR c x v) (hx:x ≠ .undef):oneCell v:=by
 cases h with
 | undef v=>exact absurd rfl hx
 | cl h=>exact h.cell
 | _=>exact⟨by simp,by simp⟩
theorem LR.one {ty:Tys} {w:World} {okb:Nat→Prop} {x:AV} {v:Value} (h:LR ty w okb x v):oneCell v:=h.cell
theorem oneCell.cells {v:Value} (h:oneCell v):v.cells = #[v]:=by
 cases v <;> first | rfl | exact absurd rfl (h.1 _)
theorem Conf.size1 {ty:Tys} {t:TypeId} {x:AV} {d:TyD} (h:Conf ty t x) (hd:ty t=some d) (hk:isLeaf d.k=true):d.size=1:=by
 cases h with
 | leaf h1 _ h3 _=>rw[hd] at h1;injection h1 with h1;subst h1;exact h3
 | st h1 _ _ _=>rw[hd] at h1;injection h1 with h1;subst h1;cases hk
 | ar h1 _ _ _ _=>rw[hd] at h1;injection h1 with h1;subst h1;cases hk
theorem fits_conf {P:Program} {E:Env} (hT:TyOk P E.ty) {c:Cx} (hc:c.ty=E.ty) {t:TypeId} {x:AV} {v:Value} (hf:fits E.ty t x=true) (hx:VR c x v) :
 Conf E.ty t x∧VR1 c x v∧x ≠ .undef:=by
 have leafc:leafV x=true→(match E.ty t with | some d=>isLeaf d.k | none=>false)=true→Conf E.ty t x:=fun hl hk=>by
  split at hk
  ·rename_i d hd;exact .leaf hd hk ((hT t d hd).conf.size1 hd hk) hl
  ·cases hk
 cases x with
 | st u fs=>
   simp[fits] at hf;subst hf;obtain⟨vs,e1,e2,e3⟩:=hx;rw[hc] at e2;exact⟨e2,⟨vs,e1,by rw[hc];exact e2,e3⟩,by simp⟩
 | ar u es=>
   simp[fits] at hf;subst hf;obtain⟨vs,e1,e2,e3⟩:=hx;rw[hc] at e2;exact⟨e2,⟨vs,e1,by rw[hc];exact e2,e3⟩,by simp⟩
 | tup _=>simp[fits] at hf
 | undef=>simp[fits] at hf
 | _=>exact⟨leafc rfl hf,hx,by simp⟩
theorem VR1.cells {c:Cx} {x:AV} {v:Value} (h:VR1 c x v) (hx:x ≠ .undef):F2 (OR c) (leaves x) v.cells.toList:=by
 cases x with
 | st t fs=>obtain⟨vs,e,_,h3⟩:=h;subst e;exact h3
 | ar t es=>obtain⟨vs,e,_,h3⟩:=h;subst e;exact h3
 | tup _=>exact h.elim
 | undef=>exact absurd rfl hx
 | _=>
   have h':OR c _ v:=h;rw[(h'.one hx).cells];refine⟨by simp[leaves],fun i y u hy hu=>?_⟩;cases i with
   | zero=>simp[leaves] at hy hu;subst hy;subst hu;exact h'
   | succ i=>simp[leaves] at hy
theorem F2.get {R:AV→Value→Prop} {xs:List AV} {vs:List Value} (h:F2 R xs vs) {j:Nat} {x:AV} (hx:xs[j]? = some x):∃ v,vs[j]? = some v∧R x v:=by
 have hj:j < vs.length:=by rw[← h.1];exact (List.getElem?_eq_some_iff.1 hx).1
 exact⟨vs[j],by simp[hj],h.2 j x _ hx (by simp[hj])⟩
theorem closedL_mem:∀ {l:List AV},closed.closedL l=true→∀ x ∈ l,closed x=true
 | [],_,x,h=>by simp at h
 | y::r,hc,x,h=>by
   simp only[closed.closedL,Bool.and_eq_true] at hc;rcases List.mem_cons.1 h with rfl | h
   ·exact hc.1
   ·exact closedL_mem hc.2 x h
theorem freshL_mem:∀ {l:List AV},fresh.freshL l=true→∀ x ∈ l,fresh x=true
 | [],_,x,h=>by simp at h
 | y::r,hc,x,h=>by
   simp only[fresh.freshL,Bool.and_eq_true] at hc;rcases List.mem_cons.1 h with rfl | h
   ·exact hc.1
   ·exact freshL_mem hc.2 x h
theorem flat_leaf:∀ (n:Nat) (x:AV),SizeOf.sizeOf x < n→flat x=true→∀ y ∈ leaves x,closed y=true∧fresh y=true∧(∀ fr,reflag fr y=y)∧leafV y=true
 | 0,_,h,_,_,_=>by omega
 | n+1,x,h,hf,y,hy=>by
   cases x with
   | st t fs=>
     simp only[leaves] at hy;have hall:=(flatL_iff fs).1 (by simpa[flat] using hf);have key:∀ (l:List AV),(∀ z ∈ l,flat z=true∧SizeOf.sizeOf z < n)→∀ y ∈ leavesL l,closed y=true∧fresh y=true∧(∀ fr,reflag fr y=y)∧leafV y=true:=by
      intro l
      induction l with
      | nil=>intro _ y hy;simp[leavesL] at hy
      | cons a r ih=>
        intro hl y hy;simp only[leavesL,List.mem_append] at hy;rcases hy with hy | hy
        ·exact flat_leaf n a (hl a (by simp)).2 (hl a (by simp)).1 y hy
        ·exact ih (fun z hz=>hl z (by simp[hz])) y hy
     refine key fs (fun z hz=>⟨hall z hz,?_⟩) y hy;have:=List.sizeOf_lt_of_mem hz;simp at h;omega
   | int k a=>simp[leaves] at hy;subst hy;simp[closed,fresh,reflag,leafV]
   | bool b=>simp[leaves] at hy;subst hy;simp[closed,fresh,reflag,leafV]
   | str s=>simp[leaves] at hy;subst hy;simp[closed,fresh,reflag,leafV]
   | _=>simp[flat] at hf
theorem mem_leavesL {l:List AV} {y:AV} (h:y ∈ leavesL l):∃ x ∈ l,y ∈ leaves x:=by
 induction l with
 | nil=>simp[leavesL] at h
 | cons a r ih=>
   simp only[leavesL,List.mem_append] at h;rcases h with h | h
   ·exact⟨a,by simp,h⟩
   ·obtain⟨x,h1,h2⟩:=ih h;exact⟨x,by simp[h1],h2⟩
theorem leaf_closed {ty:Tys} {t:TypeId} {x:AV} (hc:Conf ty t x):(closed x=true→∀ y ∈ leaves x,closed y=true)∧(closed x=true→fresh x=true→∀ y ∈ leaves x,fresh y=true):=by
 induction hc with
 | leaf _ _ _ h4=>
   rw[leaves_leaf h4];exact⟨fun h y hy=>by simp at hy;subst hy;exact h,fun _ h y hy=>by simp at hy;subst hy;exact h⟩
 | @st t ts s b z fs h1 h2 h3 h4 ih=>
   have key:∀ x ∈ fs,∃ u,(closed x=true→∀ y ∈ leaves x,closed y=true)∧(closed x=true→fresh x=true→∀ y ∈ leaves x,fresh y=true)∧ts[(0:Nat)]? = u:=fun x hx=>by
    obtain⟨i,hi,e⟩:=List.getElem_of_mem hx;have hx':fs[i]? = some x:=by rw[List.getElem?_eq_getElem hi,e]
    obtain⟨u,hu⟩:∃ u,ts[i]? = some u:=⟨ts[i]'(by omega),by rw[List.getElem?_eq_getElem]⟩
    obtain⟨a,b⟩:=ih i x u hx' hu;exact⟨_,a,b,rfl⟩
   simp only[leaves];refine⟨fun hcl y hy=>?_,fun hcl hfr y hy=>?_⟩
   ·obtain⟨x,h5,h6⟩:=mem_leavesL hy;obtain⟨_,a,_⟩:=key x h5;exact a (closedL_mem (by simpa[closed] using hcl) x h5) y h6
   ·obtain⟨x,h5,h6⟩:=mem_leavesL hy;obtain⟨_,_,b,_⟩:=key x h5;exact b (closedL_mem (by simpa[closed] using hcl) x h5) (freshL_mem (by simpa[fresh] using hfr) x h5) y h6
 | ar h1 h2 h3 h4 h5 _=>
   simp only[leaves];refine⟨fun _ y hy=>?_,fun _ _ y hy=>?_⟩
   ·obtain⟨x,h6,h7⟩:=mem_leavesL hy;exact (flat_leaf _ x (Nat.lt_succ_self _) (h5 x h6) y h7).1
   ·obtain⟨x,h6,h7⟩:=mem_leavesL hy;exact (flat_leaf _ x (Nat.lt_succ_self _) (h5 x h6) y h7).2.1
theorem OR.lr {c:Cx} {x:AV} {v:Value} (h:OR c x v) (hc:closed x=true) {fr:Bool} (hf:fr=true→fresh x=true):LR c.ty c.w (c.okb fr) x v:=by
 cases h with
 | undef v=>simp[closed] at hc
 | ownN=>simp[closed] at hc
 | own=>simp[closed] at hc
 | ptr=>simp[closed] at hc
 | fn f cs vs h1 h2=>
   simp only[closed,List.isEmpty_iff] at hc;subst hc;exact .fn f [] vs h1 (fun i x hx=>by simp at hx)
 | cl h=>
   refine h.mono fun b hb hlt=>⟨⟨hb.1,fun hfr=>hb.2 ?_⟩,hlt,rfl⟩
   have:=hf hfr;cases x <;> simp_all [fresh,frOf]
theorem LR.re {c:Cx} {fr:Bool} {x:AV} {v:Value} (h:LR c.ty c.w (c.okb fr) x v):OR c (reflag fr x) v:=by
 cases h with
 | int k n=>exact .cl (.int k n)
 | bool b=>exact .cl (.bool b)
 | str s=>exact .cl (.str s)
 | pnil=>exact .cl .pnil
 | fnil=>exact .cl .fnil
 | fn f cs us h1 h2=>
   simp only[reflag];split
   ·rename_i he;simp only[List.isEmpty_iff] at he;subst he;exact .fn f [] us h1 (fun i x hx=>by simp at hx)
   ·exact .undef _
 | slN t fl cc h1 h2=>exact .cl (.slN t _ cc h1 h2)
 | sl t fl es blk off cc vs h1 h2 h3 h4 h5 h6 h7=>exact .cl (.sl t _ es blk off cc vs h1 h2 h3 h4 h5 h6 h7)
 | ro f t x blk off vs h1 h2 h3 h4 h5=>exact .cl (.ro fr t x blk off vs h1 h2 h3 h4 h5)
 | mpN t=>exact .cl (.mpN t)
 | mp t ks fs blk es cl h1 h2 h3 h3' h4 h5 h6=>
   refine .cl (.mp t ks fs blk es cl ⟨h1.1,fun hf=>?_⟩ h2 h3 h3' h4 h5 h6);simp only[reflag,frOf,List.isEmpty_iff] at hf;exact absurd hf h3
theorem reflag_leafV {fr:Bool} {x:AV} (h:leafV x=true):leafV (reflag fr x)=true:=by
 cases x with
 | fn f cs=>simp only[reflag];split <;> rfl
 | _=>simp_all [reflag,leafV]
theorem reflagL_eq (fr:Bool):∀ (l:List AV),reflag.reflagL fr l=l.map (reflag fr)
 | []=>rfl
 | x::r=>by simp[reflag.reflagL,reflagL_eq fr r]
theorem leavesL_map {f:AV→AV}:∀ (l:List AV),(∀ x ∈ l,leaves (f x)=(leaves x).map f)→leavesL (l.map f)=(leavesL l).map f
 | [],_=>rfl
 | x::r,h=>by simp[leavesL,h x (by simp),leavesL_map r (fun y hy=>h y (by simp[hy]))]
theorem reflag_conf {ty:Tys} {fr:Bool} {t:TypeId} {x:AV} (hc:Conf ty t x):Conf ty t (reflag fr x)∧leaves (reflag fr x)=(leaves x).map (reflag fr):=by
 induction hc with
 | leaf h1 h2 h3 h4=>
   refine⟨.leaf h1 h2 h3 (reflag_leafV h4),?_⟩;rw[leaves_leaf h4,leaves_leaf (reflag_leafV h4)];rfl
 | @st t ts s b z fs h1 h2 h3 h4 ih=>
   simp only[reflag,leaves,reflagL_eq];refine⟨.st h1 (by simpa using h2) h3 fun i x u hx hu=>?_,leavesL_map fs fun x hx=>?_⟩
   ·simp only[List.getElem?_map,Option.map_eq_some_iff] at hx;obtain⟨y,hy,e⟩:=hx;subst e;exact (ih i y u hy hu).1
   ·obtain⟨i,hi,e⟩:=List.getElem_of_mem hx;have hx':fs[i]? = some x:=by rw[List.getElem?_eq_getElem hi,e]
    obtain⟨u,hu⟩:∃ u,ts[i]? = some u:=⟨ts[i]'(by omega),by rw[List.getElem?_eq_getElem]⟩
    exact (ih i x u hx' hu).2
 | ar h1 h2 h3 h4 h5 _=>
   refine⟨.ar h1 h2 h3 h4 h5,?_⟩;simp only[reflag,leaves];have:∀ y ∈ leavesL _,reflag fr y=id y:=fun y hy=>by
    obtain⟨x,h6,h7⟩:=mem_leavesL hy;exact (flat_leaf _ x (Nat.lt_succ_self _) (h5 x h6) y h7).2.2.1 fr
   rw[List.map_congr_left this,List.map_id]
end Go.Abs
end
section
namespace Go.Abs
open Go Go.RowKit
theorem list_choice {α β:Type}:∀ (xs:List α) (Q:Nat→α→β→Prop),(∀ (j:Nat) (z:α),xs[j]? = some z→∃ v,Q j z v)→
 ∃ us:List β,us.length=xs.length∧∀ (j:Nat) (z:α) (v:β),xs[j]? = some z→us[j]? = some v→Q j z v
 | [],Q,_=>⟨[],rfl,fun j z v h=>by simp at h⟩
 | x::r,Q,h=>by
   obtain⟨v0,h0⟩:=h 0 x rfl;obtain⟨us,h1,h2⟩:=list_choice r (fun j z v=>Q (j+1) z v) (fun j z hz=>h (j+1) z (by simpa using hz));refine⟨v0::us,by simp[h1],fun j z v hz hv=>?_⟩;cases j with
   | zero=>simp at hz hv;subst hz;subst hv;exact h0
   | succ j=>exact h2 j z v (by simpa using hz) (by simpa using hv)
def AR (R:AV→Value→Prop) (y:AV) (v:Value):Prop:=
 match y with
 | .st _ _=>∃ vs,v = .agg vs∧F2 R (leaves y) vs.toList
 | .ar _ _=>∃ vs,v = .agg vs∧F2 R (leaves y) vs.toList
 | _=>R y v
theorem Conf.isLeaf_iff {ty:Tys} {t:TypeId} {d:TyD} {y:AV} (hc:Conf ty t y) (hd:ty t=some d):isLeaf d.k=leafV y:=by
 cases hc with
 | leaf h1 h2 _ h4=>rw[hd] at h1;injection h1 with h1;subst h1;rw[h2,h4]
 | st h1 _ _ _=>rw[hd] at h1;injection h1 with h1;subst h1;rfl
 | ar h1 _ _ _ _=>rw[hd] at h1;injection h1 with h1;subst h1;rfl
theorem Conf.ty {ty:Tys} {t:TypeId} {y:AV} (hc:Conf ty t y):∃ d,ty t=some d:=by
 cases hc with
 | leaf h1 _ _ _=>exact⟨_,h1⟩
 | st h1 _ _ _=>exact⟨_,h1⟩
 | ar h1 _ _ _ _=>exact⟨_,h1⟩
theorem Conf.notTup {ty:Tys} {t:TypeId} {vs:List AV}:¬ Conf ty t (.tup vs):=by
 intro h;cases h with
 | leaf _ _ _ h4=>cases h4
theorem AR_leaf {R:AV→Value→Prop} {y:AV} {v:Value} (h:leafV y=true):AR R y v↔R y v:=by cases y <;> simp_all [AR,leafV]
section
variable {P:Program} {ty:Tys}
theorem run_loadVar_ty (hT:TyOk P ty) {R:AV→Value→Prop} {t:TypeId} {y:AV} {k d:Nat} {w:World} (hc:Conf ty t y)
 (hcell:∀ (j:Nat) (z:AV),(leaves y)[j]? = some z→∃ v,w.cell? ⟨k,d+j,none⟩=some v∧R z v) :
 ∃ v,(loadVar t ⟨k,d,none⟩).run P w = .ok v w∧AR R y v:=by
 obtain⟨D,hD⟩:=hc.ty;have hlf:=hc.isLeaf_iff hD;by_cases hl:leafV y=true
 ·obtain⟨v,h1,h2⟩:=hcell 0 y (by rw[leaves_leaf hl];rfl);refine⟨v,?_,(AR_leaf hl).2 h2⟩;unfold loadVar;rw[Sem.run_bind,run_isAgg_ty hT hD];simp only[Result.andThen_ok,hlf,hl,Bool.not_true,Bool.false_eq_true,if_false];rw[run_load];rw[show (⟨k,d,none⟩:Addr)=⟨k,d+0,none⟩ from rfl,h1]
 ·obtain⟨us,h1,h2⟩:=list_choice (leaves y) (fun j z v=>w.cell? ⟨k,d+j,none⟩=some v∧R z v) hcell;refine⟨.agg us.toArray,?_,?_⟩
  ·unfold loadVar;have hl':leafV y=false:=by simpa using hl
   rw[Sem.run_bind,run_isAgg_ty hT hD];simp only[Result.andThen_ok,hlf,hl',Bool.not_false,if_true];rw[Sem.run_bind,run_sizeOf_ty hT hD];simp only[Result.andThen_ok];rw[Sem.run_bind];unfold loadCells;have hsz:szOf ty t=us.length:=by rw[h1,hc.len]
   rw[hsz,run_loadCellsFrom_at P w k d us 0 #[] (fun j v hv=>?_)]
   ·simp
   ·have hj:j < (leaves y).length:=by rw[← h1];exact (List.getElem?_eq_some_iff.1 hv).1
    have:=(h2 j ((leaves y)[j]) v (by simp[hj]) hv).1;rw[← this];congr 2;omega
  ·have hF:F2 R (leaves y) us.toArray.toList:=⟨by simp[h1],fun i x v hx hv=>(h2 i x v hx (by simpa using hv)).2⟩
   cases y with
   | st t fs=>exact⟨_,rfl,hF⟩
   | ar t es=>exact⟨_,rfl,hF⟩
   | tup vs=>exact absurd hc Conf.notTup
   | _=>simp[leafV] at hl
theorem run_storeVar_ty (hT:TyOk P ty) {t:TypeId} {D:TyD} {v:Value} {k d:Nat} {w:World} {arr:Array Value} {e:TypeId} (hD:ty t=some D)
 (hh:w.heap[k]? = some (.cells arr e (0,0))) (hs:v.cells.size=szOf ty t) (hle:d+szOf ty t≤arr.size) (h1:∀ u ∈ v.cells.toList,oneCell u) :
 (storeVar t ⟨k,d,none⟩ v).run P w = .ok () (setBlk w k (.cells (spl arr d v.cells.toList) e (0,0))):=by
 unfold storeVar;rw[Sem.run_bind,run_sizeOf_ty hT hD];simp only[Result.andThen_ok,hs,ne_eq,not_true,if_false];have:=run_storeCells_blk P k d e v.cells.toList 0 w arr hh (by simp[hs];omega) h1;simpa using this
end
theorem obj_read {c:Cx} {o k d:Nat} {b:Obj} {p:List Nat} {y:AV} (h:ObR c o b) (hk:c.β o=some k) (hy:b.tree p=some y) (hd:offRT c.ty b.r p=some d) :
 ∃ u,b.r.tyAt c.ty p=some u∧Conf c.ty u y∧∃ arr e,c.w.heap[k]? = some (.cells arr e (0,0))∧
   ∀ (j:Nat) (z:AV),(leaves y)[j]? = some z→∃ v,c.w.cell? ⟨k,d+j,none⟩=some v∧cellR c b z v:=by
 obtain⟨h1,h2⟩:=h;rw[hk] at h2;obtain⟨_,arr,e,h3,h4⟩:=h2;have key:∀ u,Conf c.ty u y→(∀ j,j < szOf c.ty u→(leavesL b.es)[d+j]? = (leaves y)[j]?)→
  ∀ (j:Nat) (z:AV),(leaves y)[j]? = some z→∃ v,c.w.cell? ⟨k,d+j,none⟩=some v∧cellR c b z v:=fun u hc hl j z hz=>by
  have hj:j < szOf c.ty u:=by rw[← hc.len];exact (List.getElem?_eq_some_iff.1 hz).1
  obtain⟨v,h5,h6⟩:=h4 (d+j) z (by rw[hl j hj];exact hz);exact⟨v,by rw[cell_blk c.w k (d+j) arr e _ h3];exact h5,h6⟩
 unfold Obj.tree at hy;unfold ConfB at h1;cases hr:b.r with
 | box t=>
   rw[hr] at h1 hd;obtain⟨x,hx,hc⟩:=h1;simp only[hr,hx] at hy;obtain⟨u,a1,a2,a3⟩:=hc.tree p hy hd;refine⟨u,a1,a2,arr,e,h3,key u a2 fun j hj=>?_⟩;rw[hx];simp only[leavesL,List.append_nil];exact a3 j hj
 | row t=>
   rw[hr] at h1 hd;obtain⟨hall,hpos⟩:=h1;cases p with
   | nil=>simp[hr] at hy
   | cons i p=>
     simp only[hr] at hy;split at hy
     ·rename_i x hx;simp only[offRT] at hd;split at hd
      ·rename_i d' hd';injection hd with hd;subst hd
       have hm:x ∈ b.es:=List.mem_of_getElem? hx;obtain⟨u,a1,a2,a3⟩:=(hall x hm).tree p hy hd';refine⟨u,a1,a2,arr,e,h3,key u a2 fun j hj=>?_⟩;rw[← a3 j hj];have hlt:d'+j < szOf c.ty t:=by
        have h5:((leaves x)[d'+j]?).isSome:=by rw[a3 j hj];simp[a2.len,hj]
        simp[(hall x hm).len] at h5;exact h5
       have:=leavesL_at (szOf c.ty t) b.es (fun z hz=>(hall z hz).len) i x hx (d'+j) hlt;rw[← this];congr 1;omega
      ·cases hd
     ·cases hy
 | rop t=>
   rw[hr] at h1 hd;obtain⟨hall,hpos⟩:=h1;cases p with
   | nil=>simp[hr] at hy
   | cons i p=>
     simp only[hr] at hy;split at hy
     ·rename_i x hx;simp only[offRT] at hd;split at hd
      ·rename_i d' hd';injection hd with hd;subst hd
       have hm:x ∈ b.es:=List.mem_of_getElem? hx;obtain⟨u,a1,a2,a3⟩:=(hall x hm).tree p hy hd';refine⟨u,a1,a2,arr,e,h3,key u a2 fun j hj=>?_⟩;rw[← a3 j hj];have hlt:d'+j < szOf c.ty t:=by
        have h5:((leaves x)[d'+j]?).isSome:=by rw[a3 j hj];simp[a2.len,hj]
        simp[(hall x hm).len] at h5;exact h5
       have:=leavesL_at (szOf c.ty t) b.es (fun z hz=>(hall z hz).len) i x hx (d'+j) hlt;rw[← this];congr 1;omega
      ·cases hd
     ·cases hy
theorem solidL_mem:∀ {l:List AV},solid.solidL l=true→∀ x ∈ l,solid x=true
 | [],_,x,h=>by simp at h
 | y::r,hc,x,h=>by
   simp only[solid.solidL,Bool.and_eq_true] at hc;rcases List.mem_cons.1 h with rfl | h
   ·exact hc.1
   ·exact solidL_mem hc.2 x h
theorem solid_leaf {ty:Tys} {t:TypeId} {x:AV} (hc:Conf ty t x) (h:solid x=true):∀ y ∈ leaves x,y ≠ .undef:=by
 induction hc with
 | leaf _ _ _ h4=>
   rw[leaves_leaf h4];intro y hy;simp at hy;subst hy;rintro rfl;cases h
 | @st t ts s b z fs h1 h2 h3 h4 ih=>
   simp only[leaves];intro y hy;obtain⟨x,h5,h6⟩:=mem_leavesL hy;obtain⟨i,hi,e⟩:=List.getElem_of_mem h5;have hx':fs[i]? = some x:=by rw[List.getElem?_eq_getElem hi,e]
   obtain⟨u,hu⟩:∃ u,ts[i]? = some u:=⟨ts[i]'(by omega),by rw[List.getElem?_eq_getElem]⟩
   exact ih i x u hx' hu (solidL_mem (by simpa[solid] using h) x h5) y h6
 | ar h1 h2 h3 h4 h5 _=>
   simp only[leaves];intro y hy;obtain⟨x,h6,h7⟩:=mem_leavesL hy;rintro rfl;have:=(flat_leaf _ x (Nat.lt_succ_self _) (h5 x h6) _ h7).1;cases this
theorem VR1.all {c:Cx} {ty:Tys} {t:TypeId} {y:AV} {v:Value} (hc:Conf ty t y) (hv:VR1 c y v) (hs:solid y=true) :
 v.cells.size=szOf ty t∧(∀ u ∈ v.cells.toList,oneCell u)∧∀ (j:Nat) (z:AV),(leaves y)[j]? = some z→∃ u,v.cells.toList[j]? = some u∧OR c z u:=by
 have hne:y ≠ .undef:=by rintro rfl;cases hs
 have hF:=hv.cells hne;refine⟨by rw[← hc.len,hF.1];simp,fun u hu=>?_,fun j z hz=>hF.get hz⟩;obtain⟨i,hi,e⟩:=List.getElem_of_mem hu;have hi':i < (leaves y).length:=by rw[hF.1];exact hi
 have h1:(leaves y)[i]? = some (leaves y)[i]:=by simp[hi']
 exact (hF.2 i _ u h1 (by rw[List.getElem?_eq_getElem hi,e])).one (solid_leaf hc hs _ (List.getElem_mem hi'))
theorem okb_weak {c:Cx} {f g:Bool} {x:AV} {v:Value} (h:LR c.ty c.w (c.okb f) x v) (hw:g=true→f=true):LR c.ty c.w (c.okb g) x v:=
 h.mono fun _ hb hlt=>⟨⟨hb.1,fun hg=>hb.2 (hw hg)⟩,hlt,rfl⟩
theorem obj_write {c:Cx} {o k d:Nat} {b b':Obj} {p:List Nat} {t:TypeId} {y:AV} {v:Value} (h:ObR c o b) (hk:c.β o=some k) (hp:b.plant p y=some b') (hd:offRT c.ty b.r p=some d)
 (hu:b.r.tyAt c.ty p=some t) (hc:Conf c.ty t y) (hv:VR1 c y v) (hs:solid y=true) :
 b'.r=b.r∧∃ arr e,c.w.heap[k]? = some (.cells arr e (0,0))∧d+szOf c.ty t≤arr.size∧
  ConfB c.ty b'∧
  (∀ (j:Nat) (x:AV),(leavesL b'.es)[j]? = some x→∃ u,(spl arr d v.cells.toList)[j]? = some u∧cellR c b' x u):=by
 obtain⟨hsz,_,hall⟩:=hv.all hc hs;obtain⟨h1,h2⟩:=h;rw[hk] at h2;obtain⟨_,arr,e,h3,h4⟩:=h2;have hlen:(leavesL b.es).length≤arr.size:=by
  rcases Nat.lt_or_ge arr.size (leavesL b.es).length with hlt | hge
  ·obtain⟨v,h5,_⟩:=h4 arr.size ((leavesL b.es)[arr.size]) (by simp[hlt]);simp at h5
  ·exact hge
 unfold Obj.plant at hp;unfold ConfB at h1;cases hr:b.r with
 | rop t0=>rw[hr] at hp;cases p <;> simp at hp
 | box t0=>
   rw[hr] at h1 hd hu;obtain⟨x,hx,hcx⟩:=h1;simp only[hr,hx] at hp;split at hp
   ·cases hp
   ·rename_i hfl;split at hp
    ·rename_i z hz;injection hp with hp;subst hp
     obtain⟨a1,a2,a3⟩:=hcx.plant p hz hu hc hd (fun hin=>by
      cases hfy:flat y with
      | true=>rfl
      | false=>exact absurd (by simp[hin,hfy]) hfl)
     have hL:(leavesL b.es).length=szOf c.ty t0:=by rw[hx];simp[leavesL,hcx.len]
     refine⟨rfl,arr,e,h3,by omega,⟨z,rfl,a1⟩,fun j w hw=>?_⟩;simp only[leavesL,List.append_nil] at hw;rw[spl_get _ _ _ _ (by simp[hsz];omega)];rw[a3 j] at hw;have hvl:v.cells.toList.length=szOf c.ty t:=by simp[hsz]
     rw[hvl];by_cases hj:d≤j∧j < d+szOf c.ty t
     ·rw[if_pos hj] at hw ⊢;obtain⟨u,h5,h6⟩:=hall _ _ hw;exact⟨u,h5,h6⟩
     ·rw[if_neg hj] at hw ⊢;obtain⟨u,h5,h6⟩:=h4 j w (by rw[hx];simpa[leavesL] using hw);refine⟨u,h5,?_⟩;simp only[cellR,hr] at h6 ⊢;exact h6
    ·cases hp
 | row t0=>
   rw[hr] at h1 hd hu;obtain⟨hel,hpos⟩:=h1;cases p with
   | nil=>simp[hr] at hp
   | cons i p=>
     simp only[hr] at hp;split at hp
     ·rename_i hcl;split at hp
      ·rename_i x hx;split at hp
       ·cases hp
       ·rename_i hfl;split at hp
        ·rename_i z hz;injection hp with hp;subst hp
         simp only[offRT] at hd;split at hd
         ·rename_i d' hd';injection hd with hd;subst hd
          have hm:x ∈ b.es:=List.mem_of_getElem? hx;have hi:i < b.es.length:=(List.getElem?_eq_some_iff.1 hx).1;obtain⟨a1,a2,a3⟩:=(hel x hm).plant p hz hu hc hd' (fun hin=>by
           cases hfy:flat y with
           | true=>rfl
           | false=>exact absurd (by simp[hin,hfy]) hfl)
          have hL:(leavesL b.es).length=b.es.length * szOf c.ty t0:=leavesL_len_const _ _ fun q hq=>(hel q hq).len
          have hb:(i+1) * szOf c.ty t0≤b.es.length * szOf c.ty t0:=Nat.mul_le_mul_right _ hi;rw[Nat.succ_mul] at hb;refine⟨rfl,arr,e,h3,by omega,⟨fun q hq=>?_,hpos⟩,fun j w hw=>?_⟩
          ·rcases mem_set_or hq with rfl | hq
           ·exact a1
           ·exact hel q hq
          ·have hset:=leavesL_set b.es i x z (i * szOf c.ty t0) hx (by rw[a1.len,(hel x hm).len])
            (by rw[leavesL_len_const (szOf c.ty t0) _ (fun q hq=>(hel q (List.mem_of_mem_take hq)).len),List.length_take,Nat.min_eq_left (Nat.le_of_lt hi)]) j
           rw[hset,(hel x hm).len] at hw;rw[spl_get _ _ _ _ (by simp[hsz];omega)];have hvl:v.cells.toList.length=szOf c.ty t:=by simp[hsz]
           rw[hvl];have old:(leavesL b.es)[j]? = some w→∃ u,arr[j]? = some u∧cellR c ⟨RT.row t0,b.fr&&fresh y,b.es.set i z⟩ w u:=fun hw'=>by
            obtain⟨u,h5,h6⟩:=h4 j w hw';refine⟨u,h5,?_⟩;simp only[cellR,hr] at h6 ⊢;exact okb_weak h6 fun hg=>by simp at hg;exact hg.1
           by_cases hj:i * szOf c.ty t0≤j∧j < i * szOf c.ty t0+szOf c.ty t0
           ·rw[if_pos hj,a3] at hw;by_cases hj2:d'≤j - i * szOf c.ty t0∧j - i * szOf c.ty t0 < d'+szOf c.ty t
            ·rw[if_pos hj2] at hw;rw[if_pos (by omega)];obtain⟨u,h5,h6⟩:=hall _ _ hw;refine⟨u,by rw[← h5];congr 1;omega,?_⟩;simp only[cellR];have hlc:=leaf_closed hc;exact h6.lr (hlc.1 hcl w (List.mem_of_getElem? hw)) fun hg=>hlc.2 hcl (by simp at hg;exact hg.2) w (List.mem_of_getElem? hw)
            ·rw[if_neg hj2] at hw;rw[if_neg (by omega)];refine old ?_;have:=leavesL_at (szOf c.ty t0) b.es (fun q hq=>(hel q hq).len) i x hx (j - i * szOf c.ty t0) (by omega);rw[← hw,← this];congr 1;omega
           ·rw[if_neg hj] at hw;rw[if_neg (by omega)];exact old hw
         ·cases hd
        ·cases hp
      ·cases hp
     ·cases hp
end Go.Abs
end
section
namespace Go.Abs
open Go Go.RowKit
def Post (E:Env) (w0:World) (σ:St) (a:Act) (ob:List (Nat × Obj)) (x:AV) (r:Result Next):Prop:=
 ∃ v w' β',(r = .ok (.value v) w'∨(v=undef∧r = .ok .skip w'))∧Sim E w0 ⟨σ.tm,ob⟩ a w' β'∧VR (cxOf E w0 ⟨σ.tm,ob⟩ w' β') x v
theorem VR.bool_inv {c:Cx} {b:Bool} {v:Value} (h:VR c (.bool b) v):v = .bool b:=by cases h with | cl h=>cases h;rfl
theorem VR.int_inv {c:Cx} {k:IntKind} {n:Int} {v:Value} (h:VR c (.int k n) v):v = .int k n:=by cases h with | cl h=>cases h;rfl
theorem VR.str_inv {c:Cx} {s:ByteArray} {v:Value} (h:VR c (.str s) v):v = .string s:=by cases h with | cl h=>cases h;rfl
section
variable {P:Program} {E:Env} {w0 w:World} {σ:St} {a:Act} {β:Nat→Option Nat} {x:AV} {ob:List (Nat × Obj)} {d:Nat} {o:Oper}
theorem Post.same (h:Sim E w0 σ a w β) {v:Value} {x:AV} {r:Result Next} (hr:r = .ok (.value v) w) (hx:VR (cxOf E w0 σ w β) x v):Post E w0 σ a σ.ob x r:=
 ⟨v,w,β,.inl hr,h,hx⟩
theorem run_v {s:Sem Value} {v:Value} {w':World} (h:s.run P w = .ok v w'):(do pure (Next.value (← s)):Sem Next).run P w = .ok (.value v) w':=by
 rw[Sem.run_bind,h];rfl
theorem run_u {s:Sem Unit} {w':World} (h:s.run P w = .ok () w'):(do s;pure Next.skip:Sem Next).run P w = .ok .skip w':=by
 show (s >>= fun _=>pure Next.skip).run P w=_;rw[Sem.run_bind,h];rfl
theorem ok_move (h:Sim E w0 σ a w β) (hG:GlobOk E w0) {y:Operand} (ho:o.op = .move y∨o.op = .assign y) (hr:(obind (σ.val E.G y) fun v=>some (v,σ.ob))=some (x,ob)) :
 Post E w0 σ a ob x ((execOp a.eval o).run P w):=by
 obtain⟨v,h1,h2⟩:=obind_eq hr;injection h2 with h2;injection h2 with h2 h3;subst h2;subst h3
 refine Post.same h (v:=a.eval y) ?_ (val_sound h hG h1);rcases ho with ho | ho <;> simp[execOp,ho]
theorem ok_pick (h:Sim E w0 σ a w β) (hG:GlobOk E w0) {c y z:Operand} (ho:o.op = .pick c y z) (hr:ares E d σ (.pick c y z)=some (x,ob)) :
 Post E w0 σ a ob x ((execOp a.eval o).run P w):=by
 simp only[ares] at hr;obtain⟨q,h1,h2⟩:=obind_eq hr;have hq:=val_sound h hG h1;split at h2
 ·rename_i b;have hb:a.eval c = .bool b:=VR.bool_inv hq;have hrun:(execOp a.eval o).run P w = .ok (.value (if b then a.eval y else a.eval z)) w:=by
   simp[execOp,ho,hb,asBool]
  split at h2
  ·rename_i e;subst e;obtain⟨v,h3,h4⟩:=obind_eq h2;injection h4 with h4;injection h4 with h4 h5;subst h4;subst h5
   exact Post.same h (by simpa using hrun) (val_sound h hG h3)
  ·rename_i e;simp only[Bool.not_eq_true] at e;subst e;obtain⟨v,h3,h4⟩:=obind_eq h2;injection h4 with h4;injection h4 with h4 h5;subst h4;subst h5
   exact Post.same h (by simpa using hrun) (val_sound h hG h3)
 ·cases h2
theorem ok_alloc (hT:TyOk P E.ty) (h:Sim E w0 σ a w β) {t:TypeId} (ho:o.op = .alloc t) (hr:ares E d σ (.alloc t)=some (x,ob)) :
 Post E w0 σ a ob x ((execOp a.eval o).run P w):=by
 simp only[ares] at hr;split at hr
 ·rename_i T hD;split at hr
  ·rename_i hf;injection hr with hr;injection hr with h1 h2;subst h1;subst h2
   obtain⟨z,hz,hF,_⟩:=run_zero_ty hT hD w;obtain⟨hcl,hfr,hm⟩:=(hT t T hD).flatz;obtain⟨hS,_⟩:=h.new hf (b:=⟨.box t,true,[T.zero]⟩) (arr:=z.cells) (e:=t) ⟨T.zero,rfl,(hT t T hD).conf⟩
    (by simp[Obj.ment,ment.mentL,hm])
    (fun j y hy=>by
      obtain⟨v,h1,h2⟩:=hF.get (j:=j) (x:=y) (by simpa[leavesL] using hy);exact⟨v,by simpa using h1,.cl (h2 _ _)⟩)
   refine⟨.pointer (some ⟨w.heap.size,0,none⟩),_,_,.inl ?_,hS,.ptr _ _ _ w.heap.size 0 (by simp[cxOf]) (by simp[offRT,offTy])⟩;have:(execOp a.eval o)=(do pure (Next.value (← Instr.alloc t true (.tuple #[])))):=by simp[execOp,ho]
   rw[this];refine run_v ?_;unfold Instr.alloc;rw[Sem.run_bind,hz];rfl
  ·cases hr
 ·cases hr
theorem ok_box (hT:TyOk P E.ty) (h:Sim E w0 σ a w β) (hG:GlobOk E w0) {t:TypeId} {y:Operand} (ho:o.op = .box t y) (hr:ares E d σ (.box t y)=some (x,ob)) :
 Post E w0 σ a ob x ((execOp a.eval o).run P w):=by
 simp only[ares] at hr;obtain⟨v,h1,h2⟩:=obind_eq hr;split at h2
 ·rename_i hf;obtain⟨hfit,hsol,hfree,hme⟩:=hf;injection h2 with h2;injection h2 with h2 h3;subst h2;subst h3
  have hv:=val_sound h hG h1;obtain⟨hc,hv1,hne⟩:=fits_conf hT (c:=cxOf E w0 σ w β) rfl hfit hv;obtain⟨_,_,hall⟩:=hv1.all hc hsol;obtain⟨hS,_⟩:=h.new hfree (b:=⟨.box t,fresh v,[v]⟩) (arr:=(a.eval y).cells) (e:=t) ⟨v,rfl,hc⟩
   (by simp[Obj.ment,ment.mentL,hme])
   (fun j z hz=>by
     obtain⟨u,h1,h2⟩:=hall j z (by simpa[leavesL] using hz);exact⟨u,by simpa using h1,h2⟩)
  refine⟨.pointer (some ⟨w.heap.size,0,none⟩),_,_,.inl ?_,hS,.ptr _ _ _ w.heap.size 0 (by simp[cxOf]) (by simp[offRT,offTy])⟩;have:(execOp a.eval o)=(do pure (Next.value (← Instr.box t (a.eval y)))):=by simp[execOp,ho]
  rw[this];refine run_v ?_;rfl
 ·cases h2
theorem VR.ptr_inv {c:Cx} {o:Nat} {r:RT} {p:List Nat} {v:Value} (h:VR c (.ptr o r p) v):∃ k d,v = .pointer (some ⟨k,d,none⟩)∧c.β o=some k∧offRT c.ty r p=some d:=by
 cases h with
 | cl h=>cases h
 | ptr o r p k d h1 h2=>exact⟨k,d,rfl,h1,h2⟩
theorem VR.ro_inv {c:Cx} {fr:Bool} {t:TypeId} {x:AV} {v:Value} (h:VR c (.ro fr t x) v):∃ k d,v = .pointer (some ⟨k,d,none⟩)∧c.okb fr k∧k < c.w.heap.size∧Conf c.ty t x∧
 ∀ (j:Nat) (z:AV),(leaves x)[j]? = some z→∃ u,c.w.cell? ⟨k,d+j,none⟩=some u∧LR c.ty c.w (c.okb fr) z u:=by
 cases h with
 | cl h=>
   cases h with
   | ro fr t x blk off vs h1 h2 h3 h4 h5=>exact⟨blk,off,rfl,h1,h2,h3,fun j z hz=>⟨vs j,h4 j z hz,h5 j z hz⟩⟩
theorem VR.ro_mk {c:Cx} {fr:Bool} {t:TypeId} {x:AV} {k d:Nat} (h1:c.okb fr k) (h2:k < c.w.heap.size) (h3:Conf c.ty t x)
 (h4:∀ (j:Nat) (z:AV),(leaves x)[j]? = some z→∃ u,c.w.cell? ⟨k,d+j,none⟩=some u∧LR c.ty c.w (c.okb fr) z u):VR c (.ro fr t x) (.pointer (some ⟨k,d,none⟩)):=by
 obtain⟨us,e1,e2⟩:=list_choice (leaves x) (fun j z u=>c.w.cell? ⟨k,d+j,none⟩=some u∧LR c.ty c.w (c.okb fr) z u) h4;have hu:∀ (j:Nat) (z:AV),(leaves x)[j]? = some z→us[j]? = some (us.getD j undef):=fun j z hz=>by
  have:j < us.length:=by rw[e1];exact (List.getElem?_eq_some_iff.1 hz).1
  simp[this]
 exact .cl (.ro fr t x k d (fun j=>us.getD j undef) h1 h2 h3 (fun j z hz=>(e2 j z _ hz (hu j z hz)).1) (fun j z hz=>(e2 j z _ hz (hu j z hz)).2))
theorem AR.vr1 {c:Cx} {t:TypeId} {y:AV} {v:Value} (hc:Conf c.ty t y) (h:AR (OR c) y v):VR1 c y v:=by
 cases y with
 | st u fs=>obtain⟨vs,e,hF⟩:=h;cases hc with | leaf _ _ _ h4=>cases h4 | st h1 h2 h3 h4=>exact⟨vs,e,.st h1 h2 h3 h4,hF⟩
 | ar u es=>obtain⟨vs,e,hF⟩:=h;cases hc with | leaf _ _ _ h4=>cases h4 | ar h1 h2 h3 h4 h5=>exact⟨vs,e,.ar h1 h2 h3 h4 h5,hF⟩
 | tup _=>exact absurd hc Conf.notTup
 | _=>exact h
theorem AR.mono {R R':AV→Value→Prop} {y:AV} {v:Value} (h:AR R y v) (hr:∀ z u,R z u→R' z u):AR R' y v:=by
 cases y with
 | st u fs=>obtain⟨vs,e,hF⟩:=h;exact⟨vs,e,hF.1,fun i x v hx hv=>hr _ _ (hF.2 i x v hx hv)⟩
 | ar u es=>obtain⟨vs,e,hF⟩:=h;exact⟨vs,e,hF.1,fun i x v hx hv=>hr _ _ (hF.2 i x v hx hv)⟩
 | _=>exact hr _ _ h
theorem AR.re {c:Cx} {fr:Bool} {t:TypeId} {y:AV} {v:Value} (hc:Conf c.ty t y) (h:AR (LR c.ty c.w (c.okb fr)) y v):VR1 c (reflag fr y) v:=by
 obtain⟨h1,h2⟩:=reflag_conf (fr:=fr) hc;refine AR.vr1 h1 ?_;have hF:∀ vs:Array Value,F2 (LR c.ty c.w (c.okb fr)) (leaves y) vs.toList→F2 (OR c) (leaves (reflag fr y)) vs.toList:=fun vs hF=>by
  rw[h2];refine⟨by simpa using hF.1,fun i x u hx hu=>?_⟩;simp only[List.getElem?_map,Option.map_eq_some_iff] at hx;obtain⟨z,hz,e⟩:=hx;subst e;exact (hF.2 i z u hz hu).re
 cases y with
 | st u fs=>obtain⟨vs,e,h3⟩:=h;exact⟨vs,e,hF vs h3⟩
 | ar u es=>obtain⟨vs,e,h3⟩:=h;exact⟨vs,e,hF vs h3⟩
 | tup _=>exact absurd hc Conf.notTup
 | _=>exact (AR_leaf (reflag_leafV rfl)).2 (LR.re h)
theorem VR1.vr {c:Cx} {y:AV} {v:Value} (h:VR1 c y v):VR c y v:=VR_one h
theorem fits_ty {ty:Tys} {t u:TypeId} {y:AV} (hf:fits ty t y=true) (hc:Conf ty u y):∃ D,ty t=some D∧isLeaf D.k=leafV y∧(leafV y=true∨t=u):=by
 cases y with
 | st q fs=>
   simp[fits] at hf;subst hf;cases hc with
   | leaf _ _ _ h4=>cases h4
   | st h1 _ _ _=>exact⟨_,h1,rfl,.inr rfl⟩
 | ar q fs=>
   simp[fits] at hf;subst hf;cases hc with
   | leaf _ _ _ h4=>cases h4
   | ar h1 _ _ _ _=>exact⟨_,h1,rfl,.inr rfl⟩
 | tup _=>simp[fits] at hf
 | undef=>simp[fits] at hf
 | _=>
   simp only[fits] at hf;split at hf
   ·rename_i D hD;exact⟨D,hD,by simpa[leafV] using hf,.inl rfl⟩
   ·cases hf
theorem fits_conf2 (hT:TyOk P E.ty) {t u:TypeId} {y:AV} (hf:fits E.ty t y=true) (hc:Conf E.ty u y):Conf E.ty t y:=by
 obtain⟨D,hD,h1,h2⟩:=fits_ty hf hc;rcases h2 with h2 | h2
 ·rw[h2] at h1;exact .leaf hD h1 ((hT t D hD).conf.size1 hD h1) h2
 ·subst h2;exact hc
theorem ok_load (hT:TyOk P E.ty) (h:Sim E w0 σ a w β) (hG:GlobOk E w0) {t:TypeId} {y:Operand} (ho:o.op = .load t y) (hr:ares E d σ (.load t y)=some (x,ob)) :
 Post E w0 σ a ob x ((execOp a.eval o).run P w):=by
 simp only[ares] at hr;obtain⟨q,h1,h2⟩:=obind_eq hr;have hq:=val_sound h hG h1;have hexec:(execOp a.eval o)=(do pure (Next.value (← Instr.loadAt t (a.eval y)))):=by simp[execOp,ho]
 split at h2
 ·rename_i o' r p;obtain⟨k,dd,e1,e2,e3⟩:=VR.ptr_inv hq;split at h2
  ·rename_i b hb;split at h2
   ·rename_i hbr;obtain⟨v,h3,h4⟩:=obind_eq h2;split at h4
    ·rename_i hfit;injection h4 with h4;injection h4 with h4 h5;subst h4;subst h5
     subst hbr;obtain⟨u,a1,a2,arr,e,a3,a4⟩:=obj_read (h.obs o' b hb) e2 h3 e3;have a5:=fits_conf2 hT hfit a2;obtain⟨val,r1,r2⟩:=run_loadVar_ty hT (w:=w) a5 a4;refine Post.same h (v:=val) ?_ ?_
     ·rw[hexec];refine run_v ?_;simp[Instr.loadAt,e1,Instr.sureAddr,r1]
     ·refine VR1.vr ?_;unfold Obj.seen;unfold cellR at r2;cases hbr:b.r with
      | box tt=>simp only[hbr] at r2;exact AR.vr1 a5 r2
      | row tt=>simp only[hbr] at r2;exact AR.re a5 r2
      | rop tt=>simp only[hbr] at r2;exact AR.vr1 a5 r2
    ·cases h4
   ·cases h2
  ·cases h2
 ·rename_i fr u y';split at h2
  ·rename_i hfit;injection h2 with h2;injection h2 with h2 h3;subst h2;subst h3
   obtain⟨k,dd,e1,e2,e3,e4,e5⟩:=VR.ro_inv hq;have a5:=fits_conf2 hT hfit e4;obtain⟨val,r1,r2⟩:=run_loadVar_ty hT (w:=w) a5 e5;refine Post.same h (v:=val) ?_ (VR1.vr (AR.re a5 r2));rw[hexec];refine run_v ?_;simp[Instr.loadAt,e1,Instr.sureAddr,r1]
  ·cases h2
 ·cases h2
theorem ok_store (hT:TyOk P E.ty) (h:Sim E w0 σ a w β) (hG:GlobOk E w0) {t:TypeId} {y z:Operand} (ho:o.op = .store t y z) (hr:ares E d σ (.store t y z)=some (x,ob)) :
 Post E w0 σ a ob x ((execOp a.eval o).run P w):=by
 simp only[ares] at hr;obtain⟨q,h1,h2⟩:=obind_eq hr;obtain⟨v,h3,h4⟩:=obind_eq h2;have hq:=val_sound h hG h1;have hv:=val_sound h hG h3;have hexec:(execOp a.eval o)=(do Instr.storeAt t (a.eval y) (a.eval z);pure Next.skip):=by simp[execOp,ho]
 split at h4
 ·rename_i o' r p;obtain⟨k,dd,e1,e2,e3⟩:=VR.ptr_inv hq;split at h4
  ·rename_i b hb;split at h4
   ·rename_i hbr;obtain⟨c1,c2,c3,c4⟩:=hbr;obtain⟨b',h5,h6⟩:=obind_eq h4;injection h6 with h6;injection h6 with h6 h7;subst h6;subst h7
    subst c1;obtain⟨hc,hv1,_⟩:=fits_conf hT (c:=cxOf E w0 σ w β) rfl c2 hv;obtain⟨hsz,hone,_⟩:=hv1.all hc c3;obtain⟨_,arr,e,g1,g2,g3,g4⟩:=obj_write (h.obs o' b hb) e2 h5 e3 c4 hc hv1 c3;obtain⟨hS,_⟩:=h.write (b':=b') (arr':=spl arr dd (a.eval z).cells.toList) hb e2 g1 (by simp) g3 g4;obtain⟨D,hD⟩:=hc.ty;refine⟨undef,_,_,.inr ⟨rfl,?_⟩,hS,.undef _⟩;rw[hexec];refine run_u ?_;simp only[Instr.storeAt,e1,Instr.sureAddr,Sem.run_bind,Sem.run_pure,Result.andThen_ok];exact run_storeVar_ty hT hD g1 hsz g2 hone
   ·cases h4
  ·cases h4
 ·cases h4
end
end Go.Abs
end
section
namespace Go.Abs
open Go Go.RowKit
theorem Conf.st_inv {ty:Tys} {t u:TypeId} {fs:List AV} {ts:List TypeId} {s b:Nat} {z:AV} (h:Conf ty t (.st u fs)) (hd:ty t=some ⟨.struct ts,s,b,z⟩) :
 u=t∧fs.length=ts.length∧s=(ts.map (szOf ty)).sum∧(∀ (i:Nat) (x:AV) (u:TypeId),fs[i]? = some x→ts[i]? = some u→Conf ty u x):=by
 cases h with
 | leaf _ _ _ h4=>cases h4
 | st h1 h2 h3 h4=>rw[hd] at h1;cases h1;exact⟨rfl,h2,h3,h4⟩
theorem Conf.ar_inv {ty:Tys} {t u e:TypeId} {es:List AV} {n s b:Nat} {z:AV} (h:Conf ty t (.ar u es)) (hd:ty t=some ⟨.array n e,s,b,z⟩) :
 u=t∧es.length=n∧s=n * szOf ty e∧(∀ x ∈ es,Conf ty e x)∧(∀ x ∈ es,flat x=true):=by
 cases h with
 | leaf _ _ _ h4=>cases h4
 | ar h1 h2 h3 h4 h5=>rw[hd] at h1;cases h1;exact⟨rfl,h2,h3,h4,h5⟩
theorem foldl_spl:∀ (l:List Value) (i off:Nat) (cs:Array Value),(l.zipIdx i).foldl (fun cs (x:Value × Nat)=>cs.setIfInBounds (off+x.2) x.1) cs=spl cs (off+i) l
 | [],i,off,cs=>rfl
 | v::r,i,off,cs=>by
   simp only[List.zipIdx_cons,List.foldl_cons,spl];rw[foldl_spl r (i+1) off];rfl
theorem foldl_spl' (v off:Nat) (vc cells:Array Value):vc.zipIdx.foldl (fun cs (x:Value × Nat)=>cs.setIfInBounds (off+x.2) x.1) cells=spl cells off vc.toList:=by
 rw[← Array.foldl_toList];simp only[Array.toList_zipIdx];have:=foldl_spl vc.toList 0 off cells;simpa using this
section
variable {P:Program} {E:Env} {w0 w:World} {σ:St} {a:Act} {β:Nat→Option Nat} {x:AV} {ob:List (Nat × Obj)} {d:Nat} {o:Oper}
theorem mkParts_sound (h:Sim E w0 σ a w β) (hG:GlobOk E w0):∀ (ps:List (Nat × Operand)) (l:List (Nat × AV)),mkParts E.G σ ps=some l→
 l.map (·.1)=ps.map (·.1)∧∀ (i:Nat) (q:Nat × AV) (p:Nat × Operand),l[i]? = some q→ps[i]? = some p→VR (cxOf E w0 σ w β) q.2 (a.eval p.2)
 | [],l,hl=>by simp[mkParts] at hl;subst hl;simp
 | (i,y)::r,l,hl=>by
   simp only[mkParts] at hl;obtain⟨v,h1,h2⟩:=obind_eq hl;obtain⟨l',h3,h4⟩:=obind_eq h2;injection h4 with h4;subst h4
   obtain⟨e1,e2⟩:=mkParts_sound h hG r l' h3;refine⟨by simp[e1],fun j q p hq hp=>?_⟩;cases j with
   | zero=>simp at hq hp;subst hq;subst hp;exact val_sound h hG h1
   | succ j=>exact e2 j q p (by simpa using hq) (by simpa using hp)
theorem F2_set {c:Cx} {fs:List AV} {i off:Nat} {q y:AV} {v:Value} {cells:Array Value} (hF:F2 (OR c) (leavesL fs) cells.toList) (hq:fs[i]? = some q) (hl:(leaves y).length=(leaves q).length)
 (ho:(leavesL (fs.take i)).length=off) (hv:F2 (OR c) (leaves y) v.cells.toList) (hle:off+(leaves q).length≤cells.size):F2 (OR c) (leavesL (fs.set i y)) (spl cells off v.cells.toList).toList:=by
 have hset:=leavesL_set fs i q y off hq hl ho;have hvl:v.cells.toList.length=(leaves q).length:=by rw[← hv.1,hl]
 have hlen:(leavesL (fs.set i y)).length=cells.size:=by
  obtain⟨h1,h2⟩:=split_at fs i q hq;have e1:(leavesL fs).length=cells.size:=by rw[hF.1];simp
  rw[← e1,h2 y]
  conv=>rhs;rw[h1]
  simp[leavesL_append,leavesL,hl]
 refine⟨by simp[hlen],fun j z u hz hu=>?_⟩;rw[hset j] at hz;have hu':(spl cells off v.cells.toList)[j]? = some u:=by simpa using hu
 rw[spl_get _ _ _ _ (by rw[hvl];exact hle),hvl] at hu';by_cases hj:off≤j∧j < off+(leaves q).length
 ·rw[if_pos hj] at hz hu';exact hv.2 _ z u hz hu'
 ·rw[if_neg hj] at hz hu';exact hF.2 j z u hz (by simpa using hu')
theorem fill_st (hT:TyOk P E.ty) {c:Cx} (hc:c.ty=E.ty) {ts:List TypeId} {place:Nat→Option (Nat × Nat)}
 (hp:∀ (i:Nat) (t:TypeId),ts[i]? = some t→place i=some (((ts.take i).map (szOf E.ty)).sum,szOf E.ty t)) :
 ∀ (l:List (Nat × AV)) (vs:List (Nat × Value)) (fs gs:List AV) (cells:Array Value),l.map (·.1)=vs.map (·.1)→
   (∀ (i:Nat) (q:Nat × AV) (p:Nat × Value),l[i]? = some q→vs[i]? = some p→VR c q.2 p.2)→fillSt E.ty ts fs l=some gs→fs.length=ts.length→
   (∀ (i:Nat) (x:AV) (u:TypeId),fs[i]? = some x→ts[i]? = some u→Conf E.ty u x)→F2 (OR c) (leavesL fs) cells.toList→
   ∃ cells',Instr.fill place cells vs=some cells'∧gs.length=ts.length∧(∀ (i:Nat) (x:AV) (u:TypeId),gs[i]? = some x→ts[i]? = some u→Conf E.ty u x)∧F2 (OR c) (leavesL gs) cells'.toList
 | [],vs,fs,gs,cells,hm,_,hf,h1,h2,h3=>by
   cases vs with
   | nil=>simp[fillSt] at hf;subst hf;exact⟨cells,rfl,h1,h2,h3⟩
   | cons _ _=>simp at hm
 | (i,y)::l,vs,fs,gs,cells,hm,hV,hf,h1,h2,h3=>by
   cases vs with
   | nil=>simp at hm
   | cons p vs=>
     obtain⟨i',v⟩:=p;simp only[List.map_cons,List.cons.injEq] at hm;obtain⟨e1,e2⟩:=hm;subst e1;simp only[fillSt] at hf;split at hf
     ·rename_i t ht;split at hf
      ·rename_i hfit;have hv:=hV 0 (i,y) (i,v) rfl rfl;obtain⟨c1,c2,c3⟩:=fits_conf hT hc hfit hv;have hcells:=c2.cells c3;have hi:i < fs.length:=by rw[h1];exact (List.getElem?_eq_some_iff.1 ht).1
       obtain⟨q,hq⟩:∃ q,fs[i]? = some q:=⟨fs[i],by simp[hi]⟩
       have hql:(leaves q).length=szOf E.ty t:=(h2 i q t hq ht).len;have hyl:(leaves y).length=szOf E.ty t:=c1.len;have ho:=len_take_field fs ts h1 (fun i x u hx hu=>(h2 i x u hx hu).len) i;have hsz:v.cells.size=szOf E.ty t:=by rw[← hyl,hcells.1];simp
       have hbig:((ts.take i).map (szOf E.ty)).sum+szOf E.ty t≤cells.size:=by
        have e3:(leavesL fs).length=cells.size:=by rw[h3.1];simp
        obtain⟨h5,_⟩:=split_at fs i q hq;rw[← e3]
        conv=>rhs;rw[h5]
        simp[leavesL_append,leavesL,hql,ho]
       have hnew:=F2_set h3 hq (by rw[hyl,hql]) ho hcells (by rw[hql];exact hbig);obtain⟨cells',f1,f2,f3,f4⟩:=fill_st hT hc hp l vs (fs.set i y) gs _ e2 (fun k q p hq hp=>hV (k+1) q p (by simpa using hq) (by simpa using hp)) hf (by simpa using h1)
        (fun k x u hx hu=>by
          rw[List.getElem?_set] at hx;split at hx
          ·rename_i hk;subst hk;injection hx with hx;subst hx
           rw[ht] at hu;injection hu with hu;subst hu;exact c1
          ·exact h2 k x u hx hu) hnew
       refine⟨cells',?_,f2,f3,f4⟩;simp only[Instr.fill,hp i t ht];rw[if_neg (by rw[hsz];simp only[ne_eq,not_true_eq_false,decide_false,Bool.false_or,decide_eq_true_eq,Nat.not_lt,gt_iff_lt];exact hbig)];rw[foldl_spl' 0];exact f1
      ·cases hf
     ·cases hf
theorem fill_ar (hT:TyOk P E.ty) {c:Cx} (hc:c.ty=E.ty) {t:TypeId} {n:Nat} {okE:AV→Bool} {place:Nat→Option (Nat × Nat)}
 (hp:∀ i,place i=some (i * szOf E.ty t,szOf E.ty t)) :
 ∀ (l:List (Nat × AV)) (vs:List (Nat × Value)) (fs gs:List AV) (cells:Array Value),l.map (·.1)=vs.map (·.1)→
   (∀ (i:Nat) (q:Nat × AV) (p:Nat × Value),l[i]? = some q→vs[i]? = some p→VR c q.2 p.2)→fillAr E.ty t n okE fs l=some gs→fs.length=n→
   (∀ x ∈ fs,Conf E.ty t x∧okE x=true)→F2 (OR c) (leavesL fs) cells.toList→
   ∃ cells',Instr.fill place cells vs=some cells'∧gs.length=n∧(∀ x ∈ gs,Conf E.ty t x∧okE x=true)∧F2 (OR c) (leavesL gs) cells'.toList
 | [],vs,fs,gs,cells,hm,_,hf,h1,h2,h3=>by
   cases vs with
   | nil=>simp[fillAr] at hf;subst hf;exact⟨cells,rfl,h1,h2,h3⟩
   | cons _ _=>simp at hm
 | (i,y)::l,vs,fs,gs,cells,hm,hV,hf,h1,h2,h3=>by
   cases vs with
   | nil=>simp at hm
   | cons p vs=>
     obtain⟨i',v⟩:=p;simp only[List.map_cons,List.cons.injEq] at hm;obtain⟨e1,e2⟩:=hm;subst e1;simp only[fillAr] at hf;split at hf
     ·rename_i hcond;obtain⟨hin,hfit,hok⟩:=hcond;have hv:=hV 0 (i,y) (i,v) rfl rfl;obtain⟨c1,c2,c3⟩:=fits_conf hT hc hfit hv;have hcells:=c2.cells c3;have hi:i < fs.length:=by omega
      obtain⟨q,hq⟩:∃ q,fs[i]? = some q:=⟨fs[i],by simp[hi]⟩
      have hql:(leaves q).length=szOf E.ty t:=(h2 q (List.mem_of_getElem? hq)).1.len;have hyl:(leaves y).length=szOf E.ty t:=c1.len;have ho:(leavesL (fs.take i)).length=i * szOf E.ty t:=by
       rw[leavesL_len_const (szOf E.ty t) _ (fun x hx=>(h2 x (List.mem_of_mem_take hx)).1.len),List.length_take,Nat.min_eq_left (Nat.le_of_lt hi)]
      have hsz:v.cells.size=szOf E.ty t:=by rw[← hyl,hcells.1];simp
      have hbig:i * szOf E.ty t+szOf E.ty t≤cells.size:=by
       have e3:(leavesL fs).length=cells.size:=by rw[h3.1];simp
       obtain⟨h5,_⟩:=split_at fs i q hq;rw[← e3]
       conv=>rhs;rw[h5]
       simp[leavesL_append,leavesL,hql,ho]
      have hnew:=F2_set h3 hq (by rw[hyl,hql]) ho hcells (by rw[hql];exact hbig);obtain⟨cells',f1,f2,f3,f4⟩:=fill_ar hT hc hp l vs (fs.set i y) gs _ e2 (fun k q p hq hp=>hV (k+1) q p (by simpa using hq) (by simpa using hp)) hf (by simpa using h1)
       (fun x hx=>by
         rcases mem_set_or hx with rfl | hx
         ·exact⟨c1,hok⟩
         ·exact h2 x hx) hnew
      refine⟨cells',?_,f2,f3,f4⟩;simp only[Instr.fill,hp i];rw[if_neg (by rw[hsz];simp only[ne_eq,not_true_eq_false,decide_false,Bool.false_or,decide_eq_true_eq,Nat.not_lt,gt_iff_lt];exact hbig)];rw[foldl_spl' 0];exact f1
     ·cases hf
theorem run_fieldPlaces (hT:TyOk P E.ty):∀ (fs:List Field) (w:World),(∀ f ∈ fs,∃ D,E.ty f.type=some D)→
 (fs.mapM fun (f:Field)=>(do pure (f.offset,← Go.sizeOf f.type):Sem (Nat × Nat))).run P w = .ok (fs.map fun f=>(f.offset,szOf E.ty f.type)) w
 | [],w,_=>rfl
 | f::r,w,h=>by
   obtain⟨D,hD⟩:=h f (by simp);simp only[List.mapM_cons,Sem.run_bind,run_sizeOf_ty hT hD,Result.andThen_ok,Sem.run_pure,List.map_cons];rw[run_fieldPlaces hT r w (fun g hg=>h g (by simp[hg]))];simp
theorem ok_build (hT:TyOk P E.ty) (hty:∀ t ts s b z,E.ty t=some ⟨.struct ts,s,b,z⟩→∀ u ∈ ts,∃ D,E.ty u=some D) (hty2:∀ t n e s b z,E.ty t=some ⟨.array n e,s,b,z⟩→∃ D,E.ty e=some D) (h:Sim E w0 σ a w β) (hG:GlobOk E w0) {t:TypeId} {ps:Array (Nat × Operand)} (ho:o.op = .build t ps)
 (hr:ares E d σ (.build t ps)=some (x,ob)):Post E w0 σ a ob x ((execOp a.eval o).run P w):=by
 simp only[ares] at hr;have hexec:(execOp a.eval o)=(do pure (Next.value (← Instr.build t (ps.map fun (i,x)=>(i,a.eval x))))):=by simp[execOp,ho]
 have hparts:∀ l,mkParts E.G σ ps.toList=some l→l.map (·.1)=((ps.map fun (i,x)=>(i,a.eval x)).toList).map (·.1)∧
  ∀ (i:Nat) (q:Nat × AV) (p:Nat × Value),l[i]? = some q→((ps.map fun (i,x)=>(i,a.eval x)).toList)[i]? = some p→VR (cxOf E w0 σ w β) q.2 p.2:=fun l hl=>by
  obtain⟨e1,e2⟩:=mkParts_sound h hG ps.toList l hl;refine⟨by rw[e1];simp[Function.comp_def],fun i q p hq hp=>?_⟩;simp only[Array.toList_map,List.getElem?_map,Option.map_eq_some_iff] at hp;obtain⟨p',hp',e3⟩:=hp;subst e3;exact e2 i q p' hq hp'
 split at hr
 ·rename_i ts s b t0 fs hD;obtain⟨l,h1,h2⟩:=obind_eq hr;obtain⟨gs,h3,h4⟩:=obind_eq h2;injection h4 with h4;injection h4 with h4 h5;subst h4;subst h5
  obtain⟨z,hz,hF,hag⟩:=run_zero_ty hT hD w;obtain⟨_,q2,q3,q4⟩:=(hT t _ hD).conf.st_inv hD;have hk:=(hT t _ hD).kind;simp only[kindOk] at hk;obtain⟨fields,k1,k2,k3⟩:=hk;obtain⟨p1,p2⟩:=hparts l h1;have hplace:∀ (i:Nat) (u:TypeId),ts[i]? = some u→((fields.map fun f=>(f.offset,szOf E.ty f.type))[i]?)=some (((ts.take i).map (szOf E.ty)).sum,szOf E.ty u):=fun i u hu=>by
   have hi:i < fields.size:=by rw[k2];exact (List.getElem?_eq_some_iff.1 hu).1
   have hf:fields[i]? = some fields[i]:=by simp[hi]
   obtain⟨e1,e2⟩:=k3 i _ hf;rw[hu] at e1;injection e1 with e1
   simp[hi,e2,← e1]
  obtain⟨cells',f1,f2,f3,f4⟩:=fill_st hT (c:=cxOf E w0 σ w β) rfl (place:=fun i=>(fields.map fun f=>(f.offset,szOf E.ty f.type))[i]?) hplace l _ fs gs z.cells p1 p2 h3 q2 q4
   ⟨hF.1,fun i x v hx hv=> .cl (hF.2 i x v hx hv _ _)⟩
  refine Post.same h (v:= .agg cells') ?_ (VR1.vr ⟨cells',rfl,.st hD f2 q3 f3,by simpa[leaves] using f4⟩);rw[hexec];refine run_v ?_;unfold Instr.build;simp only[Sem.run_bind,hz,Result.andThen_ok,run_underlying k1];rw[Array.mapM_eq_mapM_toList];simp only[Sem.run_map];rw[run_fieldPlaces hT fields.toList w (fun f hf=>by
   obtain⟨i,hi,e⟩:=List.getElem_of_mem hf;have hf':fields[i]? = some f:=by rw[← Array.getElem?_toList,List.getElem?_eq_getElem hi,e]
   exact hty t ts s b _ hD f.type (List.mem_of_getElem? (k3 i f hf').1))]
  simp only[Result.andThen_ok];rw[← Array.toList_map];simp only[Array.toArray_toList];rw[f1];rfl
 ·rename_i n e s b t0 fs hD;obtain⟨l,h1,h2⟩:=obind_eq hr;obtain⟨gs,h3,h4⟩:=obind_eq h2;injection h4 with h4;injection h4 with h4 h5;subst h4;subst h5
  obtain⟨z,hz,hF,hag⟩:=run_zero_ty hT hD w;have hk:=(hT t _ hD).kind;simp only[kindOk] at hk;obtain⟨_,q2,q3,q4,q5⟩:=(hT t _ hD).conf.ar_inv hD;obtain⟨p1,p2⟩:=hparts l h1;obtain⟨De,hDe⟩:=hty2 t n e s b _ hD;obtain⟨cells',f1,f2,f3,f4⟩:=fill_ar hT (c:=cxOf E w0 σ w β) rfl (t:=e) (okE:=flat) (place:=fun i=>some (i * szOf E.ty e,szOf E.ty e)) (fun _=>rfl) l _ fs gs z.cells p1 p2 h3 q2 (fun x hx=>⟨q4 x hx,q5 x hx⟩)
   ⟨hF.1,fun i x v hx hv=> .cl (hF.2 i x v hx hv _ _)⟩
  refine Post.same h (v:= .agg cells') ?_ (VR1.vr ⟨cells',rfl,.ar hD f2 q3 (fun x hx=>(f3 x hx).1) (fun x hx=>(f3 x hx).2),by simpa[leaves] using f4⟩);rw[hexec];refine run_v ?_;unfold Instr.build;simp only[Sem.run_bind,hz,Result.andThen_ok,run_underlying hk,run_sizeOf_ty hT hDe];rw[f1];rfl
 ·cases hr
end
end Go.Abs
end
