/- A part of a proof. -/
import GoSem.Dispatch
import Derived.Below
import Derived.Calls
import Derived.Laws.StructEq
import Derived.Laws.Entries
import Derived.Laws.World
import Derived.Laws.Tables
set_option linter.unusedSimpArgs false
set_option linter.unusedVariables false
section
namespace Go.Abs
structure Fl where
 fr:Bool
 nil:Option Bool
 tight:Bool
inductive RT where
 | box (t:TypeId)
 | row (t:TypeId)
 | oQ (t:TypeId)
 deriving DecidableEq
inductive AV where
 | undef
 | int (k:IntKind) (n:Int)
 | bool (b:Bool)
 | str (s:ByteArray)
 | sl (t:TypeId) (fl:Fl) (es:List AV)
 | ro (fr:Bool) (t:TypeId) (x:AV)
 | iu
 | dY
 | fn (f:FuncId) (bh:List AV)
 | own (o:Nat) (t:TypeId) (off n:Nat)
 | ptr (o:Nat) (r:RT) (p:List Nat)
 | st (t:TypeId) (fs:List AV)
 | ar (t:TypeId) (es:List AV)
 | cE (vs:List AV)
 | mp (t:TypeId) (ks:List AV) (fs:List FuncId)
inductive TK where
 | int (k:IntKind)
 | bool
 | str
 | slice (e:TypeId)
 | struct (fs:List TypeId)
 | array (n:Nat) (e:TypeId)
 | ptr (e:TypeId)
 | func
 | map (k e:TypeId)
structure kD where
 k:TK
 size:Nat
 bytes:Nat
 zero:AV
abbrev bX:=TypeId→Option kD
structure Obj where
 r:RT
 fr:Bool
 es:List AV
structure St where
 tm:List (Nat × AV)
 ob:List (Nat × Obj)
def aA {α:Type} (t:Nat):List (Nat × α)→Option α
 | []=>none
 | (u,v)::r=>if u=t then some v else aA t r
def cK {α:Type} (t:Nat):List (Nat × α)→List (Nat × α)
 | []=>[]
 | (u,v)::r=>if u=t then cK t r else (u,v)::cK t r
def bE {α:Type} (t:Nat) (v:α) (l:List (Nat × α)):List (Nat × α):=(t,v)::cK t l
def fW:Value→Option AV
 | .int k n=>some (.int k n)
 | .bool b=>some (.bool b)
 | .string s=>some (.str s)
 | .slice none 0 0=>some (.sl 0 ⟨true,some true,true⟩ [])
 | .pointer none=>some .iu
 | .nilFunc=>some .dY
 | _=>none
abbrev cC:=Nat→Option (TypeId × AV)
def bA (d:Nat):AV→Bool
 | .own o _ _ _=>o==d
 | .ptr o _ _=>o==d
 | .fn _ cs=>du d cs
 | .st _ fs=>du d fs
 | .cE vs=>du d vs
 | _=>false
where du (d:Nat):List AV→Bool
 | []=>false
 | x::r=>bA d x || du d r
def closed:AV→Bool
 | .own ..=>false
 | .ptr ..=>false
 | .undef=>false
 | .fn _ cs=>cs.isEmpty
 | .st _ fs=>fq fs
 | .cE _=>false
 | _=>true
where fq:List AV→Bool
 | []=>true
 | x::r=>closed x&&fq r
def fresh:AV→Bool
 | .sl _ fl _=>fl.fr
 | .ro fr _ _=>fr
 | .mp _ ks _=>ks.isEmpty
 | .st _ fs=>iv fs
 | _=>true
where iv:List AV→Bool
 | []=>true
 | x::r=>fresh x&&iv r
def cL (fr:Bool):AV→AV
 | .sl t fl es=> .sl t ⟨fr,fl.nil,fl.tight⟩ es
 | .ro _ t x=> .ro fr t x
 | .st t fs=> .st t (qq fr fs)
 | .fn f cs=>if cs.isEmpty then .fn f cs else .undef
 | x=>x
where qq (fr:Bool):List AV→List AV
 | []=>[]
 | x::r=>cL fr x::qq fr r
def kx:AV→Bool
 | .undef=>false
 | .st _ fs=>vM fs
 | .cE _=>false
 | _=>true
where vM:List AV→Bool
 | []=>true
 | x::r=>kx x&&vM r
def flat:AV→Bool
 | .int ..=>true
 | .bool _=>true
 | .str _=>true
 | .st _ fs=>zg fs
 | _=>false
where zg:List AV→Bool
 | []=>true
 | x::r=>flat x&&zg r
def tree:AV→List Nat→Option AV
 | x,[]=>some x
 | .st _ fs,i::p=>match fs[i]? with | some y=>tree y p | none=>none
 | .ar _ es,i::p=>match es[i]? with | some y=>tree y p | none=>none
 | _,_::_=>none
def cW:AV→List Nat→AV→Option AV
 | _,[],v=>some v
 | .st t fs,i::p,v=>match fs[i]? with
   | some y=>match cW y p v with | some z=>some (.st t (fs.set i z)) | none=>none
   | none=>none
 | .ar t es,i::p,v=>match es[i]? with
   | some y=>match cW y p v with | some z=>some (.ar t (es.set i z)) | none=>none
   | none=>none
 | _,_::_,_=>none
def gC:AV→List Nat→Bool
 | _,[]=>false
 | .st _ fs,i::p=>match fs[i]? with | some y=>gC y p | none=>false
 | _,_::_=>true
def di (ty:bX):TypeId→List Nat→Option TypeId
 | t,[]=>some t
 | t,i::p=>match ty t with
   | some ⟨.struct fs,_,_,_⟩=>match fs[i]? with | some u=>di ty u p | none=>none
   | some ⟨.array _ e,_,_,_⟩=>di ty e p
   | _=>none
def RT.di (ty:bX):RT→List Nat→Option TypeId
 | .box t,p=>Abs.di ty t p
 | .row t,_::p=>Abs.di ty t p
 | .row _,[]=>none
 | .oQ t,_::p=>Abs.di ty t p
 | .oQ _,[]=>none
def Obj.seen (b:Obj) (v:AV):AV:=match b.r with | .box _=>v | .row _=>cL b.fr v | .oQ _=>v
def Obj.tree (b:Obj) (p:List Nat):Option AV:=
 match b.r,p with
 | .box _,p=>match b.es with | [x]=>Abs.tree x p | _=>none
 | .row _,i::p=>match b.es[i]? with | some x=>Abs.tree x p | none=>none
 | .row _,[]=>none
 | .oQ _,i::p=>match b.es[i]? with | some x=>Abs.tree x p | none=>none
 | .oQ _,[]=>none
def Obj.cW (b:Obj) (p:List Nat) (v:AV):Option Obj:=
 match b.r,p with
 | .box _,p=>match b.es with
   | [x]=>if gC x p&& !flat v then none else match Abs.cW x p v with | some z=>some ⟨b.r,b.fr&&fresh v,[z]⟩ | none=>none
   | _=>none
 | .row _,i::p=>if closed v then (match b.es[i]? with
   | some x=>if gC x p&& !flat v then none else (match Abs.cW x p v with | some z=>some ⟨b.r,b.fr&&fresh v,b.es.set i z⟩ | none=>none)
   | none=>none) else none
 | .row _,[]=>none
 | .oQ _,_=>none
def fv:TK→Bool
 | .struct _=>false
 | .array _ _=>false
 | _=>true
def bq:AV→Bool
 | .st ..=>false
 | .ar ..=>false
 | .cE _=>false
 | _=>true
def fits (ty:bX) (t:TypeId):AV→Bool
 | .st u _=>u==t
 | .ar u _=>u==t
 | .cE _=>false
 | .undef=>false
 | _=>match ty t with | some d=>fv d.k | none=>false
def bV (op:BinOp) (k:IntKind) (x y:Int):Int:=
 let a:=BitVec.ofInt k.bits x
 let b:=BitVec.ofInt k.bits y
 k.wrap (match op with
  | .and=>a &&& b
  | .or=>a ||| b
  | .xor=>a ^^^ b
  | _=>a &&& ~~~b).toNat
def yL (k:IntKind) (x y:Int):Int:=k.wrap (x * 2 ^ (min y.toNat k.bits))
def su (k:IntKind) (x y:Int):Int:=x.fdiv (2 ^ (min y.toNat k.bits))
def b2 (op:BinOp) (k:IntKind) (a b:Int):Option AV:=
 match op with
 | .add=>some (.int k (k.wrap (a+b)))
 | .sub=>some (.int k (k.wrap (a - b)))
 | .mul=>some (.int k (k.wrap (a * b)))
 | .quo=>if b=0 then none else some (.int k (k.wrap (a.tdiv b)))
 | .rem=>if b=0 then none else some (.int k (a.tmod b))
 | .and=>some (.int k (bV .and k a b))
 | .or=>some (.int k (bV .or k a b))
 | .xor=>some (.int k (bV .xor k a b))
 | .andNot=>some (.int k (bV .andNot k a b))
 | .eql=>some (.bool (a==b))
 | .neq=>some (.bool (!(a==b)))
 | .lss=>some (.bool (decide (a < b)))
 | .leq=>some (.bool (decide (a≤b)))
 | .gtr=>some (.bool (decide (b < a)))
 | .geq=>some (.bool (decide (b≤a)))
 | _=>none
def isBool (ty:bX) (t:TypeId):Bool:=match ty t with | some ⟨.bool,_,_,_⟩=>true | _=>false
def isSlice (ty:bX) (t:TypeId):Bool:=match ty t with | some ⟨.slice _,_,_,_⟩=>true | _=>false
def av {α β:Type} (x:Option α) (f:α→Option β):Option β:=match x with | some a=>f a | none=>none
theorem aN {α β:Type} (a:α) (f:α→Option β):av (some a) f=f a:=rfl
theorem vN {α β:Type} (f:α→Option β):av (none:Option α) f=none:=rfl
def P7 (ty:bX) (u:TypeId):AV→AV→Option Bool
 | .int k a,.int k' b=>match ty u with | some ⟨.int _,_,_,_⟩=>if k=k' then some (a==b) else none | _=>none
 | .bool a,.bool b=>if isBool ty u=true then some (a==b) else none
 | .str a,.str b=>match ty u with | some ⟨.str,_,_,_⟩=>some (a.toList==b.toList) | _=>none
 | _,_=>none
def mQ (ty:bX):List TypeId→List AV→List AV→Option Bool
 | [],[],[]=>some true
 | u::ts,x::r,y::s=>av (P7 ty u x y) fun b=>av (mQ ty ts r s) fun c=>some (b&&c)
 | _,_,_=>none
def La (ty:bX) (t t1:TypeId) (fs:List AV) (t2:TypeId) (gs:List AV):Option Bool:=
 if t1=t∧t2=t then (match ty t with | some ⟨.struct ts,_,_,_⟩=>mQ ty ts fs gs | _=>none) else none
def CL (op:BinOp) (b:Bool):Option AV:=match op with | .eql=>some (.bool b) | .neq=>some (.bool (!b)) | _=>none
def nF (ty:bX) (u:TypeId):AV→AV→Option Bool
 | .int k a,.int k' b=>match ty u with | some ⟨.int q,_,_,_⟩=>if k=q∧k'=q then some (a==b) else none | _=>none
 | .bool a,.bool b=>if isBool ty u=true then some (a==b) else none
 | _,_=>none
def ia (ty:bX):List TypeId→List AV→List AV→Option Bool
 | [],[],[]=>some true
 | u::ts,x::r,y::s=>av (nF ty u x y) fun b=>av (ia ty ts r s) fun c=>some (b&&c)
 | _,_,_=>none
def pf (ty:bX) (u:TypeId):AV→AV→Option Bool
 | .st t1 fs,.st t2 gs=>if t1=u∧t2=u then (match ty u with | some ⟨.struct ts,_,_,_⟩=>ia ty ts fs gs | _=>none) else none
 | x,y=>match ty u with | some ⟨.int _,_,_,_⟩=>nF ty u x y | _=>none
def vO (ty:bX) (u:TypeId) (k:AV):List AV→List FuncId→Option (Option FuncId)
 | [],_=>some none
 | x::ks,f::fs=>av (pf ty u k x) fun b=>av (vO ty u k ks fs) fun r=>some (if b=true then some f else r)
 | _,_=>none
def P8:Option FuncId→AV
 | some f=> .fn f []
 | none=> .dY
def th (ok:Bool) (r:Option FuncId):AV:=if ok=true then .cE [P8 r,.bool r.isSome] else P8 r
def Ts (ty:bX) (t:TypeId) (ok:Bool) (k:AV):AV→Option AV
 | .mp u (k0::ks) fs=>if u=t then (match ty t with
   | some ⟨.map kt et,_,_,_⟩=>(match ty et with
     | some ⟨.func,_,_,.dY⟩=>av (vO ty kt k (k0::ks) fs) fun r=>some (th ok r)
     | _=>none)
   | _=>none) else none
 | _=>none
def bin (ty:bX) (t:TypeId) (op:BinOp):AV→AV→Option AV
 | .int k a,.int k' b=>match op with
   | .shl=>if b < 0 then none else some (.int k (yL k a b))
   | .shr=>if b < 0 then none else some (.int k (su k a b))
   | op=>if k=k' then b2 op k a b else none
 | .bool a,.bool b=>if isBool ty t=true then (match op with | .eql=>some (.bool (a==b)) | .neq=>some (.bool (!(a==b))) | _=>none) else none
 | .str a,.str b=>match op with
   | .eql=>some (.bool (a.toList==b.toList))
   | .neq=>some (.bool (!(a.toList==b.toList)))
   | .add=>if a.size+b.size≤4611686018427387904 then some (.str (a++b)) else none
   | _=>none
 | .sl _ fl _,.sl 0 ⟨_,some true,_⟩ []=>match fl.nil with
   | some b=>if isSlice ty t=true then (match op with | .eql=>some (.bool b) | .neq=>some (.bool (!b)) | _=>none) else none
   | none=>none
 | .st t1 fs,.st t2 gs=>av (La ty t t1 fs t2 gs) (CL op)
 | _,_=>none
def U1 (op:UnOp):AV→Option AV
 | .bool b=>match op with | .not=>some (.bool (!b)) | _=>none
 | .int k n=>match op with | .neg=>some (.int k (k.wrap (-n))) | .xor=>some (.int k (bV .xor k (if k.signed then -1 else k.max) n)) | _=>none
 | _=>none
structure DH where
 del:List Nat
 wr:List Nat
 nom:List Nat
def vP:DH:=⟨[],[],[]⟩
structure Env where
 ty:bX
 G:cC
 n:Nat
 K:Nat
 C:FuncId→List AV→Option AV
 D:Nat→Option (List DH × List Nat)
 okA:Nat→Prop:=fun _=>True
 lo:Option Nat:=none
 lent:Nat→Prop:=fun _=>False
 W:FuncId→Bool:=fun _=>false
 M:FuncId→List AV→List (Nat × Obj)→Option (AV × List (Nat × Obj)):=fun _ _ _=>none
 Q:FuncId→Bool:=fun _=>false
 Z:Nat→List Nat:=fun _=>[]
def St.val (G:cC) (σ:St):Operand→Option AV
 | .tmp t=>aA t σ.tm
 | .const v=>fW v
 | .func f=>some (.fn f [])
 | .global g=>match G g with | some x=>some (.ro false x.1 x.2) | none=>none
def dq (G:cC) (σ:St):List (Nat × Operand)→Option (List (Nat × AV))
 | []=>some []
 | (i,x)::r=>av (σ.val G x) fun v=>av (dq G σ r) fun l=>some ((i,v)::l)
def kf (ty:bX) (ts:List TypeId) (fs:List AV):List (Nat × AV)→Option (List AV)
 | []=>some fs
 | (i,v)::r=>match ts[i]? with
   | some t=>if fits ty t v then kf ty ts (fs.set i v) r else none
   | none=>none
def gY (ty:bX) (t:TypeId) (n:Nat) (okE:AV→Bool) (fs:List AV):List (Nat × AV)→Option (List AV)
 | []=>some fs
 | (i,v)::r=>if i < n∧fits ty t v=true∧okE v=true then gY ty t n okE (fs.set i v) r else none
def dZ (G:cC) (σ:St):List Operand→Option (List AV)
 | []=>some []
 | x::r=>av (σ.val G x) fun v=>av (dZ G σ r) fun l=>some (v::l)
def cH (ty:bX) (ob:List (Nat × Obj)):Nat→AV→Option AV
 | 0,_=>none
 | _+1,.own o t i n=>match aA o ob with
   | some ⟨.row u,_,es⟩=>if t=u∧i+n≤es.length then some (.sl t ⟨false,none,false⟩ (if i=0∧n=es.length then es else (es.drop i).take n)) else none
   | _=>none
 | k+1,.ptr o r p=>match aA o ob with
   | some b=>if b.r=r then (match b.tree p with
     | some x=>match r.di ty p with | some u=>av (cH ty ob k x) fun y=>some (.ro false u y) | none=>none
     | none=>none) else none
   | none=>none
 | k+1,.st t fs=>av (gQ ty ob k fs) fun gs=>some (.st t gs)
 | k+1,.fn f cs=>av (gQ ty ob k cs) fun ds=>some (.fn f ds)
 | _,.sl t fl es=>some (.sl t ⟨false,none,false⟩ es)
 | _,.ro _ t x=>some (.ro false t x)
 | _,.cE _=>none
 | _,.undef=>none
 | _,x=>some x
where gQ (ty:bX) (ob:List (Nat × Obj)):Nat→List AV→Option (List AV)
 | 0,_=>none
 | _,[]=>some []
 | k+1,x::r=>av (cH ty ob k x) fun y=>av (gQ ty ob k r) fun l=>some (y::l)
def St.free (σ:St) (d:Nat):Bool:=qs d σ.tm&&kZ d σ.ob
where
 qs (d:Nat):List (Nat × AV)→Bool
  | []=>true
  | (_,x)::r=> !bA d x&&qs d r
 kZ (d:Nat):List (Nat × Obj)→Bool
  | []=>true
  | (o,b)::r=>(o==d || !bA.du d (match b.r with | .box _=>b.es | .row _=>[] | .oQ _=>b.es))&&kZ d r
def Lb (_:AV):Bool:=true
def vQ (ty:bX) (e:TypeId):Bool:=match ty e with | some ⟨.ptr _,_,_,_⟩=>true | _=>false
def Jt (ty:bX) (e:TypeId):RT:=if vQ ty e=true then .oQ e else .row e
def fc {α:Type} (x:α):Nat→List α
 | 0=>[]
 | n+1=>x::fc x n
def roomy (n bytes:Nat):Bool:=decide (n * bytes≤140737488355328)
def isStr (ty:bX) (t:TypeId):Bool:=match ty t with | some ⟨.str,_,_,_⟩=>true | _=>false
def lenOf (ty:bX):List TypeId→List AV→Option Int
 | [t],[.sl _ _ es]=>if isSlice ty t=true then some es.length else none
 | [t],[.own _ _ _ n]=>if isSlice ty t=true then some n else none
 | [t],[.str s]=>if isStr ty t=true then some s.size else none
 | _,_=>none
def jw:AV→Bool
 | .sl _ fl _=>fl.fr
 | .ro fr _ _=>fr
 | .mp _ ks _=>ks.isEmpty
 | _=>true
def iw:AV→Bool
 | .st _ fs=>zh fs
 | .cE vs=>zh vs
 | x=>jw x
where zh:List AV→Bool
 | []=>true
 | x::r=>iw x&&zh r
def u6 (ob:List (Nat × Obj)) (e:TypeId):AV→Option (List AV × Bool)
 | .own o u i n=>match aA o ob with
   | some ⟨.row v,fr,es⟩=>if u=e∧v=e∧i+n≤es.length then some (if i=0∧n=es.length then es else (es.drop i).take n,fr) else none
   | _=>none
 | .sl u fl es=>if u=e∨es.isEmpty=true then some (es,fl.fr) else none
 | _=>none
def u7 (E:Env) (d:Nat) (σ:St) (t:TypeId) (s x:AV):Option (AV × List (Nat × Obj)):=
 match E.ty t with
 | some ⟨.slice e,_,_,_⟩=>match E.ty e with
   | some T=>av (u6 σ.ob e x) fun p=>if 0 < T.size∧σ.free d=true then (match s with
     | .sl _ fl _=>if fl.nil=some true∧roomy p.1.length T.bytes=true∧p.1.length≤140737488355328 then some (.own d e 0 p.1.length,bE d ⟨.row e,p.2,p.1⟩ σ.ob) else none
     | .own o u 0 n=>match aA o σ.ob with
       | some ⟨.row v,fr,es⟩=>if u=e∧v=e∧n=es.length∧o ≠ d∧roomy (n+p.1.length) T.bytes=true∧n+p.1.length≤140737488355328 then some (.own d e 0 (n+p.1.length),bE d ⟨.row e,fr&&p.2,es++p.1⟩ (cK o σ.ob))
         else if u=e∧v=e∧n+p.1.length≤es.length∧o ≠ d then some (.own d e 0 (n+p.1.length),bE d ⟨.row e,fr&&p.2,es.take n++(p.1++es.drop (n+p.1.length))⟩ (cK o σ.ob)) else none
       | _=>none
     | _=>none) else none
   | none=>none
 | _=>none
def yD (G:cC) (σ:St) (o:Option Operand) (n:Nat):Option Nat:=
 match o with
 | none=>some n
 | some y=>av (σ.val G y) fun v=>match v with
   | .int _ i=>if 0≤i then some i.toNat else none
   | _=>none
def jR:List Nat→List (Nat × Obj)→List (Nat × Obj)
 | [],l=>l
 | d::r,l=>cK d (jR r l)
def iX (ob:List (Nat × Obj)):AV→Nat
 | .own o u _ _=>match aA o ob with
   | some b=>(match b.r with | .row v=>if v=u then b.es.length else 0 | .box _=>0 | .oQ _=>0)
   | none=>0
 | _=>0
def pg (ty:bX) (t:TypeId) (x:AV) (l h:Nat) (m:Option Nat) (rl:Nat):Option AV:=
 match x with
 | .own o u off n=>if isSlice ty t=true∧l≤h∧(h≤n∨off+h≤rl)∧0 < ph ty t∧yM ty t=some u then (match m with
   | some m=>if h≤m∧m≤n then some .undef else none
   | none=>if l=0 then some (.own o u off h) else if l < h then some (.own o u (off+l) (h - l)) else some (.sl u ⟨true,some false,false⟩ [])) else none
 | .sl u fl es=>if isSlice ty t=true∧l≤h∧h≤es.length∧0 < ph ty t∧(yM ty t=some u∨es.isEmpty=true) then (match m with
   | some m=>if h≤m∧m≤es.length then some .undef else none
   | none=>some (.sl u ⟨fl.fr,fl.nil,false⟩ ((es.drop l).take (h - l)))) else none
 | .str s=>match m with | none=>if isStr ty t=true∧l≤h∧h≤s.size then some (.str (s.extract l h)) else none | some _=>none
 | _=>none
where
 yM (ty:bX) (t:TypeId):Option TypeId:=match ty t with | some ⟨.slice e,_,_,_⟩=>some e | _=>none
 ph (ty:bX) (t:TypeId):Nat:=match ty t with | some ⟨.slice e,_,_,_⟩=>(match ty e with | some T=>T.size | none=>0) | _=>0
def qt:AV→Nat
 | .own _ _ _ n=>n
 | .sl _ _ es=>es.length
 | .str s=>s.size
 | _=>0
def ids:AV→List Nat→List Nat
 | .own o _ _ _,l=>if l.contains o=true then l else l++[o]
 | .ptr o _ _,l=>if l.contains o=true then l else l++[o]
 | .fn _ cs,l=>lL cs l
 | .st _ fs,l=>lL fs l
 | .cE vs,l=>lL vs l
 | _,l=>l
where lL:List AV→List Nat→List Nat
 | [],l=>l
 | x::r,l=>lL r (ids x l)
def num (b:Nat):List Nat→List (Nat × Nat)
 | []=>[]
 | o::r=>(o,b)::num (b+1) r
def rn (pr:List (Nat × Nat)) (o:Nat):Nat:=match aA o pr with | some n=>n | none=>o
def jx (pr:List (Nat × Nat)):AV→AV
 | .own o t i n=> .own (rn pr o) t i n
 | .ptr o r p=> .ptr (rn pr o) r p
 | .fn f cs=> .fn f (u9 pr cs)
 | .st t fs=> .st t (u9 pr fs)
 | .cE vs=> .cE (u9 pr vs)
 | x=>x
where u9 (pr:List (Nat × Nat)):List AV→List AV
 | []=>[]
 | x::r=>jx pr x::u9 pr r
def mR (b:Obj):Bool:=match b.r with | .row _=>true | .box _=>closed.fq b.es | .oQ _=>false
def nv (ob:List (Nat × Obj)):List (Nat × Nat)→Option (List (Nat × Obj))
 | []=>some []
 | (o,n)::r=>av (aA o ob) fun b=>if mR b=true then av (nv ob r) fun l=>some ((n,b)::l) else none
def pick (ob:List (Nat × Obj)):List Nat→Option (List (Nat × Obj))
 | []=>some []
 | o::r=>av (aA o ob) fun b=>av (pick ob r) fun l=>some ((o,b)::l)
def lM {α:Type}:List (Nat × α)→List Nat
 | []=>[]
 | (o,_)::r=>o::lM r
def sv:List Nat→Bool
 | []=>true
 | o::r=> !r.contains o&&sv r
def oC (σ:St):List (Nat × Nat)→Bool
 | []=>true
 | (_,n)::r=>σ.free n&&oC σ r
def within (l:List Nat):List Nat→Bool
 | []=>true
 | o::r=>l.contains o&&within l r
def gR:Nat:=1000000
def Lc (d:Nat):Nat:=3000000+d * 1000
def nN:List (Nat × Obj)→List (Nat × Obj)→List (Nat × Obj)
 | [],l=>l
 | (n,b)::r,l=>bE n b (nN r l)
def zi (X:Nat) (σ:St) (pr:List (Nat × Nat)) (q:AV × List (Nat × Obj)):Option (AV × List (Nat × Obj)):=
 if sv (lM q.2)=true∧oC σ (num (X) (lM q.2))=true∧within (lM q.2) (ids q.1 [])=true then
  av (nv q.2 (num (X) (lM q.2))) fun l=>some (jx (num (X) (lM q.2)) q.1,nN l (jR (lM pr) σ.ob))
 else none
def CM (E:Env) (d:Nat) (σ:St) (f:FuncId) (l:List AV):Option (AV × List (Nat × Obj)):=
 av (nv σ.ob (num gR (ids.lL l []))) fun G9=>av (E.M f (jx.u9 (num gR (ids.lL l [])) l) G9) (zi (Lc d) σ (num gR (ids.lL l [])))
def Ld (Q:FuncId→Bool):Operand→Bool
 | .func f=>Q f
 | _=>false
def vR:Operand→FuncId
 | .func f=>f
 | _=>0
def zj (d:Nat) (σ:St) (q:AV × List (Nat × Obj)):Option (AV × List (Nat × Obj)):=match q.2 with
 | [(o,b)]=>if σ.free d=true∧mR b=true∧within [o] (ids q.1 [])=true then some (jx [(o,d)] q.1,bE d b σ.ob) else none
 | _=>none
def pj (E:Env) (d:Nat) (σ:St) (f:FuncId) (l:List AV):Option (AV × List (Nat × Obj)):=
 if (ids.lL l []).isEmpty=true then av (E.M f l []) (zj d σ) else none
def aZ (E:Env) (d:Nat) (σ:St):Op→Option (AV × List (Nat × Obj))
 | .move x=>av (σ.val E.G x) fun v=>some (v,σ.ob)
 | .assign x=>av (σ.val E.G x) fun v=>some (v,σ.ob)
 | .pick c a b=>av (σ.val E.G c) fun q=>match q with
   | .bool q=>if q=true then av (σ.val E.G a) fun v=>some (v,σ.ob) else av (σ.val E.G b) fun v=>some (v,σ.ob)
   | _=>none
 | .alloc t=>match E.ty t with
   | some T=>if σ.free d=true then some (.ptr d (.box t) [],bE d ⟨.box t,true,[T.zero]⟩ σ.ob) else none
   | none=>none
 | .box t x=>av (σ.val E.G x) fun v=>if fits E.ty t v=true∧kx v=true∧σ.free d=true∧bA d v=false then some (.ptr d (.box t) [],bE d ⟨.box t,fresh v,[v]⟩ σ.ob) else none
 | .build t ps=>match E.ty t with
   | some ⟨.struct ts,_,_,.st _ fs⟩=>av (dq E.G σ ps.toList) fun l=>av (kf E.ty ts fs l) fun gs=>some (.st t gs,σ.ob)
   | some ⟨.array n e,_,_,.ar _ fs⟩=>av (dq E.G σ ps.toList) fun l=>av (gY E.ty e n flat fs l) fun gs=>some (.ar t gs,σ.ob)
   | _=>none
 | .buildSlice t n ps=>match E.ty t with
   | some ⟨.slice e,_,_,_⟩=>match E.ty e with
     | some T=>av (dq E.G σ ps.toList) fun l=>(if vQ E.ty e=true then av (gY E.ty e n Lb (fc T.zero n) l) fun gs=>if σ.free d=true∧0 < T.size∧n * T.size≤16777216∧bA.du d gs=false then some (.own d e 0 n,bE d ⟨.oQ e,fresh.iv gs,gs⟩ σ.ob) else none else av (gY E.ty e n closed (fc T.zero n) l) fun gs=>if σ.free d=true∧0 < T.size∧n * T.size≤16777216 then some (.own d e 0 n,bE d ⟨.row e,fresh.iv gs,gs⟩ σ.ob) else none)
     | none=>none
   | _=>none
 | .makeSlice t x y=>match E.ty t with
   | some ⟨.slice e,_,_,_⟩=>match E.ty e with
     | some T=>av (σ.val E.G x) fun n=>av (σ.val E.G y) fun m=>match n,m with
       | .int .i64 n,.int .i64 m=>if n=m∧0≤n∧n * T.bytes≤140737488355328∧0 < T.size∧0 < T.bytes∧σ.free d=true then some (.own d e 0 n.toNat,bE d ⟨.row e,true,List.replicate n.toNat T.zero⟩ σ.ob) else none
       | _,_=>none
     | none=>none
   | _=>none
 | .load t a=>av (σ.val E.G a) fun a=>match a with
   | .ptr o r p=>match aA o σ.ob with
     | some b=>if b.r=r then av (b.tree p) fun v=>if fits E.ty t v=true then some (b.seen v,σ.ob) else none else none
     | none=>none
   | .ro fr _ x=>if fits E.ty t x=true then some (cL fr x,σ.ob) else none
   | _=>none
 | .store t a x=>av (σ.val E.G a) fun a=>av (σ.val E.G x) fun v=>match a with
   | .ptr o r p=>match aA o σ.ob with
     | some b=>if b.r=r∧fits E.ty t v=true∧kx v=true∧r.di E.ty p=some t then av (b.cW p v) fun c=>some (.undef,bE o c σ.ob) else none
     | none=>none
   | _=>none
 | .fieldAddr s x f=>av (σ.val E.G x) fun x=>match x with
   | .ptr o r p=>if r.di E.ty p=some s then (match E.ty s with
     | some ⟨.struct ts,_,_,_⟩=>if f < ts.length then some (.ptr o r (p++[f]),σ.ob) else none
     | _=>none) else none
   | .ro fr _ (.st t fs)=>if t=s then (match E.ty s with
     | some ⟨.struct ts,_,_,_⟩=>av ts[f]? fun u=>av fs[f]? fun y=>some (.ro fr u y,σ.ob)
     | _=>none) else none
   | _=>none
 | .field s x f=>av (σ.val E.G x) fun x=>match x with
   | .st t fs=>if t=s then av fs[f]? fun y=>some (y,σ.ob) else none
   | _=>none
 | .binOp op t x y _=>av (σ.val E.G x) fun a=>av (σ.val E.G y) fun b=>av (bin E.ty t op a b) fun v=>some (v,σ.ob)
 | .unOp op _ x=>av (σ.val E.G x) fun a=>av (U1 op a) fun v=>some (v,σ.ob)
 | .nilCheck x=>av (σ.val E.G x) fun x=>match x with
   | .ptr o r p=>some (.ptr o r p,σ.ob)
   | .ro fr t y=>some (.ro fr t y,σ.ob)
   | _=>none
 | .extract x i=>av (σ.val E.G x) fun x=>match x with
   | .cE vs=>match vs[i]? with | some v=>some (v,σ.ob) | none=>none
   | _=>none
 | .indexAddr t x ix=>match E.ty t with
   | some ⟨.slice e,_,_,_⟩=>av (σ.val E.G x) fun x=>av (σ.val E.G ix) fun ix=>match x,ix with
     | .own o u off n,.int _ i=>if u=e∧0≤i∧i < n then some (.ptr o (Jt E.ty e) [off+i.toNat],σ.ob) else none
     | .sl u fl es,.int _ i=>if u=e∧0≤i then av es[i.toNat]? fun y=>some (.ro fl.fr e y,σ.ob) else none
     | _,_=>none
   | some ⟨.array n e,_,_,_⟩=>av (σ.val E.G x) fun x=>av (σ.val E.G ix) fun ix=>match x,ix with
     | .ptr o r p,.int _ i=>if r.di E.ty p=some t∧0≤i∧i < n then some (.ptr o r (p++[i.toNat]),σ.ob) else none
     | .ro fr _ (.ar u es),.int _ i=>if u=t∧0≤i then av es[i.toNat]? fun y=>some (.ro fr e y,σ.ob) else none
     | _,_=>none
   | _=>none
 | .lookup t m k ok=>av (σ.val E.G m) fun m=>av (σ.val E.G k) fun k=>av (Ts E.ty t ok k m) fun v=>some (v,σ.ob)
 | .index t x ix=>av (σ.val E.G x) fun x=>av (σ.val E.G ix) fun ix=>match x,ix with
   | .str s,.int _ i=>if isStr E.ty t=true∧0≤i then av s[i.toNat]? fun y=>some (.int .u8 y.toNat,σ.ob) else none
   | _,_=>none
 | .makeFunc fn first captured=>match fn with
   | .func f=>if first.size=0 then av (dZ E.G σ captured.toList) fun l=>if l.all bq=true then some (.fn f l,σ.ob) else none else none
   | _=>none
 | .convert s t x=>av (σ.val E.G x) fun x=>match x with
   | .int _ n=>match E.ty t with
     | some ⟨.int k,_,_,_⟩=>match E.ty s with
       | some _=>some (.int k (k.wrap n),σ.ob)
       | none=>none
     | _=>none
   | _=>none
 | .slice t x lo hi mx=>av (σ.val E.G x) fun x=>av (yD E.G σ lo 0) fun l=>av (yD E.G σ hi (qt x)) fun h=>match mx with
   | none=>av (pg E.ty t x l h none (iX σ.ob x)) fun v=>some (v,σ.ob)
   | some _=>if hi.isSome=true then av (yD E.G σ mx 0) fun m=>av (pg E.ty t x l h (some m) 0) fun v=>some (v,σ.ob) else none
 | .call c=>match c.callee with
   | .value g=>if Ld E.Q g=true then av (dZ E.G σ c.args.toList) (pj E d σ (vR g)) else av (σ.val E.G g) fun g=>av (dZ E.G σ c.args.toList) fun l=>match g with
     | .fn f cs=>av (cH.gQ E.ty σ.ob 30 (l++cs)) fun l'=>av (E.C f l') fun v=>if closed.fq (l++cs)=true∨iw v=true then some (v,σ.ob) else none
     | _=>none
   | .builtin .append=>av (dZ E.G σ c.args.toList) fun l=>match l,c.argTypes.toList with
     | [s,x],[t,t']=>if t=t' then u7 E d σ t s x else none
     | _,_=>none
   | .builtin .max=>av (dZ E.G σ c.args.toList) fun l=>match l with
     | [.int k a,.int k' b]=>if k=k' then some (.int k (if b > a then b else a),σ.ob) else none
     | _=>none
   | .builtin .len=>av (dZ E.G σ c.args.toList) fun l=>av (lenOf E.ty c.argTypes.toList l) fun n=>some (.int .i64 n,σ.ob)
   | _=>none
 | _=>none
def ib (N:List Oper) (j:Nat):Option Nat:=match N[j]? with | some o=>o.dst | none=>none
def bI (E:Env) (σ:St) (d:Option Nat) (x:AV × List (Nat × Obj)):Option St:=
 match d with
 | some t=>if t < E.n then some ⟨bE t x.1 σ.tm,x.2⟩ else none
 | none=>some ⟨σ.tm,x.2⟩
def u_ (E:Env) (N:List Oper) (o:Oper) (σ:St):Option St:=
 match o.guard with
 | none=>av (aZ E (o.dst.getD 0) σ o.op) (bI E σ o.dst)
 | some (j,b)=>match ib N j with
   | some t=>match aA t σ.tm with
     | some (.bool q)=>if q=b then av (aZ E (o.dst.getD 0) σ o.op) (bI E σ o.dst) else bI E σ o.dst (.cE [],σ.ob)
     | some (.cE [])=>bI E σ o.dst (.cE [],σ.ob)
     | _=>none
   | none=>none
def A6 (E:Env) (N:List Oper):List Oper→St→Option St
 | [],σ=>some σ
 | o::r,σ=>av (u_ E N o σ) (A6 E N r)
def U2 (E:Env) (σ:St) (t:TypeId) (x:AV):Option (AV × List (Nat × Obj)):=
 match E.ty t with
 | some ⟨.slice e,_,_,_⟩=>av (E.ty e) fun T=>match x with
   | .own o u off n=>av (aA o σ.ob) fun b=>match b with
     | ⟨.row v,fr,es⟩=>if u=e∧v=e∧off+n≤es.length∧0 < T.size then some (.undef,bE o ⟨.row v,fr,es.take off++(List.replicate n T.zero++es.drop (off+n))⟩ σ.ob) else none
     | _=>none
   | .sl _ _ []=>some (.undef,σ.ob)
   | _=>none
 | _=>none
def dg (E:Env) (d:Nat) (σ:St):Op→Option (AV × List (Nat × Obj))
 | .call c=>match c.callee with
   | .value g=>av (σ.val E.G g) fun y=>match y with
     | .fn f cs=>if E.W f=true then av (dZ E.G σ c.args.toList) fun l=>CM E d σ f (l++cs) else aZ E d σ (.call c)
     | _=>none
   | .builtin .clear=>av (dZ E.G σ c.args.toList) fun l=>match l,c.argTypes.toList with
     | [x],[t]=>U2 E σ t x
     | _,_=>none
   | _=>aZ E d σ (.call c)
 | op=>aZ E d σ op
def yN (E:Env) (N:List Oper) (o:Oper) (σ:St):Option St:=
 match o.guard with
 | none=>av (dg E (o.dst.getD 0) σ o.op) (bI E σ o.dst)
 | some (j,b)=>match ib N j with
   | some t=>match aA t σ.tm with
     | some (.bool q)=>if q=b then av (dg E (o.dst.getD 0) σ o.op) (bI E σ o.dst) else bI E σ o.dst (.cE [],σ.ob)
     | some (.cE [])=>bI E σ o.dst (.cE [],σ.ob)
     | _=>none
   | none=>none
def gS (E:Env) (N:List Oper):List Oper→St→Option St
 | [],σ=>some σ
 | o::r,σ=>av (yN E N o σ) (gS E N r)
def Obj.bA (o:Nat) (b:Obj):Bool:=match b.r with | .box _=>Abs.bA.du o b.es | .row _=>false | .oQ _=>Abs.bA.du o b.es
def isApp:Builtin→Bool
 | .append=>true
 | _=>false
def pP (Q:FuncId→Bool) (G:cC) (d:Nat) (σ:St) (c:Call):List Nat:=match c.callee with
 | .value g=>if Ld Q g=true then [d] else []
 | .builtin b=>if isApp b=true then (match dZ G σ c.args.toList with
   | some (.own o _ _ _::_)=>[d,o]
   | some _=>[d]
   | none=>[]) else []
 | _=>[]
def A7 (Q:FuncId→Bool) (G:cC) (d:Nat) (σ:St):Op→List Nat
 | .alloc _=>[d]
 | .box _ _=>[d]
 | .buildSlice _ _ _=>[d]
 | .makeSlice _ _ _=>[d]
 | .store _ a _=>match σ.val G a with | some (.ptr o _ _)=>[o] | _=>[]
 | .call c=>pP Q G d σ c
 | _=>[]
def A8 (d:Nat) (σ:St) (t:Option Nat) (w:List Nat):Bool:=
 (match t with | some t=>(match aA t σ.tm with | some v=> !bA d v | none=>true) | none=>true)&&
 w.all fun o=>match aA o σ.ob with | some b=> !b.bA d | none=>true
def E8 (E:Env) (L:List Oper) (o:Oper) (h:DH) (σ σ':St):Bool:=
 (h.del.isEmpty || (u_ E L o ⟨σ.tm,jR h.del σ.ob⟩).isSome)&&
 (h.wr.isEmpty || (A7 E.Q E.G (o.dst.getD 0) σ o.op).all fun x=>h.wr.contains x)&&
 h.nom.all fun d=>A8 d σ' o.dst (A7 E.Q E.G (o.dst.getD 0) σ o.op)
def lO (E:Env) (L:List Oper):List DH→List Oper→St→Option St
 | _,[],σ=>some σ
 | hs,o::r,σ=>av (u_ E L o σ) fun σ'=>if E8 E L o (hs.headD vP) σ σ'=true then lO E L hs.tail r σ' else none
def zk (E:Env) (id:Nat) (L:List Oper) (σ:St):Option St:=
 match E.D id with
 | none=>A6 E L L σ
 | some (hs,kg)=>if kg.all (fun d=>σ.free d)=true then lO E L hs L σ else none
def inK (K t:Nat):Bool:=(K >>> t) % 2==1
def kept {α:Type} (K:Nat):List (Nat × α)→List (Nat × α)
 | []=>[]
 | (t,v)::r=>if inK K t=true then (t,v)::kept K r else kept K r
def kR (E:Env) (σ:St):St:=⟨kept E.K σ.tm,σ.ob⟩
inductive AX where
 | norm
 | exit (id:Nat)
 | ret
structure Hint where
 tm:List Nat
 ob:List Nat
 sl:List (Nat × Nat × TypeId):=[]
 fin:Option (List Nat × List Nat):=none
def aQ {α:Type} (l:List (Nat × α)):List Nat→List (Nat × α)
 | []=>[]
 | t::r=>match aA t l with | some v=>(t,v)::aQ l r | none=>aQ l r
def St.cA (σ:St) (h:Hint):St:=⟨aQ σ.tm h.tm,aQ σ.ob h.ob⟩
def St.fin (σ:St) (h:Hint):St:=match h.fin with
 | none=>σ
 | some (ts,os)=>⟨aQ σ.tm ts,aQ σ.ob os⟩
def post (h:Hint):Option (AX × St)→Option (AX × St)
 | some (x,σ)=>some (x,σ.fin h)
 | none=>none
def A9:List AV→Bool
 | []=>true
 | x::r=>bq x&&A9 r
def k7 (e:TypeId):List AV→Option Nat
 | []=>none
 | .own q t _ _::r=>if t=e then some q else k7 e r
 | _::r=>k7 e r
def jS (q c:Nat):AV→AV
 | .own o t i n=>if o=q then .own c t i n else .own o t i n
 | x=>x
def jT (c:Nat) (e:TypeId):AV→AV
 | .sl t fl es=>if t=e∧fl.nil=some true then .own c e 0 0 else .sl t fl es
 | x=>x
def St.slot (ty:bX) (σ:St) (t c:Nat) (e:TypeId):St:=
 match aA t σ.tm with
 | some (.own o u 0 n)=>(match aA o σ.ob with
   | some ⟨.row v,fr,es⟩=>if o=c∨σ.free c=true then ⟨bE t (.own c u 0 n) σ.tm,bE c ⟨.row v,fr,es⟩ (cK o σ.ob)⟩ else σ
   | _=>σ)
 | some (.sl _ fl _)=>(match ty e with
   | some T=>if fl.nil=some true∧0 < T.size∧σ.free c=true then ⟨bE t (.own c e 0 0) σ.tm,bE c ⟨.row e,true,[]⟩ σ.ob⟩ else σ
   | none=>σ)
 | some (.ptr o (.box _) [])=>(match aA o σ.ob with
   | some ⟨.box u,f,[.st v fs]⟩=>(match k7 e fs with
     | some q=>(match aA q σ.ob with
       | some ⟨.row v',fr,es⟩=>if q=c∨σ.free c=true then ⟨σ.tm,bE o ⟨.box u,f,[.st v (fs.map (jS q c))]⟩ (bE c ⟨.row v',fr,es⟩ (cK q σ.ob))⟩ else σ
       | _=>σ)
     | none=>(match ty e with
       | some T=>if 0 < T.size∧σ.free c=true then ⟨σ.tm,bE o ⟨.box u,f,[.st v (fs.map (jT c e))]⟩ (bE c ⟨.row e,true,[]⟩ σ.ob)⟩ else σ
       | none=>σ))
   | _=>σ)
 | _=>σ
def St.nw (ty:bX) (σ:St):List (Nat × Nat × TypeId)→St
 | []=>σ
 | s::r=>(σ.slot ty s.1 s.2.1 s.2.2).nw ty r
def nx (r:Option (AX × St)) (f:St→Option (AX × St)):Option (AX × St):=
 match r with
 | some (.norm,σ)=>f σ
 | r=>r
def inBlock (id:Nat) (r:Option (AX × St)):Option (AX × St):=
 match r with
 | some (.exit i,σ)=>if i=id then some (.norm,σ) else some (.exit i,σ)
 | r=>r
theorem zl (σ:St) (f):nx (some (.norm,σ)) f=f σ:=rfl
theorem zm (i:Nat) (σ:St) (f):nx (some (.exit i,σ)) f=some (.exit i,σ):=rfl
theorem CN (σ:St) (f):nx (some (.ret,σ)) f=some (.ret,σ):=rfl
theorem zn (f):nx none f=none:=rfl
theorem Le (c:Prop) [Decidable c] (a b f):nx (if c then a else b) f=if c then nx a f else nx b f:=by split <;> rfl
theorem qu (i:Nat) (σ:St):inBlock i (some (.norm,σ))=some (.norm,σ):=rfl
theorem qv (i j:Nat) (σ:St):inBlock i (some (.exit j,σ))=if j=i then some (.norm,σ) else some (.exit j,σ):=rfl
theorem tj (i:Nat) (σ:St):inBlock i (some (.ret,σ))=some (.ret,σ):=rfl
theorem qw (i:Nat):inBlock i none=none:=rfl
theorem CO (i:Nat) (c:Prop) [Decidable c] (a b):inBlock i (if c then a else b)=if c then inBlock i a else inBlock i b:=by split <;> rfl
def aG (ty:bX) (f:St→Option (AX × St)) (h:Hint):Nat→St→Option (AX × St)
 | 0,_=>none
 | k+1,σ=>nx (f ((σ.cA h).nw ty h.sl)) (aG ty f h k)
def kE:Code→Nat
 | .region id _ _=>id
 | .seq a _=>kE a
 | .block _ c=>kE c
 | .loop c=>kE c
 | _=>0
def frz (o:Nat) (t:TypeId) (y:AV):AV→AV
 | .ptr o' (.box u) []=>if o'=o then .ro (iw y) t y else .ptr o' (.box u) []
 | x=>x
def yO (o:Nat) (t:TypeId) (y:AV):List (Nat × AV)→List (Nat × AV)
 | []=>[]
 | (u,x)::r=>(u,frz o t y x)::yO o t y r
def A_ (o t:Nat) (fr:Bool) (es:List AV):AV→AV
 | .own o' t' i n=>if o'=o∧t'=t∧i=0∧n=es.length then .sl t ⟨fr,none,false⟩ es else .own o' t' i n
 | x=>x
def CP (o t:Nat) (fr:Bool) (es:List AV):List AV→List AV
 | []=>[]
 | x::r=>A_ o t fr es x::CP o t fr es r
def Lf (o t:Nat) (fr:Bool) (es:List AV):Obj→Obj
 | ⟨.box u,f,[.st v fs]⟩=>if A9 fs=true then ⟨.box u,f,[.st v (CP o t fr es fs)]⟩ else ⟨.box u,f,[.st v fs]⟩
 | b=>b
def sw (o t:Nat) (fr:Bool) (es:List AV):List (Nat × Obj)→List (Nat × Obj)
 | []=>[]
 | (q,b)::r=>(q,Lf o t fr es b)::sw o t fr es r
def Qp (σ:St) (o:Nat):Obj→St
 | ⟨.box t,_,[y]⟩=>if closed y=true then ⟨yO o t y σ.tm,cK o σ.ob⟩ else σ
 | ⟨.row t,fr,es⟩=>⟨σ.tm,sw o t fr es (cK o σ.ob)⟩
 | _=>σ
def St.lP (σ:St) (o:Nat):St:=match aA o σ.ob with | some b=>Qp σ o b | none=>σ
def St.freeze (σ:St):List Nat→St
 | []=>σ
 | o::r=>(σ.lP o).freeze r
def a9 (E:Env) (H:Nat→Hint) (k:Nat):Code→St→Option (AX × St)
 | .skip,σ=>some (.norm,σ)
 | .region id N true,σ=>av (zk E id N.toList σ) fun σ'=>some (.norm,kR E σ')
 | .region id N false,σ=>av (gS E N.toList N.toList (σ.freeze (E.Z id))) fun σ'=>some (.norm,kR E σ')
 | .seq a b,σ=>nx (a9 E H k a σ) (a9 E H k b)
 | .cond c a b,σ=>av (σ.val E.G c) fun q=>match q with
   | .bool q=>if q=true then a9 E H k a σ else a9 E H k b σ
   | _=>none
 | .block id c,σ=>inBlock id (a9 E H k c σ)
 | .loop c,σ=>post (H (kE c)) (aG E.ty (a9 E H k c) (H (kE c)) k σ)
 | .exit id,σ=>some (.exit id,σ)
 | .ret,σ=>some (.ret,σ)
 | _,_=>none
def eH:Nat→List AV→List (Nat × AV)
 | _,[]=>[]
 | i,x::r=>(i,x)::eH (i+1) r
def Ba (E:Env) (σ:St):ResultVar→Option AV
 | .tmp t=>aA t σ.tm
 | .cell a t=>av (aA a σ.tm) fun a=>match a with
   | .ptr o r p=>match aA o σ.ob with
     | some b=>if b.r=r then av (b.tree p) fun v=>if fits E.ty t v=true then some (b.seen v) else none else none
     | none=>none
   | _=>none
def dS (E:Env) (σ:St):List ResultVar→Option (List AV)
 | []=>some []
 | r::l=>av (Ba E σ r) fun v=>av (dS E σ l) fun vs=>some (v::vs)
def hand (ty:bX) (ob:List (Nat × Obj)):Nat→AV→Option AV
 | 0,_=>none
 | _+1,.own o t i n=>match aA o ob with
   | some ⟨.row u,fr,es⟩=>if t=u∧i+n≤es.length then some (.sl t ⟨fr,none,false⟩ (if i=0∧n=es.length then es else (es.drop i).take n)) else none
   | _=>none
 | k+1,.ptr o (.box u0) p=>match aA o ob with
   | some b=>if b.r = .box u0 then (match b.tree p with
     | some x=>match (RT.box u0).di ty p with | some u=>av (hand ty ob k x) fun y=>some (.ro (iw y) u y) | none=>none
     | none=>none) else none
   | none=>none
 | k+1,.st t fs=>av (gn ty ob k fs) fun gs=>some (.st t gs)
 | _,.ptr ..=>none
 | _,.cE _=>none
 | _,.undef=>none
 | _,.fn ..=>none
 | _,x=>some x
where gn (ty:bX) (ob:List (Nat × Obj)):Nat→List AV→Option (List AV)
 | 0,_=>none
 | _,[]=>some []
 | k+1,x::r=>av (hand ty ob k x) fun y=>av (gn ty ob k r) fun l=>some (y::l)
def one:List AV→AV
 | [v]=>v
 | vs=> .cE vs
def finish (E:Env) (rs:List ResultVar):Option (AX × St)→Option AV
 | some (.norm,σ)=>av (dS E σ rs) fun vs=>av (hand.gn E.ty σ.ob 30 vs) fun vs=>some (one vs)
 | some (.ret,σ)=>av (dS E σ rs) fun vs=>av (hand.gn E.ty σ.ob 30 vs) fun vs=>some (one vs)
 | _=>none
theorem Fg (E rs) (c:Prop) [Decidable c] (a b):finish E rs (if c then a else b)=if c then finish E rs a else finish E rs b:=by split <;> rfl
theorem vS (E rs) (σ:St):finish E rs (some (.ret,σ))=av (dS E σ rs) fun vs=>av (hand.gn E.ty σ.ob 30 vs) fun vs=>some (one vs):=rfl
theorem tk (E rs) (σ:St):finish E rs (some (.norm,σ))=av (dS E σ rs) fun vs=>av (hand.gn E.ty σ.ob 30 vs) fun vs=>some (one vs):=rfl
theorem tl (E rs):finish E rs none=none:=rfl
def fo:AV→Bool
 | .mp ..=>false
 | .sl _ fl _=> !fl.fr
 | .ro fr _ _=> !fr
 | .st _ fs=>ml fs
 | .fn _ cs=>ml cs
 | .own ..=>false
 | .ptr ..=>false
 | .undef=>false
 | .cE _=>false
 | _=>true
where ml:List AV→Bool
 | []=>true
 | x::r=>fo x&&ml r
def ak (E:Env) (H:Nat→Hint) (k:Nat) (fn:Func) (args:List AV):Option AV:=
 match fn.body with
 | none=>none
 | some c=>if fo.ml args=true then finish E fn.results.toList (a9 E H k c ⟨eH 0 args,[]⟩) else none
def mn:AV→Bool
 | .cE _=>false
 | _=>true
def k_ (E:Env) (rs:List ResultVar) (σ:St):Option (AV × List (Nat × Obj)):=
 av (dS E σ rs) fun vs=>av (pick σ.ob (ids.lL vs [])) fun ob=>if vs.all mn=true then some (one vs,ob) else none
def qx (E:Env) (rs:List ResultVar):Option (AX × St)→Option (AV × List (Nat × Obj))
 | some (.norm,σ)=>k_ E rs σ
 | some (.ret,σ)=>k_ E rs σ
 | _=>none
theorem tn (E rs) (σ:St):qx E rs (some (.ret,σ))=k_ E rs σ:=rfl
theorem qy (E rs) (σ:St):qx E rs (some (.norm,σ))=k_ E rs σ:=rfl
theorem qz (E rs):qx E rs none=none:=rfl
def ai (E:Env) (H:Nat→Hint) (k:Nat) (fn:Func) (args:List AV) (ob:List (Nat × Obj)):Option (AV × List (Nat × Obj)):=
 match fn.body with
 | none=>none
 | some c=>qx E fn.results.toList (a9 E H k c ⟨eH 0 args,ob⟩)
end Go.Abs
end
section
namespace Go.Abs
open Go Go.RowKit
mutual
def leaves:AV→List AV
 | .st _ fs=>ay fs
 | .ar _ es=>ay es
 | x=>[x]
def ay:List AV→List AV
 | []=>[]
 | x::r=>leaves x++ay r
end
theorem bY {x:AV} (h:bq x=true):leaves x=[x]:=by cases x <;> simp_all [bq,leaves]
def aH (ty:bX) (t:TypeId):Nat:=match ty t with | some d=>d.size | none=>0
inductive br (ty:bX):TypeId→AV→Prop
 | leaf {t:TypeId} {d:kD} {x:AV}:ty t=some d→fv d.k=true→d.size=1→bq x=true→br ty t x
 | st {t:TypeId} {ts:List TypeId} {s b:Nat} {z:AV} {fs:List AV}:ty t=some ⟨.struct ts,s,b,z⟩→fs.length=ts.length→s=(ts.map (aH ty)).sum→
    (∀ (i:Nat) (x:AV) (u:TypeId),fs[i]? = some x→ts[i]? = some u→br ty u x)→br ty t (.st t fs)
 | ar {t e:TypeId} {n s b:Nat} {z:AV} {es:List AV}:ty t=some ⟨.array n e,s,b,z⟩→es.length=n→s=n * aH ty e→
    (∀ x ∈ es,br ty e x)→(∀ x ∈ es,flat x=true)→br ty t (.ar t es)
theorem cr (a b:List AV):ay (a++b)=ay a++ay b:=by
 induction a with
 | nil=>simp[ay]
 | cons x r ih=>simp[ay,ih]
theorem ld {ty:bX}:∀ (fs:List AV) (ts:List TypeId),fs.length=ts.length→
 (∀ (i:Nat) (x:AV) (u:TypeId),fs[i]? = some x→ts[i]? = some u→(leaves x).length=aH ty u)→(ay fs).length=(ts.map (aH ty)).sum
 | [],[],_,_=>rfl
 | x::fs,u::ts,hl,h=>by
   have h0:=h 0 x u rfl rfl;have hr:=ld fs ts (by simpa using hl) (fun i y v hy hv=>h (i+1) y v (by simpa using hy) (by simpa using hv));simp[ay,h0,hr]
 | [],_::_,hl,_=>by simp at hl
 | _::_,[],hl,_=>by simp at hl
theorem bg (s:Nat):∀ (es:List AV),(∀ x ∈ es,(leaves x).length=s)→(ay es).length=es.length * s
 | [],_=>by simp[ay]
 | x::r,h=>by
   have h0:=h x (by simp);have hr:=bg s r (fun y hy=>h y (by simp[hy]));simp[ay,h0,hr,Nat.succ_mul,Nat.add_comm]
theorem br.len {ty:bX} {t:TypeId} {x:AV} (h:br ty t x):(leaves x).length=aH ty t:=by
 induction h with
 | leaf h1 _ h3 h4=>simp[bY h4,aH,h1,h3]
 | st h1 h2 h3 _ ih=>
   simp only[leaves,aH,h1];rw[ld _ _ h2 ih,h3]
 | ar h1 h2 h3 _ _ ih=>
   simp only[leaves,aH,h1];rw[bg _ _ ih,h2,h3]
theorem ed (s:Nat):∀ (es:List AV),(∀ x ∈ es,(leaves x).length=s)→∀ (i:Nat) (x:AV),es[i]? = some x→∀ j,j < s→(ay es)[i * s+j]? = (leaves x)[j]?
 | [],_,i,x,hx,_,_=>by simp at hx
 | y::r,h,0,x,hx,j,hj=>by
   simp at hx;subst hx;have h0:=h y (by simp);simp only[ay,Nat.zero_mul,Nat.zero_add];rw[List.getElem?_append_left (by omega)]
 | y::r,h,i+1,x,hx,j,hj=>by
   have h0:=h y (by simp);have hr:=ed s r (fun z hz=>h z (by simp[hz])) i x (by simpa using hx) j hj;simp only[ay];rw[List.getElem?_append_right (by rw[h0,Nat.succ_mul];omega),h0];rw[← hr];congr 1;rw[Nat.succ_mul];omega
theorem ic {ty:bX}:∀ (fs:List AV) (ts:List TypeId),fs.length=ts.length→(∀ (i:Nat) (x:AV) (u:TypeId),fs[i]? = some x→ts[i]? = some u→(leaves x).length=aH ty u)→
 ∀ (i:Nat) (x:AV) (u:TypeId),fs[i]? = some x→ts[i]? = some u→∀ j,j < aH ty u→(ay fs)[((ts.take i).map (aH ty)).sum+j]? = (leaves x)[j]?
 | [],_,_,_,i,x,u,hx,_,_,_=>by simp at hx
 | _::_,[],hl,_,_,_,_,_,_,_,_=>by simp at hl
 | y::fs,v::ts,hl,h,0,x,u,hx,hu,j,hj=>by
   simp at hx hu;subst hx;subst hu;have h0:=h 0 y v rfl rfl;simp only[ay,List.take_zero,List.map_nil,List.sum_nil,Nat.zero_add];rw[List.getElem?_append_left (by omega)]
 | y::fs,v::ts,hl,h,i+1,x,u,hx,hu,j,hj=>by
   have h0:=h 0 y v rfl rfl;have hr:=ic fs ts (by simpa using hl) (fun i z w hz hw=>h (i+1) z w (by simpa using hz) (by simpa using hw)) i x u (by simpa using hx) (by simpa using hu) j hj;simp only[ay,List.take_succ_cons,List.map_cons,List.sum_cons];rw[List.getElem?_append_right (by omega),h0,← hr];congr 1;omega
def fX (ty:bX):TypeId→List Nat→Option Nat
 | _,[]=>some 0
 | t,i::p=>match ty t with
   | some ⟨.struct ts,_,_,_⟩=>match ts[i]? with
     | some u=>match fX ty u p with | some d=>some (((ts.take i).map (aH ty)).sum+d) | none=>none
     | none=>none
   | some ⟨.array n e,_,_,_⟩=>if i < n then (match fX ty e p with | some d=>some (i * aH ty e+d) | none=>none) else none
   | _=>none
def ky (ty:bX):RT→List Nat→Option Nat
 | .box t,p=>fX ty t p
 | .row t,i::p=>match fX ty t p with | some d=>some (i * aH ty t+d) | none=>none
 | .row _,[]=>none
 | .oQ t,i::p=>match fX ty t p with | some d=>some (i * aH ty t+d) | none=>none
 | .oQ _,[]=>none
theorem br.tree {ty:bX}:∀ (p:List Nat) {t:TypeId} {x y:AV} {d:Nat},br ty t x→Abs.tree x p=some y→fX ty t p=some d→
 ∃ u,di ty t p=some u∧br ty u y∧∀ j,j < aH ty u→(leaves x)[d+j]? = (leaves y)[j]?
 | [],t,x,y,d,h,hy,hd=>by
   simp[Abs.tree] at hy;simp[fX] at hd;subst hy;subst hd;exact⟨t,by simp[di],h,fun j _=>by simp⟩
 | i::p,t,x,y,d,h,hy,hd=>by
   cases h with
   | leaf h1 h2 _ h4=>cases x <;> simp_all [Abs.tree,bq]
   | @st _ ts s b z fs h1 h2 h3 h4=>
     simp only[Abs.tree] at hy;split at hy
     ·rename_i q hq;simp only[fX,h1] at hd;split at hd
      ·rename_i u hu;split at hd
       ·rename_i d' qA;injection hd with hd;subst hd
        obtain⟨u',a1,a2,a3⟩:=br.tree p (h4 i q u hq hu) hy qA;refine⟨u',by simp[di,h1,hu,a1],a2,fun j hj=>?_⟩;rw[← a3 j hj];have aR:d'+j < aH ty u:=by
         have h5:((leaves q)[d'+j]?).isSome:=by rw[a3 j hj];simp[a2.len,hj]
         simp[(h4 i q u hq hu).len] at h5;exact h5
        have:=ic fs ts h2 (fun i x u hx hu=>(h4 i x u hx hu).len) i q u hq hu (d'+j) aR;simp only[leaves];rw[← this];congr 1;omega
       ·simp at hd
      ·simp at hd
     ·simp at hy
   | @ar _ e n s b z es h1 h2 h3 h4 h5=>
     simp only[Abs.tree] at hy;split at hy
     ·rename_i q hq;simp only[fX,h1] at hd;split at hd
      ·split at hd
       ·rename_i d' qA;injection hd with hd;subst hd
        have hm:q ∈ es:=List.mem_of_getElem? hq;obtain⟨u',a1,a2,a3⟩:=br.tree p (h4 q hm) hy qA;refine⟨u',by simp[di,h1,a1],a2,fun j hj=>?_⟩;rw[← a3 j hj];have aR:d'+j < aH ty e:=by
         have h5:((leaves q)[d'+j]?).isSome:=by rw[a3 j hj];simp[a2.len,hj]
         simp[(h4 q hm).len] at h5;exact h5
        have:=ed (aH ty e) es (fun x hx=>(h4 x hx).len) i q hq (d'+j) aR;simp only[leaves];rw[← this];congr 1;omega
       ·simp at hd
      ·simp at hd
     ·simp at hy
theorem kT:∀ (fs:List AV),flat.zg fs=true↔∀ x ∈ fs,flat x=true
 | []=>by simp[flat.zg]
 | x::r=>by simp[flat.zg,kT r]
theorem lf {α:Type} {l:List α} {i:Nat} {a x:α} (h:x ∈ l.set i a):x=a∨x ∈ l:=by
 rcases List.mem_or_eq_of_mem_set h with h | h
 ·exact .inr h
 ·exact .inl h
theorem vT:∀ (p:List Nat) {x v z:AV},flat x=true→flat v=true→cW x p v=some z→flat z=true
 | [],x,v,z,_,hv,h=>by simp[cW] at h;subst h;exact hv
 | i::p,x,v,z,hx,hv,h=>by
   cases x with
   | st t fs=>
     simp only[cW] at h;split at h
     ·rename_i q hq;split at h
      ·rename_i r hr;injection h with h;subst h
       have cw:=(kT fs).1 (by simpa[flat] using hx);have:=vT p (cw q (List.mem_of_getElem? hq)) hv hr;simp only[flat];rw[kT];intro y hy;rcases lf hy with rfl | hy
       ·exact this
       ·exact cw y hy
      ·cases h
     ·cases h
   | ar t es=>simp[flat] at hx
   | _=>simp[cW] at h
theorem ajp {α:Type} (A B B' C:List α) (h:B'.length=B.length) (j:Nat) :
 (A++(B'++C))[j]? = if A.length≤j∧j < A.length+B.length then B'[j - A.length]? else (A++(B++C))[j]?:=by
 by_cases h1:j < A.length
 ·rw[if_neg (by omega),List.getElem?_append_left h1,List.getElem?_append_left h1]
 ·rw[List.getElem?_append_right (by omega)];by_cases h2:j < A.length+B.length
  ·rw[if_pos ⟨by omega,h2⟩,List.getElem?_append_left (by omega)]
  ·rw[if_neg (by omega),List.getElem?_append_right (by omega),List.getElem?_append_right (by omega),List.getElem?_append_right (by omega),h]
theorem mq {α:Type}:∀ (l:List α) (i:Nat) (x:α),l[i]? = some x→l=l.take i++x::l.drop (i+1)∧∀ y,l.set i y=l.take i++y::l.drop (i+1)
 | [],i,x,h=>by simp at h
 | a::r,0,x,h=>by simp at h;subst h;simp
 | a::r,i+1,x,h=>by
   obtain⟨h1,h2⟩:=mq r i x (by simpa using h);refine⟨by simp only[List.take_succ_cons,List.drop_succ_cons,List.cons_append];rw[← h1],fun y=>?_⟩;simp only[List.set_cons_succ,List.take_succ_cons,List.drop_succ_cons,List.cons_append,h2 y]
theorem lQ (fs:List AV) (i:Nat) (x z:AV) (o:Nat) (hx:fs[i]? = some x) (hl:(leaves z).length=(leaves x).length) (ho:(ay (fs.take i)).length=o) (j:Nat) :
 (ay (fs.set i z))[j]? = if o≤j∧j < o+(leaves x).length then (leaves z)[j - o]? else (ay fs)[j]?:=by
 obtain⟨h1,h2⟩:=mq fs i x hx;have e1:ay fs=ay (fs.take i)++(leaves x++ay (fs.drop (i+1))):=by
  conv=>lhs;rw[h1]
  rw[cr];rfl
 have e2:ay (fs.set i z)=ay (fs.take i)++(leaves z++ay (fs.drop (i+1))):=by
  rw[h2 z,cr];rfl
 rw[e1,e2,ajp _ _ _ _ hl,ho]
theorem nO {ty:bX} (fs:List AV) (ts:List TypeId) (hl:fs.length=ts.length) (h:∀ (i:Nat) (x:AV) (u:TypeId),fs[i]? = some x→ts[i]? = some u→(leaves x).length=aH ty u) (i:Nat) :
 (ay (fs.take i)).length=((ts.take i).map (aH ty)).sum:=
 ld _ _ (by simp[hl]) fun k x u hx hu=>by
  rw[List.getElem?_take] at hx hu;split at hx
  ·rename_i hk;rw[if_pos hk] at hu;exact h k x u hx hu
  ·cases hx
theorem br.cW {ty:bX}:∀ (p:List Nat) {t u:TypeId} {x v z:AV} {d:Nat},br ty t x→Abs.cW x p v=some z→di ty t p=some u→br ty u v→
 fX ty t p=some d→(gC x p=true→flat v=true)→
 br ty t z∧d+aH ty u≤aH ty t∧∀ j,(leaves z)[j]? = if d≤j∧j < d+aH ty u then (leaves v)[j - d]? else (leaves x)[j]?
 | [],t,u,x,v,z,d,h,hz,hu,hv,hd,_=>by
   simp[Abs.cW] at hz;simp[fX] at hd;simp[di] at hu;subst hz;subst hd;subst hu;refine⟨hv,by omega,fun j=>?_⟩;by_cases hj:j < aH ty t
   ·rw[if_pos ⟨by omega,by omega⟩];simp
   ·rw[if_neg (by omega),List.getElem?_eq_none (by rw[hv.len];omega),List.getElem?_eq_none (by rw[h.len];omega)]
 | i::p,t,u,x,v,z,d,h,hz,hu,hv,hd,hf=>by
   cases h with
   | leaf h1 h2 _ h4=>cases x <;> simp_all [Abs.cW,bq]
   | @st _ ts s b z0 fs h1 h2 h3 h4=>
     simp only[Abs.cW] at hz;split at hz
     ·rename_i q hq;split at hz
      ·rename_i r hr;injection hz with hz;subst hz
       simp only[fX,h1] at hd;split at hd
       ·rename_i w hw;split at hd
        ·rename_i d' qA;injection hd with hd;subst hd
         have nP:di ty w p=some u:=by simpa[di,h1,hw] using hu
         obtain⟨a1,a2,a3⟩:=br.cW p (h4 i q w hq hw) hr nP hv qA (fun de=>hf (by simp[gC,hq,de]));have hlen:∀ (i:Nat) (x:AV) (u:TypeId),fs[i]? = some x→ts[i]? = some u→(leaves x).length=aH ty u:=fun i x u hx hu=>(h4 i x u hx hu).len
         have ho:=nO fs ts h2 hlen i;have bH:=lQ fs i q r _ hq (by rw[a1.len,(h4 i q w hq hw).len]) ho;have Lg:=(h4 i q w hq hw).len;have qk:i < fs.length:=(List.getElem?_eq_some_iff.1 hq).1;refine⟨.st h1 (by simpa using h2) h3 fun k x' u' tp Lh=>?_,?_,fun j=>?_⟩
         ·rw[List.getElem?_set] at tp;split at tp
          ·rename_i hk;subst hk;injection tp with tp;subst tp
           rw[hw] at Lh;injection Lh with Lh;subst Lh
           exact a1
          ·exact h4 k x' u' tp Lh
         ·have:((ts.take i).map (aH ty)).sum+aH ty w≤(ts.map (aH ty)).sum:=by
           obtain⟨e1,_⟩:=mq ts i w hw
           conv=>rhs;rw[e1]
           simp
          have hs:aH ty t=s:=by simp[aH,h1]
          rw[hs,h3];omega
         ·simp only[leaves];rw[bH j,Lg];by_cases hj:((ts.take i).map (aH ty)).sum≤j∧j < ((ts.take i).map (aH ty)).sum+aH ty w
          ·rw[if_pos hj,a3];by_cases vU:d'≤j - ((ts.take i).map (aH ty)).sum∧j - ((ts.take i).map (aH ty)).sum < d'+aH ty u
           ·rw[if_pos vU,if_pos (by omega)];congr 1;omega
           ·rw[if_neg vU,if_neg (by omega)];have:=ic fs ts h2 hlen i q w hq hw (j - ((ts.take i).map (aH ty)).sum) (by omega);rw[← this];congr 1;omega
          ·rw[if_neg hj,if_neg (by omega)]
        ·cases hd
       ·cases hd
      ·cases hz
     ·cases hz
   | @ar _ e n s b z0 es h1 h2 h3 h4 h5=>
     simp only[Abs.cW] at hz;split at hz
     ·rename_i q hq;split at hz
      ·rename_i r hr;injection hz with hz;subst hz
       simp only[fX,h1] at hd;split at hd
       ·rename_i de;split at hd
        ·rename_i d' qA;injection hd with hd;subst hd
         have hm:q ∈ es:=List.mem_of_getElem? hq;have hfv:flat v=true:=hf (by simp[gC]);have nP:di ty e p=some u:=by simpa[di,h1] using hu
         obtain⟨a1,a2,a3⟩:=br.cW p (h4 q hm) hr nP hv qA (fun _=>hfv);have hlen:∀ x ∈ es,(leaves x).length=aH ty e:=fun x hx=>(h4 x hx).len
         have ho:(ay (es.take i)).length=i * aH ty e:=by
          rw[bg (aH ty e) _ (fun x hx=>hlen x (List.mem_of_mem_take hx)),List.length_take,h2,Nat.min_eq_left (Nat.le_of_lt de)]
         have bH:=lQ es i q r _ hq (by rw[a1.len,(h4 q hm).len]) ho;have Lg:=(h4 q hm).len;refine⟨.ar h1 (by simpa using h2) h3 (fun x hx=>?_) (fun x hx=>?_),?_,fun j=>?_⟩
         ·rcases lf hx with rfl | hx
          ·exact a1
          ·exact h4 x hx
         ·rcases lf hx with rfl | hx
          ·exact vT p (h5 q hm) hfv hr
          ·exact h5 x hx
         ·have hs:aH ty t=s:=by simp[aH,h1]
          rw[hs,h3];have:(i+1) * aH ty e≤n * aH ty e:=Nat.mul_le_mul_right _ de;rw[Nat.succ_mul] at this;omega
         ·simp only[leaves];rw[bH j,Lg];by_cases hj:i * aH ty e≤j∧j < i * aH ty e+aH ty e
          ·rw[if_pos hj,a3];by_cases vU:d'≤j - i * aH ty e∧j - i * aH ty e < d'+aH ty u
           ·rw[if_pos vU,if_pos (by omega)];congr 1;omega
           ·rw[if_neg vU,if_neg (by omega)];have:=ed (aH ty e) es hlen i q hq (j - i * aH ty e) (by omega);rw[← this];congr 1;omega
          ·rw[if_neg hj,if_neg (by omega)]
        ·cases hd
       ·cases hd
      ·cases hz
     ·cases hz
theorem iY {ty:bX}:∀ (p q:List Nat) {t u:TypeId} {d e:Nat},di ty t p=some u→fX ty t p=some d→fX ty u q=some e→fX ty t (p++q)=some (d+e)
 | [],q,t,u,d,e,h,hd,he=>by simp[di] at h;simp[fX] at hd;subst h;subst hd;simpa using he
 | i::p,q,t,u,d,e,h,hd,he=>by
   simp only[di,fX,List.cons_append] at h hd ⊢;split at h
   ·rename_i fs _ _ _ lH;split at h
    ·rename_i v hv;simp only[lH,hv] at hd ⊢;split at hd
     ·rename_i d' qA;injection hd with hd;subst hd
      rw[iY p q h qA he];simp[Nat.add_assoc]
     ·cases hd
    ·cases h
   ·rename_i n el _ _ _ lH;simp only[lH] at hd ⊢;split at hd
    ·rename_i de;rw[if_pos de];split at hd
     ·rename_i d' qA;injection hd with hd;subst hd
      rw[iY p q h qA he];simp[Nat.add_assoc]
     ·cases hd
    ·cases hd
   ·cases h
end Go.Abs
end
section
namespace Go.Abs
open Go Go.RowKit
def oR:AV→Value
 | .int k n=> .int k n
 | .bool b=> .bool b
 | _=>undef
def kv:AV→Value
 | .st _ fs=> .agg (fs.map oR).toArray
 | x=>oR x
def mpE (ks:List AV) (fs:List FuncId):List (Value × Value):=(ks.map kv).zip (fs.map fun f=> .func (.func f) #[] #[])
inductive LR (ty:bX) (w:World) (okb:Nat→Prop):AV→Value→Prop
 | int (k:IntKind) (n:Int):LR ty w okb (.int k n) (.int k n)
 | bool (b:Bool):LR ty w okb (.bool b) (.bool b)
 | str (s:ByteArray):LR ty w okb (.str s) (.string s)
 | iu:LR ty w okb .iu (.pointer none)
 | dY:LR ty w okb .dY .nilFunc
 | fn (f:FuncId) (cs:List AV) (us:Array Value):us.size=cs.length→(∀ (i:Nat) (x:AV),cs[i]? = some x→LR ty w okb x (us.getD i undef))→
    LR ty w okb (.fn f cs) (.func (.func f) #[] us)
 | sx (t:TypeId) (fl:Fl) (c:Nat):fl.nil ≠ some false→c=0→LR ty w okb (.sl t fl []) (.slice none 0 c)
 | sl (t:TypeId) (fl:Fl) (es:List AV) (eQ off c:Nat) (vs:Nat→Value):es.length≤c→fl.nil ≠ some true→(fl.tight=true→c=es.length)→
    (es ≠ []→okb eQ∧eQ < w.heap.size)→(∀ x ∈ es,br ty t x)→
    (∀ (j:Nat) (y:AV),(ay es)[j]? = some y→w.cell? ⟨eQ,off+j,none⟩=some (vs j))→
    (∀ (j:Nat) (y:AV),(ay es)[j]? = some y→LR ty w okb y (vs j))→
    LR ty w okb (.sl t fl es) (.slice (some ⟨eQ,off,none⟩) es.length c)
 | ro (fr:Bool) (t:TypeId) (x:AV) (eQ off:Nat) (vs:Nat→Value):okb eQ→eQ < w.heap.size→br ty t x→
    (∀ (j:Nat) (y:AV),(leaves x)[j]? = some y→w.cell? ⟨eQ,off+j,none⟩=some (vs j))→
    (∀ (j:Nat) (y:AV),(leaves x)[j]? = some y→LR ty w okb y (vs j))→
    LR ty w okb (.ro fr t x) (.pointer (some ⟨eQ,off,none⟩))
 | Li (t:TypeId):LR ty w okb (.mp t [] []) (.map none)
 | mp (t:TypeId) (ks:List AV) (fs:List FuncId) (eQ:Nat) (es:Array MapEntry) (cl:Nat):okb eQ→eQ < w.heap.size→ks ≠ []→ks.length=fs.length→w.heap[eQ]? = some (.map es cl)→
    (es.toList.map fun e=>(e.key,e.val)).Perm (mpE ks fs)→(ks.map kv).Pairwise (·≠ ·)→LR ty w okb (.mp t ks fs) (.map (some eQ))
theorem LR.mono {ty:bX} {w w':World} {okb okb':Nat→Prop} {x:AV} {v:Value} (h:LR ty w okb x v)
 (hk:∀ b,okb b→b < w.heap.size→okb' b∧b < w'.heap.size∧w'.heap[b]? = w.heap[b]?):LR ty w' okb' x v:=by
 induction h with
 | int k n=>exact .int k n
 | bool b=>exact .bool b
 | str s=>exact .str s
 | iu=>exact .iu
 | dY=>exact .dY
 | fn f cs us h1 _ ih=>exact .fn f cs us h1 ih
 | sx t fl c h1 h2=>exact .sx t fl c h1 h2
 | sl t fl es eQ off c vs h1 h2 h3 h4 h5 h6 h7 ih=>
   refine .sl t fl es eQ off c vs h1 h2 h3 (fun d_=>?_) h5 (fun j y hy=>?_) ih
   ·obtain⟨a,b⟩:=h4 d_;exact⟨(hk _ a b).1,(hk _ a b).2.1⟩
   ·have d_:es ≠ []:=by rintro rfl;simp[ay] at hy
    obtain⟨a,b⟩:=h4 d_;rw[← h6 j y hy];exact World.cell?_of_block (hk _ a b).2.2
 | ro fr t x eQ off vs h1 h2 h3 h4 h5 ih=>
   obtain⟨a,b,c⟩:=hk _ h1 h2;exact .ro fr t x eQ off vs a b h3 (fun j y hy=>by rw[← h4 j y hy];exact World.cell?_of_block c) ih
 | Li t=>exact .Li t
 | mp t ks fs eQ es cl h1 h2 h3 CQ h4 h5 h6=>
   obtain⟨a,b,c⟩:=hk _ h1 h2;exact .mp t ks fs eQ es cl a b h3 CQ (c.trans h4) h5 h6
theorem LR.cell {ty:bX} {w:World} {okb:Nat→Prop} {x:AV} {v:Value} (h:LR ty w okb x v):(∀ cs,v ≠ .agg cs)∧(∀ cs,v ≠ .tuple cs):=by
 cases h <;> simp
theorem LR.leaf {ty:bX} {w:World} {okb:Nat→Prop} {x:AV} {v:Value} (h:LR ty w okb x v):bq x=true:=by
 cases h <;> rfl
structure Cx where
 ty:bX
 base:Nat
 w:World
 β:Nat→Option Nat
 mu:Nat→Prop
 new:Nat→Prop
def Cx.okb (c:Cx) (fr:Bool) (b:Nat):Prop:=¬ c.mu b∧(fr=true→c.base≤b)
inductive OR (c:Cx):AV→Value→Prop
 | undef (v:Value):OR c .undef v
 | cl {x:AV} {v:Value}:LR c.ty c.w (c.okb (jw x)) x v→OR c x v
 | l8 (o:Nat) (t:TypeId):c.β o=none→OR c (.own o t 0 0) (.slice none 0 0)
 | own (o:Nat) (t:TypeId) (off n k cp:Nat) (arr:Array Value) (e:TypeId):c.β o=some k→c.w.heap[k]? = some (.cells arr e (0,0))→
    (off+cp) * aH c.ty t=arr.size→n≤cp→OR c (.own o t off n) (.slice (some ⟨k,off * aH c.ty t,none⟩) n cp)
 | ptr (o:Nat) (r:RT) (p:List Nat) (k d:Nat):c.β o=some k→ky c.ty r p=some d→OR c (.ptr o r p) (.pointer (some ⟨k,d,none⟩))
 | fn (f:FuncId) (cs:List AV) (vs:Array Value):vs.size=cs.length→(∀ (i:Nat) (x:AV),cs[i]? = some x→OR c x (vs.getD i undef))→
    OR c (.fn f cs) (.func (.func f) #[] vs)
def F2 (R:AV→Value→Prop) (xs:List AV) (vs:List Value):Prop:=
 xs.length=vs.length∧∀ (i:Nat) (x:AV) (v:Value),xs[i]? = some x→vs[i]? = some v→R x v
def mM (c:Cx):AV→Value→Prop
 | .st t fs,v=>∃ vs,v = .agg vs∧br c.ty t (.st t fs)∧F2 (OR c) (leaves (.st t fs)) vs.toList
 | .ar t es,v=>∃ vs,v = .agg vs∧br c.ty t (.ar t es)∧F2 (OR c) (leaves (.ar t es)) vs.toList
 | .cE _,_=>False
 | x,v=>OR c x v
def VR (c:Cx):AV→Value→Prop
 | .cE xs,v=>∃ vs,v = .tuple vs∧F2 (mM c) xs vs.toList
 | x,v=>mM c x v
theorem jU {c:Cx} {x:AV} {v:Value} (h:bq x=true):mM c x v↔OR c x v:=by cases x <;> simp_all [mM,bq]
theorem ga {c:Cx} {x:AV} {v:Value} (h:mM c x v):VR c x v:=by cases x <;> first | exact h | exact h.elim
structure gp (c c':Cx):Prop where
 ty:c'.ty=c.ty
 base:c'.base=c.base
 size:c.w.heap.size≤c'.w.heap.size
 cA:∀ b:Nat,¬ c.mu b→b < c.w.heap.size→¬ c'.mu b∧c'.w.heap[b]? = c.w.heap[b]?
 rows:∀ (b:Nat) (arr:Array Value) (e:TypeId),c.w.heap[b]? = some (.cells arr e (0,0))→∃ arr',c'.w.heap[b]? = some (.cells arr' e (0,0))∧arr'.size=arr.size
structure mS (c c':Cx):Prop extends gp c c' where
 new:c'.new=c.new
theorem gp.lr {c c':Cx} (m:gp c c') {fr:Bool} {x:AV} {v:Value} (h:LR c.ty c.w (c.okb fr) x v):LR c'.ty c'.w (c'.okb fr) x v:=by
 rw[m.ty];refine h.mono fun b hb aR=>?_
 obtain⟨h1,h2⟩:=m.cA b hb.1 aR;exact⟨⟨h1,fun hf=>by rw[m.base];exact hb.2 hf⟩,Nat.lt_of_lt_of_le aR m.size,h2⟩
theorem iH (o:Nat):∀ (cs:List AV),bA.du o cs=false→∀ (i:Nat) (x:AV),cs[i]? = some x→bA o x=false
 | [],_,i,x,h=>by simp at h
 | y::r,h,0,x,hx=>by simp[bA.du] at h;simp at hx;subst hx;exact h.1
 | y::r,h,i+1,x,hx=>by simp[bA.du] at h;exact iH o r h.2 i x (by simpa using hx)
theorem gp.or {c c':Cx} (m:gp c c') {x:AV} {v:Value} (h:OR c x v) (hβ:∀ o,bA o x=true→c'.β o=c.β o):OR c' x v:=by
 induction h with
 | undef v=>exact .undef v
 | cl h=>exact .cl (m.lr h)
 | l8 o t h=>exact .l8 o t (by rw[hβ o (by simp[bA])];exact h)
 | own o t off n k cp arr e h1 h2 h3 h4=>
   obtain⟨arr',h5,h6⟩:=m.rows k arr e h2;have:=OR.own (c:=c') o t off n k cp arr' e (by rw[hβ o (by simp[bA])];exact h1) h5 (by rw[m.ty,h6];exact h3) h4
   rwa [m.ty] at this
 | ptr o r p k d h1 h2=>exact .ptr o r p k d (by rw[hβ o (by simp[bA])];exact h1) (by rw[m.ty];exact h2)
 | fn f cs vs h1 _ ih=>
   refine .fn f cs vs h1 fun i x hx=>ih i x hx fun o ho=>hβ o ?_
   simp only[bA];cases hm:bA.du o cs with
   | true=>rfl
   | false=>rw[iH o cs hm i x hx] at ho;cases ho
theorem tq (o:Nat):∀ (n:Nat) (x:AV) ,SizeOf.sizeOf x < n→flat x=true→∀ y ∈ leaves x,bA o y=false
 | 0,_,h,_,_,_=>by omega
 | n+1,x,h,hf,y,hy=>by
   cases x with
   | st t fs=>
     simp only[leaves] at hy;have cw:=(kT fs).1 (by simpa[flat] using hf);have key:∀ (l:List AV),(∀ z ∈ l,flat z=true∧SizeOf.sizeOf z < n)→∀ y ∈ ay l,bA o y=false:=by
      intro l
      induction l with
      | nil=>intro _ y hy;simp[ay] at hy
      | cons a r ih=>
        intro hl y hy;simp only[ay,List.mem_append] at hy;rcases hy with hy | hy
        ·exact tq o n a (hl a (by simp)).2 (hl a (by simp)).1 y hy
        ·exact ih (fun z hz=>hl z (by simp[hz])) y hy
     refine key fs (fun z hz=>⟨cw z hz,?_⟩) y hy;have:=List.sizeOf_lt_of_mem hz;simp at h;omega
   | ar t es=>simp[flat] at hf
   | int k a=>simp[leaves] at hy;subst hy;simp[bA]
   | bool b=>simp[leaves] at hy;subst hy;simp[bA]
   | str s=>simp[leaves] at hy;subst hy;simp[bA]
   | _=>simp[flat] at hf
theorem qB (o:Nat) (l:List AV) (h:∀ x ∈ l,∀ y ∈ leaves x,bA o y=false):∀ y ∈ ay l,bA o y=false:=by
 induction l with
 | nil=>intro y hy;simp[ay] at hy
 | cons a r ih=>
   intro y hy;simp only[ay,List.mem_append] at hy;rcases hy with hy | hy
   ·exact h a (by simp) y hy
   ·exact ih (fun x hx=>h x (by simp[hx])) y hy
theorem mr {ty:bX} {t:TypeId} {x:AV} (hc:br ty t x) (o:Nat) (h:bA o x=false):∀ y ∈ leaves x,bA o y=false:=by
 induction hc with
 | leaf _ _ _ h4=>intro y hy;rw[bY h4] at hy;simp at hy;subst hy;exact h
 | @st t ts s b z fs h1 h2 h3 h4 ih=>
   simp only[leaves];refine qB o fs fun x hx=>?_
   obtain⟨i,hi,e⟩:=List.getElem_of_mem hx;have tp:fs[i]? = some x:=by rw[List.getElem?_eq_getElem hi,e]
   obtain⟨u,hu⟩:∃ u,ts[i]? = some u:=⟨ts[i]'(by omega),by rw[List.getElem?_eq_getElem]⟩
   exact ih i x u tp hu (iH o fs (by simpa[bA] using h) i x tp)
 | ar h1 h2 h3 h4 h5 _=>
   simp only[leaves];exact qB o _ fun x hx=>tq o _ x (Nat.lt_succ_self _) (h5 x hx)
theorem gp.P9 {c c':Cx} (m:gp c c') {x:AV} {v:Value} (h:mM c x v) (hβ:∀ o,bA o x=true→c'.β o=c.β o):mM c' x v:=by
 have hβ':∀ o,c'.β o=c.β o∨bA o x=false:=fun o=>by
  cases hm:bA o x with
  | true=>exact .inl (hβ o hm)
  | false=>exact .inr rfl
 have key:∀ t,br c.ty t x→∀ vs:Array Value,F2 (OR c) (leaves x) vs.toList→F2 (OR c') (leaves x) vs.toList:=fun t hc vs hF=>by
  refine⟨hF.1,fun i y u hy hu=>m.or (hF.2 i y u hy hu) fun o ho=>?_⟩;rcases hβ' o with h | h
  ·exact h
  ·rw[mr hc o h y (List.mem_of_getElem? hy)] at ho;cases ho
 cases x with
 | st t fs=>obtain⟨vs,e,hc,hF⟩:=h;exact⟨vs,e,by rw[m.ty];exact hc,key t hc vs hF⟩
 | ar t es=>obtain⟨vs,e,hc,hF⟩:=h;exact⟨vs,e,by rw[m.ty];exact hc,key t hc vs hF⟩
 | cE _=>exact h.elim
 | _=>exact m.or h hβ
theorem gp.vr {c c':Cx} (m:gp c c') {x:AV} {v:Value} (h:VR c x v) (hβ:∀ o,bA o x=true→c'.β o=c.β o):VR c' x v:=by
 cases x with
 | cE xs=>
   obtain⟨vs,e,hF⟩:=h;refine⟨vs,e,hF.1,fun i y u hy hu=>m.P9 (hF.2 i y u hy hu) fun o ho=>hβ o ?_⟩;simp only[bA];cases hm:bA.du o xs with
   | true=>rfl
   | false=>rw[iH o xs hm i y hy] at ho;cases ho
 | _=>exact ga (m.P9 (show mM c _ v from h) hβ)
def fw (c:Cx) (b:Obj) (x:AV) (v:Value):Prop:=
 match b.r with
 | .box _=>OR c x v
 | .row _=>LR c.ty c.w (c.okb b.fr) x v
 | .oQ _=>OR c x v
abbrev pk (ty:bX) (b:Obj):Prop:=match b.r with
 | .box t=>∃ x,b.es=[x]∧br ty t x
 | .row t=>(∀ x ∈ b.es,br ty t x)∧0 < aH ty t
 | .oQ t=>(∀ x ∈ b.es,br ty t x)∧0 < aH ty t
structure zo (c:Cx) (o:Nat) (b:Obj):Prop where
 fy:pk c.ty b
 eQ:match c.β o with
  | none=>(∃ t,b.r = .row t)∧b.es=[]
  | some k=>c.new k∧∃ arr e,c.w.heap[k]? = some (.cells arr e (0,0))∧
     ∀ (j:Nat) (x:AV),(ay b.es)[j]? = some x→∃ v,arr[j]? = some v∧fw c b x v
theorem gp.fw {c c':Cx} (m:gp c c') {b:Obj} {x:AV} {v:Value} (h:fw c b x v) (hβ:∀ o,(∃ t,b.r = .box t∨b.r = .oQ t)→Abs.bA o x=true→c'.β o=c.β o):fw c' b x v:=by
 unfold Abs.fw at *;split at h
 ·rename_i t hr;exact m.or h fun o ho=>hβ o ⟨t,.inl hr⟩ ho
 ·exact m.lr h
 ·rename_i t hr;exact m.or h fun o ho=>hβ o ⟨t,.inr hr⟩ ho
theorem Bb {l:List AV} {y:AV} (h:y ∈ ay l):∃ x ∈ l,y ∈ leaves x:=by
 induction l with
 | nil=>simp[ay] at h
 | cons a r ih=>
   simp only[ay,List.mem_append] at h;rcases h with h | h
   ·exact⟨a,List.mem_cons_self ..,h⟩
   ·obtain⟨x,h1,h2⟩:=ih h;exact⟨x,List.mem_cons_of_mem _ h1,h2⟩
theorem vV {ty:bX} {t:TypeId} {es:List AV} (hc:∀ x ∈ es,br ty t x) (o:Nat) (hm:bA.du o es=false) {x:AV} (hx:x ∈ ay es):Abs.bA o x=false:=by
 obtain⟨y,h1,h2⟩:=Bb hx;obtain⟨i,hi,e⟩:=List.getElem_of_mem h1;exact mr (hc y h1) o (iH o es hm i y (by rw[List.getElem?_eq_getElem hi,e])) x h2
theorem mS.KT {c c':Cx} (m:mS c c') {o:Nat} {b:Obj} (h:zo c o b) (hβ:∀ o',b.bA o'=true→c'.β o'=c.β o') (ho:c'.β o=c.β o)
 (hk:∀ k,c.β o=some k→c'.w.heap[k]? = c.w.heap[k]?):zo c' o b:=by
 obtain⟨h1,h2⟩:=h;refine⟨by rw[m.ty];exact h1,?_⟩;rw[ho];split
 ·rename_i hn;rw[hn] at h2;exact h2
 ·rename_i k hs;rw[hs] at h2;obtain⟨a,arr,e,h3,h4⟩:=h2;refine⟨by rw[m.new];exact a,arr,e,by rw[hk k hs];exact h3,fun j x hx=>?_⟩;obtain⟨v,h5,h6⟩:=h4 j x hx;refine⟨v,h5,m.fw h6 fun o' ⟨t,hr⟩ hm=>hβ o' ?_⟩;unfold pk at h1;rcases hr with hr | hr
  rotate_left
  ·rw[hr] at h1;simp only[Obj.bA,hr];cases hq:Abs.bA.du o' b.es with
   | true=>rfl
   | false=>rw[vV h1.1 o' hq (List.mem_of_getElem? hx)] at hm;cases hm
  rw[hr] at h1;obtain⟨y,e1,e2⟩:=h1;simp only[Obj.bA,hr,e1,Abs.bA.du,Bool.or_false];cases hq:Abs.bA o' y with
  | true=>rfl
  | false=>
    rw[e1] at hx;simp only[ay,List.append_nil] at hx;rw[mr e2 o' hq x (List.mem_of_getElem? hx)] at hm;cases hm
def ie (lo:Option Nat) (n:Nat):Nat:=match lo with | none=>n | some B=>min B n
theorem jV (lo:Option Nat) (n:Nat):ie lo n≤n:=by cases lo <;> simp[ie];omega
structure gZ (L:Nat→Prop) (B:Nat) (w w':World):Prop where
 os:w'.os=w.os
 tape:w'.tape=w.tape
 output:w'.output=w.output
 size:w.heap.size≤w'.heap.size
 block:∀ k,k < B→¬ L k→w'.heap[k]? = w.heap[k]?
 rows:∀ (b:Nat) (arr:Array Value) (e:TypeId),w.heap[b]? = some (.cells arr e (0,0))→∃ arr',w'.heap[b]? = some (.cells arr' e (0,0))∧arr'.size=arr.size
theorem gZ.of {L:Nat→Prop} {B:Nat} {w w':World} (h:Below w.heap.size w w') (hB:B≤w.heap.size):gZ L B w w':=
 ⟨h.os,h.tape,h.output,h.size,fun k hk _=>h.block k (by omega),fun b arr e hb=>⟨arr,by rw[h.block b (Array.getElem?_eq_some_iff.1 hb).1];exact hb,rfl⟩⟩
theorem gZ.refl (L:Nat→Prop) (B:Nat) (w:World):gZ L B w w:=⟨rfl,rfl,rfl,Nat.le_refl _,fun _ _ _=>rfl,fun _ arr _ hb=>⟨arr,hb,rfl⟩⟩
theorem gZ.trans {L:Nat→Prop} {B:Nat} {a b c:World} (h:gZ L B a b) (k:gZ L B b c):gZ L B a c:=
 ⟨k.os.trans h.os,k.tape.trans h.tape,k.output.trans h.output,Nat.le_trans h.size k.size,fun i hi hl=>(k.block i hi hl).trans (h.block i hi hl),fun b arr e hb=>by
   obtain⟨U3,h1,h2⟩:=h.rows b arr e hb;obtain⟨fz,h3,h4⟩:=k.rows b U3 e h1;exact⟨fz,h3,h4.trans h2⟩⟩
theorem gZ.plain {L:Nat→Prop} {B:Nat} {w w':World} (h:gZ L B w w') (hL:∀ k,¬ L k):Below B w w':=⟨h.os,h.tape,h.output,h.size,fun k hk=>h.block k hk (hL k)⟩
def Fh (E:Env) (k:Nat):Prop:=E.lent k∧¬ E.okA k
def aK (E:Env) (w0:World) (σ:St) (w:World) (β:Nat→Option Nat):Cx:=
 ⟨E.ty,ie E.lo w0.heap.size,w,β,fun k=>(k < w0.heap.size∧¬ E.okA k)∨∃ o b,aA o σ.ob=some b∧β o=some k,fun k=>w0.heap.size≤k∨(E.lent k∧¬ E.okA k)⟩
def Marks (B:Nat) (ds:List Deferred) (w:World):Prop:=
 (∀ d ∈ ds,∃ D,d = { target:= .collected D,args:=#[] }∧B≤D∧w.heap[D]? = some (Go.Obj.deferred (some [])))∧ds.Pairwise (fun x y=>x ≠ y)
theorem Marks.nil (B:Nat) (w:World):Marks B [] w:=⟨fun d hd=>by simp at hd,List.Pairwise.nil⟩
theorem Marks.to {B:Nat} {ds:List Deferred} {w w':World} (h:Marks B ds w) (hw:∀ k:Nat,w.heap[k]? = some (Go.Obj.deferred (some []))→w'.heap[k]? = some (Go.Obj.deferred (some []))):Marks B ds w':=
 ⟨fun d hd=>by obtain⟨D,h1,h2,h3⟩:=h.1 d hd;exact⟨D,h1,h2,hw D h3⟩,h.2⟩
theorem Marks.below {B:Nat} {ds:List Deferred} {w w':World} (h:Marks B ds w) (hb:Below w.heap.size w w'):Marks B ds w':=
 h.to fun k hk=>by rw[hb.block k (Array.getElem?_eq_some_iff.1 hk).1];exact hk
structure bG (E:Env) (w0:World) (σ:St) (a:Act) (w:World) (β:Nat→Option Nat):Prop where
 below:gZ (Fh E) w0.heap.size w0 w
 size:a.tmps.size=E.n
 defers:Marks w0.heap.size a.defers w
 tms:∀ t x,aA t σ.tm=some x→t < E.n∧VR (aK E w0 σ w β) x (a.tmps.getD t undef)
 gD:∀ o b,aA o σ.ob=some b→zo (aK E w0 σ w β) o b
 inj:∀ o o' b b' k,aA o σ.ob=some b→aA o' σ.ob=some b'→β o=some k→β o'=some k→o=o'
end Go.Abs
end
section
namespace Go.Abs
open Go Go.RowKit
def dB (w:World) (b:Nat) (o:Go.Obj):World:={ w with heap:=w.heap.setIfInBounds b o }
@[simp] theorem Tt (w:World) (b:Nat) (o:Go.Obj):(dB w b o).heap.size=w.heap.size:=by simp[dB]
theorem jW (w:World) (b:Nat) (o:Go.Obj) (h:b < w.heap.size):(dB w b o).heap[b]? = some o:=by simp[dB,h]
theorem iZ (w:World) (b c:Nat) (o:Go.Obj) (h:c ≠ b):(dB w b o).heap[c]? = w.heap[c]?:=by
 simp only[dB,Array.getElem?_setIfInBounds];rw[if_neg (by omega)]
theorem yP (w:World) (b:Nat) (o o':Go.Obj):dB (dB w b o) b o'=dB w b o':=by
 simp[dB]
theorem nQ (w:World) (b:Nat) (o:Go.Obj) (h:w.heap[b]? = some o):dB w b o=w:=by
 have:w.heap.setIfInBounds b o=w.heap:=by
  apply Array.ext_getElem?;intro i;rw[Array.getElem?_setIfInBounds];split
  ·rename_i hi;subst hi;rw[h];split
   ·rfl
   ·rename_i hn;rw[Array.getElem?_eq_none (by omega)] at h;cases h
  ·rfl
 cases w;simp_all [dB]
theorem CT (w:World) (b o:Nat) (v:Value) (arr:Array Value) (e:TypeId) (h:w.heap[b]? = some (.cells arr e (0,0))) :
 w.setCell ⟨b,o,none⟩ v=dB w b (.cells (arr.setIfInBounds o v) e (0,0)):=by
 have:(w.setCell ⟨b,o,none⟩ v).heap=w.heap.setIfInBounds b (.cells (arr.setIfInBounds o v) e (0,0)):=by
  apply Array.ext_getElem?;intro i;simp only[World.setCell,Array.getElem?_modify,Array.getElem?_setIfInBounds];by_cases hi:b=i
  ·subst hi;simp[h];exact (Array.getElem?_eq_some_iff.1 h).1
  ·simp[hi]
 unfold dB;rw[← this];rfl
theorem lg (w:World) (b o:Nat) (arr:Array Value) (e:TypeId) (fr:Nat × Nat) (h:w.heap[b]? = some (.cells arr e fr)):w.cell? ⟨b,o,none⟩=arr[o]?:=by
 simp[World.cell?,h]
theorem Fi (w:World) (b o:Nat) (arr:Array Value) (e:TypeId) (h:w.heap[b]? = some (.cells arr e (0,0))):w.frozen? ⟨b,o,none⟩=false:=by
 simp[World.frozen?,h]
theorem vW (b o n:Nat):(⟨b,o,none⟩:Addr).add n=⟨b,o+n,none⟩:=by
 unfold Addr.add;split <;> simp_all
def qC (arr:Array Value) (o:Nat):List Value→Array Value
 | []=>arr
 | v::r=>qC (arr.setIfInBounds o v) (o+1) r
@[simp] theorem Lj:∀ (vs:List Value) (arr:Array Value) (o:Nat),(qC arr o vs).size=arr.size
  | [],arr,o=>rfl
  | v::r,arr,o=>by simp[qC,Lj r]
theorem mT:∀ (vs:List Value) (arr:Array Value) (o j:Nat),o+vs.length≤arr.size→
 (qC arr o vs)[j]? = if o≤j∧j < o+vs.length then vs[j - o]? else arr[j]?
 | [],arr,o,j,_=>by simp[qC];omega
 | v::r,arr,o,j,h=>by
   simp only[List.length_cons] at h ⊢;rw[qC,mT r _ _ _ (by simp;omega)];by_cases h1:o+1≤j∧j < o+1+r.length
   ·rw[if_pos h1,if_pos (by omega)];have:j - o=(j - (o+1))+1:=by omega
    rw[this];simp
   ·rw[if_neg h1,Array.getElem?_setIfInBounds];by_cases h2:o=j
    ·subst h2;rw[if_pos rfl,if_pos (by omega),if_pos (by omega)];simp
    ·rw[if_neg h2,if_neg (by omega)]
def i_ (v:Value):Prop:=(∀ cs,v ≠ .agg cs)∧(∀ cs,v ≠ .tuple cs)
theorem yQ (P:Program) (w:World) (b o:Nat) (v:Value) (arr:Array Value) (e:TypeId) (h:w.heap[b]? = some (.cells arr e (0,0))) (ho:o < arr.size) (hv:i_ v) :
 (store ⟨b,o,none⟩ v).run P w = .ok () (dB w b (.cells (arr.setIfInBounds o v) e (0,0))):=by
 have hc:w.cell? ⟨b,o,none⟩=some arr[o]:=by rw[lg w b o arr e _ h];simp[ho]
 have hf:=Fi w b o arr e h;have hs:=CT w b o v arr e h;cases v <;> simp only[store,Sem.run,hc,hf,hs,Bool.false_eq_true,if_false] <;> first | rfl | (exact absurd rfl (hv.1 _)) | (exact absurd rfl (hv.2 _))
theorem eh (P:Program) (b off:Nat) (e:TypeId):∀ (vs:List Value) (i:Nat) (w:World) (arr:Array Value),w.heap[b]? = some (.cells arr e (0,0))→
 off+i+vs.length≤arr.size→(∀ v ∈ vs,i_ v)→(storeCells ⟨b,off,none⟩ vs i).run P w = .ok () (dB w b (.cells (qC arr (off+i) vs) e (0,0)))
 | [],i,w,arr,h,_,_=>by simp[storeCells,qC,nQ w b _ h]
 | v::r,i,w,arr,h,hl,hv=>by
   simp only[List.length_cons] at hl;have hb:b < w.heap.size:=(Array.getElem?_eq_some_iff.1 h).1;simp only[storeCells,Sem.run_bind,vW];rw[yQ P w b (off+i) v arr e h (by omega) (hv v (by simp))];simp only[Result.andThen_ok];rw[eh P b off e r (i+1) _ _ (jW w b _ hb) (by simp;omega) (fun u hu=>hv u (by simp[hu]))];rw[yP];rfl
theorem jX (P:Program) (w:World) (b off:Nat):∀ (us:List Value) (i:Nat) (acc:Array Value),
 (∀ (j:Nat) (v:Value),us[j]? = some v→w.cell? ⟨b,off+(i+j),none⟩=some v)→(loadCellsFrom ⟨b,off,none⟩ i us.length acc).run P w = .ok (acc++us.toArray) w
 | [],i,acc,_=>by simp[loadCellsFrom]
 | v::r,i,acc,h=>by
   have h0:=h 0 v rfl;simp only[List.length_cons,loadCellsFrom,Sem.run_bind,vW,run_load];rw[show off+i=off+(i+0) from rfl,h0];simp only[Result.andThen_ok];rw[jX P w b off r (i+1) _ (fun j u hu=>by have:=h (j+1) u (by simpa using hu);rw[← this];congr 2;omega)];simp
def kindOk (P:Program) (ty:bX) (t:TypeId) (d:kD):Prop:=
 match d.k with
 | .int k=>P.underlying t=some (.int k)
 | .bool=>P.underlying t=some .bool
 | .str=>P.underlying t=some .string
 | .slice e=>P.underlying t=some (.slice e)∧0 < aH ty e
 | .struct ts=>∃ fs,P.underlying t=some (.struct fs)∧fs.size=ts.length∧∀ (i:Nat) (f:Field),fs[i]? = some f→ts[i]? = some f.type∧f.offset=((ts.take i).map (aH ty)).sum
 | .array n e=>P.underlying t=some (.array n e)
 | .ptr e=>P.underlying t=some (.pointer e)
 | .func=>∃ ps rs v,P.underlying t=some (.func ps rs v)
 | .map k e=>P.underlying t=some (.map k e)
def G_ (P:Program) (t:TypeId):Bool:= !P.stoodInHeld t&& !P.eqGuardType P.depth t&&(P.fieldsOf t).toList.all (fun f=>f.name != "_")
structure bP (P:Program) (ty:bX) (t:TypeId) (d:kD):Prop where
 kind:kindOk P ty t d
 info:∃ i z,P.info? t=some i∧i.size=d.size∧i.bytes=d.bytes∧i.zero=some z∧
  F2 (fun x v=>∀ (w:World) (okb:Nat→Prop),LR ty w okb x v) (leaves d.zero) z.cells.toList∧(fv d.k=false→∃ cs,z = .agg cs)
 fy:br ty t d.zero
 ab1:fv d.k=true→∀ i z,P.info? t=some i→i.zero=some z→∀ cs,z ≠ .agg cs
 Ha:closed d.zero=true∧fresh d.zero=true∧(∀ o,bA o d.zero=false)
def jA (P:Program) (ty:bX):Prop:=∀ t d,ty t=some d→bP P ty t d
theorem bP.size {ty:bX} {t:TypeId} {d:kD} (ht:ty t=some d):aH ty t=d.size:=by simp[aH,ht]
section
variable {P:Program} {ty:bX}
theorem gE (hT:jA P ty) {t:TypeId} {d:kD} (h:ty t=some d) (w:World):(isAgg t).run P w = .ok (!fv d.k) w:=by
 have hk:=(hT t d h).kind;unfold isAgg;simp only[Sem.run_bind];unfold kindOk at hk;split at hk <;> rename_i hd <;> simp only[hd,fv]
 case h_1=>rw[run_underlying hk];rfl
 case h_2=>rw[run_underlying hk];rfl
 case h_3=>rw[run_underlying hk];rfl
 case h_4=>rw[run_underlying hk.1];rfl
 case h_5=>obtain⟨fs,h1,_⟩:=hk;rw[run_underlying h1];rfl
 case h_6=>rw[run_underlying hk];rfl
 case h_7=>rw[run_underlying hk];rfl
 case h_8=>obtain⟨a,b,c,h1⟩:=hk;rw[run_underlying h1];rfl
 case h_9=>rw[run_underlying hk];rfl
theorem cj (hT:jA P ty) {t:TypeId} {d:kD} (h:ty t=some d) (w:World):(Go.sizeOf t).run P w = .ok (aH ty t) w:=by
 obtain⟨i,z,h1,h2,_⟩:=(hT t d h).info;have:aH ty t=i.size:=by simp[aH,h,h2]
 simp[Go.sizeOf,typeInfo,h1,this]
theorem jY (hT:jA P ty) {t:TypeId} {d:kD} (h:ty t=some d) (w:World) :
 ∃ z,(zeroValue t).run P w = .ok z w∧F2 (fun x v=>∀ (w:World) (okb:Nat→Prop),LR ty w okb x v) (leaves d.zero) z.cells.toList∧(fv d.k=false→∃ cs,z = .agg cs):=by
 obtain⟨i,z,h1,_,_,h4,h5,h6⟩:=(hT t d h).info;exact⟨z,by simp[zeroValue,typeInfo,h1,h4],h5,h6⟩
end
end Go.Abs
end
section
namespace Go.Abs
open Go Go.RowKit
theorem cZ {α:Type} (t u:Nat):∀ (l:List (Nat × α)),aA t (cK u l)=if u=t then none else aA t l
 | []=>by simp[cK,aA]
 | (x,v)::r=>by
   by_cases h:x=u
   ·simp only[cK,h,if_true,cZ t u r,aA];by_cases h2:u=t <;> simp[h2]
   ·simp only[cK,h,if_false,aA,cZ t u r];by_cases h2:x=t
    ·have:u ≠ t:=by omega
     simp[h2,this]
    ·simp[h2]
theorem bn {α:Type} (t u:Nat) (v:α) (l:List (Nat × α)):aA t (bE u v l)=if u=t then some v else aA t l:=by
 simp only[bE,aA,cZ];split <;> rfl
theorem aq {α β:Type} {x:Option α} {f:α→Option β} {b:β} (h:av x f=some b):∃ a,x=some a∧f a=some b:=by
 cases x with
 | none=>simp[av] at h
 | some a=>exact⟨a,rfl,h⟩
theorem mS.CU {E:Env} {w0 w w':World} {σ:St} {β:Nat→Option Nat} (h:Below w.heap.size w w'):mS (aK E w0 σ w β) (aK E w0 σ w' β) where
 ty:=rfl
 base:=rfl
 new:=rfl
 size:=h.size
 cA:=fun b hb hl=>⟨hb,h.block b hl⟩
 rows:=fun b arr e hb=>⟨arr,by show w'.heap[b]? = _;rw[h.block b (Array.getElem?_eq_some_iff.1 hb).1];exact hb,rfl⟩
theorem bG.grow {E:Env} {w0 w w':World} {σ:St} {a:Act} {β:Nat→Option Nat} (h:bG E w0 σ a w β) (hb:Below w.heap.size w w'):bG E w0 σ a w' β where
 below:=h.below.trans (.of hb h.below.size)
 size:=h.size
 defers:=h.defers.below hb
 tms:=fun t x hx=>⟨(h.tms t x hx).1,(mS.CU hb).vr (h.tms t x hx).2 fun _ _=>rfl⟩
 gD:=fun o b ho=>(mS.CU hb).KT (h.gD o b ho) (fun _ _=>rfl) rfl fun k hk=>by
  have:=(h.gD o b ho).eQ;have hk':β o=some k:=hk;simp only[aK,hk'] at this;obtain⟨_,arr,e,h1,_⟩:=this;exact hb.block k (Array.getElem?_eq_some_iff.1 h1).1
 inj:=h.inj
theorem bG.put {E:Env} {w0 w:World} {σ:St} {a:Act} {β:Nat→Option Nat} (h:bG E w0 σ a w β) {t:Nat} {x:AV} {v:Value} (ht:t < E.n)
 (hx:VR (aK E w0 σ w β) x v):bG E w0 ⟨bE t x σ.tm,σ.ob⟩ (a.put (some t) v) w β where
 below:=h.below
 size:=by simp[Act.put,h.size]
 defers:=h.defers
 tms:=fun u y hy=>by
  simp only[bn] at hy;split at hy
  ·rename_i e;subst e;injection hy with hy;subst hy
   refine⟨ht,?_⟩;have:(a.put (some t) v).tmps.getD t undef=v:=by simp[Act.put,h.size,ht]
   rw[this];exact hx
  ·rename_i e;obtain⟨h1,h2⟩:=h.tms u y hy;refine⟨h1,?_⟩;have:(a.put (some t) v).tmps.getD u undef=a.tmps.getD u undef:=by
    simp only[Act.put,Array.getD_eq_getD_getElem?,Array.getElem?_setIfInBounds];rw[if_neg e]
   rw[this];exact h2
 gD:=h.gD
 inj:=h.inj
theorem bG.less {E:Env} {w0 w:World} {σ σ':St} {a:Act} {β:Nat→Option Nat} (h:bG E w0 σ a w β) (ht:∀ t x,aA t σ'.tm=some x→aA t σ.tm=some x)
 (ho:∀ o b,aA o σ'.ob=some b→aA o σ.ob=some b):bG E w0 σ' a w β:=by
 have m:mS (aK E w0 σ w β) (aK E w0 σ' w β):={
  ty:=rfl,base:=rfl,new:=rfl,size:=Nat.le_refl _
  cA:=fun b hb _=>⟨fun lh=>lh.elim (fun q=>hb (.inl q)) fun⟨o,b',h1,h2⟩=>hb (.inr ⟨o,b',ho o b' h1,h2⟩),rfl⟩
  rows:=fun b arr e hb=>⟨arr,hb,rfl⟩ }
 exact {
  below:=h.below,size:=h.size,defers:=h.defers
  tms:=fun t x hx=>⟨(h.tms t x (ht t x hx)).1,m.vr (h.tms t x (ht t x hx)).2 fun _ _=>rfl⟩
  gD:=fun o b hb=>m.KT (h.gD o b (ho o b hb)) (fun _ _=>rfl) rfl fun _ _=>rfl
  inj:=fun o o' b b' k h1 h2=>h.inj o o' b b' k (ho o b h1) (ho o' b' h2) }
theorem iI {d:Nat}:∀ {l:List (Nat × AV)},St.free.qs d l=true→∀ t x,aA t l=some x→bA d x=false
 | [],_,t,x,h=>by simp[aA] at h
 | (u,y)::r,hf,t,x,h=>by
   simp only[St.free.qs,Bool.and_eq_true,Bool.not_eq_true'] at hf;simp only[aA] at h;split at h
   ·injection h with h;subst h;exact hf.1
   ·exact iI hf.2 t x h
theorem kU {d:Nat}:∀ {l:List (Nat × Obj)},St.free.kZ d l=true→∀ o b,aA o l=some b→o ≠ d→b.bA d=false
 | [],_,t,x,h=>by simp[aA] at h
 | (u,y)::r,hf,t,x,h=>fun d_=>by
   simp only[St.free.kZ,Bool.and_eq_true,Bool.or_eq_true] at hf;simp only[aA] at h;split at h
   ·rename_i e;injection h with h;subst h
    rcases hf.1 with h1 | h1
    ·simp at h1;omega
    ·unfold Obj.bA;cases hr:y.r <;> simp[hr] at h1 ⊢;all_goals exact h1
   ·exact kU hf.2 t x h d_
theorem bG.new {E:Env} {w0 w:World} {σ:St} {a:Act} {β:Nat→Option Nat} (h:bG E w0 σ a w β) {d:Nat} (hf:σ.free d=true) {b:Obj} {arr:Array Value} {e:TypeId}
 (ja:pk E.ty b)
 (hm:b.bA d=false)
 (ig:∀ (j:Nat) (x:AV),(ay b.es)[j]? = some x→∃ v,arr[j]? = some v∧fw (aK E w0 σ w β) b x v) :
 bG E w0 ⟨σ.tm,bE d b σ.ob⟩ a (w.alloc (.cells arr e)) (fun o=>if o=d then some w.heap.size else β o)∧
 mS (aK E w0 σ w β) (aK E w0 ⟨σ.tm,bE d b σ.ob⟩ (w.alloc (.cells arr e)) (fun o=>if o=d then some w.heap.size else β o)):=by
 simp only[St.free,Bool.and_eq_true] at hf;have dt:Below w.heap.size w (w.alloc (.cells arr e)):=(Below.refl _ _).alloc (Nat.le_refl _) _;have mw:(w.alloc (.cells arr e)).heap[w.heap.size]? = some (.cells arr e (0,0)):=by
  show (w.heap.push _)[w.heap.size]? = _;simp
 have m:mS (aK E w0 σ w β) (aK E w0 ⟨σ.tm,bE d b σ.ob⟩ (w.alloc (.cells arr e)) (fun o=>if o=d then some w.heap.size else β o)):={
  ty:=rfl,base:=rfl,new:=rfl,size:=dt.size
  cA:=fun k hk hl=>⟨fun lh=>lh.elim (fun q=>hk (.inl q)) fun⟨o,b',h1,h2⟩=>by
   simp only[bn] at h1;dsimp only at h2;by_cases ho:o=d
   ·rw[if_pos ho] at h2;injection h2 with h2
    have:k < w.heap.size:=hl;omega
   ·rw[if_neg ho] at h2;rw[if_neg (Ne.symm ho)] at h1;exact hk (.inr ⟨o,b',h1,h2⟩),dt.block k hl⟩
  rows:=fun k arr' e' hk=>⟨arr',by
   show (w.alloc (.cells arr e)).heap[k]? = _;rw[dt.block k (Array.getElem?_eq_some_iff.1 hk).1];exact hk,rfl⟩ }
 refine⟨?_,m⟩;exact {
  below:=h.below.trans (.of dt h.below.size),size:=h.size,defers:=h.defers.below dt
  tms:=fun t x hx=>⟨(h.tms t x hx).1,m.vr (h.tms t x hx).2 fun o ho=>by
   show (if o=d then _ else β o)=β o;rw[if_neg];rintro rfl;rw[iI hf.1 t x hx] at ho;cases ho⟩
  gD:=fun o b' ho=>by
   simp only[bn] at ho;split at ho
   ·rename_i e1;subst e1;injection ho with ho;subst ho
    refine⟨by exact ja,?_⟩;simp only[aK,if_true];refine⟨.inl h.below.size,arr,e,mw,fun j x hx=>?_⟩;obtain⟨v,h1,h2⟩:=ig j x hx;refine⟨v,h1,m.fw h2 fun o' ⟨t,hr⟩ U4=>?_⟩;show (if o'=d then _ else β o')=β o';rw[if_neg];rintro rfl;unfold pk at ja;rcases hr with hr | hr
    rotate_left
    ·rw[hr] at ja;have hy:Abs.bA.du o' b.es=false:=by simpa[Obj.bA,hr] using hm
     rw[vV ja.1 o' hy (List.mem_of_getElem? hx)] at U4;cases U4
    rw[hr] at ja;obtain⟨y,e1,e2⟩:=ja;have hy:Abs.bA o' y=false:=by
     simpa[Obj.bA,hr,e1,Abs.bA.du] using hm
    rw[e1] at hx;simp only[ay,List.append_nil] at hx;rw[mr e2 o' hy x (List.mem_of_getElem? hx)] at U4;cases U4
   ·rename_i d_;refine m.KT (h.gD o b' ho) (fun o' my=>?_) ?_ fun k hk=>?_
    ·show (if o'=d then _ else β o')=β o';rw[if_neg];rintro rfl;rw[kU hf.2 o b' ho (Ne.symm d_)] at my;cases my
    ·show (if o=d then _ else β o)=β o;rw[if_neg (Ne.symm d_)]
    ·have:=(h.gD o b' ho).eQ;have hk':β o=some k:=hk;simp only[aK,hk'] at this;obtain⟨_,arr',e',h1,_⟩:=this;exact dt.block k (Array.getElem?_eq_some_iff.1 h1).1
  inj:=fun o o' b1 b2 k h1 h2 k1 k2=>by
   have lt:∀ o b',aA o σ.ob=some b'→β o=some k→k < w.heap.size:=fun o b' ho hk=>by
    have:=(h.gD o b' ho).eQ;simp only[aK,hk] at this;obtain⟨_,arr',e',h1,_⟩:=this;exact (Array.getElem?_eq_some_iff.1 h1).1
   simp only[bn] at h1 h2;by_cases e1:o=d <;> by_cases e2:o'=d
   ·omega
   ·rw[if_pos e1] at k1;rw[if_neg e2] at k2;rw[if_neg (Ne.symm e2)] at h2;injection k1 with k1
    have:=lt o' b2 h2 k2;omega
   ·rw[if_neg e1] at k1;rw[if_pos e2] at k2;rw[if_neg (Ne.symm e1)] at h1;injection k2 with k2
    have:=lt o b1 h1 k1;omega
   ·rw[if_neg e1] at k1;rw[if_neg e2] at k2;rw[if_neg (Ne.symm e1)] at h1;rw[if_neg (Ne.symm e2)] at h2;exact h.inj o o' b1 b2 k h1 h2 k1 k2 }
theorem bG.write {E:Env} {w0 w:World} {σ:St} {a:Act} {β:Nat→Option Nat} (h:bG E w0 σ a w β) {o k:Nat} {b b':Obj} {arr arr':Array Value} {e:TypeId}
 (ho:aA o σ.ob=some b) (hk:β o=some k) (hh:w.heap[k]? = some (.cells arr e (0,0))) (hs:arr'.size=arr.size)
 (ja:pk E.ty b')
 (ig:∀ (j:Nat) (x:AV),(ay b'.es)[j]? = some x→∃ v,arr'[j]? = some v∧fw (aK E w0 σ w β) b' x v) :
 bG E w0 ⟨σ.tm,bE o b' σ.ob⟩ a (dB w k (.cells arr' e (0,0))) β∧
 mS (aK E w0 σ w β) (aK E w0 ⟨σ.tm,bE o b' σ.ob⟩ (dB w k (.cells arr' e (0,0))) β):=by
 have aR:k < w.heap.size:=(Array.getElem?_eq_some_iff.1 hh).1;have CV:w0.heap.size≤k∨(E.lent k∧¬ E.okA k):=by
  have:=(h.gD o b ho).eQ;simp only[aK,hk] at this;exact this.1
 have Lk:∀ o1,(∃ b1,aA o1 (bE o b' σ.ob)=some b1)↔(∃ b1,aA o1 σ.ob=some b1):=fun o1=>by
  simp only[bn];by_cases e1:o=o1
  ·subst e1;simp[ho]
  ·simp[e1]
 have m:mS (aK E w0 σ w β) (aK E w0 ⟨σ.tm,bE o b' σ.ob⟩ (dB w k (.cells arr' e (0,0))) β):={
  ty:=rfl,base:=rfl,new:=rfl,size:=by simp[aK]
  cA:=fun q hq hl=>by
   have hqk:q ≠ k:=by rintro rfl;exact hq (.inr ⟨o,b,ho,hk⟩)
   refine⟨fun lh=>lh.elim (fun z=>hq (.inl z)) fun⟨o1,b1,h1,h2⟩=>?_,iZ w k q _ hqk⟩;obtain⟨b2,iJ⟩:=(Lk o1).1 ⟨b1,h1⟩;exact hq (.inr ⟨o1,b2,iJ,h2⟩)
  rows:=fun q fz e2 hq=>by
   by_cases hqk:q=k
   ·subst hqk;have Qq:w.heap[q]? = some (.cells fz e2 (0,0)):=hq;rw[hh] at Qq;injection Qq with Qq;injection Qq with h1 h2 h3
    subst h1;subst h2;exact⟨arr',jW w q _ aR,hs⟩
   ·exact⟨fz,(iZ w k q _ hqk).trans hq,rfl⟩ }
 refine⟨?_,m⟩;exact {
  below:=h.below.trans ⟨rfl,rfl,rfl,by simp,fun q hq hL=>iZ w k q _ (by rintro rfl;rcases CV with hb | hb;omega;exact hL hb),m.rows⟩
  size:=h.size,defers:=h.defers.to fun q hq=>by rw[iZ w k q _ (by rintro rfl;rw[hh] at hq;cases hq)];exact hq
  tms:=fun t x hx=>⟨(h.tms t x hx).1,m.vr (h.tms t x hx).2 fun _ _=>rfl⟩
  gD:=fun o1 b1 h1=>by
   simp only[bn] at h1;split at h1
   ·rename_i e1;subst e1;injection h1 with h1;subst h1
    refine⟨by exact ja,?_⟩;simp only[aK,hk];refine⟨CV,arr',e,jW w k _ aR,fun j x hx=>?_⟩;obtain⟨v,h2,h3⟩:=ig j x hx;exact⟨v,h2,m.fw h3 fun _ _ _=>rfl⟩
   ·rename_i d_;refine m.KT (h.gD o1 b1 h1) (fun _ _=>rfl) rfl fun q hq=>?_
    refine iZ w k q _ ?_;rintro rfl;exact d_ (h.inj o o1 b b1 q ho h1 hk hq)
  inj:=fun o1 o2 b1 b2 q h1 h2 k1 k2=>by
   obtain⟨c1,sy⟩:=(Lk o1).1 ⟨b1,h1⟩;obtain⟨c2,fp⟩:=(Lk o2).1 ⟨b2,h2⟩;exact h.inj o1 o2 c1 c2 q sy fp k1 k2 }
end Go.Abs
end
section
namespace Go.Abs
open Go Go.RowKit
def bj (E:Env) (w:World):Prop:=∀ g t x,E.G g=some (t,x)→LR E.ty w E.okA (.ro false t x) (.pointer (some ⟨g,0,none⟩))
theorem bG.Ll {E:Env} {w0 w:World} {σ:St} {a:Act} {β:Nat→Option Nat} (h:bG E w0 σ a w β) {k:Nat} (hk:∃ o b,aA o σ.ob=some b∧β o=some k):(w0.heap.size≤k∨(E.lent k∧¬ E.okA k))∧k < w.heap.size:=by
 obtain⟨o,b,h1,h2⟩:=hk;have:=(h.gD o b h1).eQ;simp only[aK,h2] at this;obtain⟨h3,arr,e,h4,_⟩:=this;exact⟨h3,(Array.getElem?_eq_some_iff.1 h4).1⟩
theorem bG.old {E:Env} {w0 w:World} {σ:St} {a:Act} {β:Nat→Option Nat} (h:bG E w0 σ a w β) {x:AV} {v:Value} (hx:LR E.ty w0 E.okA x v) :
 LR E.ty w ((aK E w0 σ w β).okb false) x v:=by
 refine hx.mono fun b hA hb=>⟨⟨fun hm=>hm.elim (fun z=>z.2 hA) fun hm=>?_,fun hf=>by cases hf⟩,Nat.lt_of_lt_of_le hb h.below.size,h.below.block b hb fun hl=>hl.2 hA⟩
 rcases (h.Ll hm).1 with h1 | h1
 ·omega
 ·exact h1.2 hA
theorem bt {E:Env} {w0 w:World} {σ:St} {a:Act} {β:Nat→Option Nat} (h:bG E w0 σ a w β) (hG:bj E w0) {x:Operand} {v:AV} (hv:σ.val E.G x=some v) :
 VR (aK E w0 σ w β) v (a.eval x):=by
 cases x with
 | tmp t=>exact (h.tms t v hv).2
 | const c=>
   simp only[St.val] at hv;unfold fW at hv;split at hv <;> first | (injection hv with hv;subst hv) | cases hv
   ·exact .cl (.int _ _)
   ·exact .cl (.bool _)
   ·exact .cl (.str _)
   ·exact .cl (.sx _ _ _ (by simp) rfl)
   ·exact .cl .iu
   ·exact .cl .dY
 | func f=>
   simp only[St.val] at hv;injection hv with hv;subst hv
   exact .fn f [] #[] rfl (fun i x hx=>by simp at hx)
 | global g=>
   simp only[St.val] at hv;split at hv
   ·rename_i y hy;injection hv with hv;subst hv
    exact .cl (h.old (hG g y.1 y.2 (by rw[hy])))
   ·cases hv
theorem OR.one {c:Cx} {x:AV} {v:Value} (h:OR c x v) (hx:x ≠ .undef):i_ v:=by
 cases h with
 | undef v=>exact absurd rfl hx
 | cl h=>exact h.cell
 | _=>exact⟨by simp,by simp⟩
theorem LR.one {ty:bX} {w:World} {okb:Nat→Prop} {x:AV} {v:Value} (h:LR ty w okb x v):i_ v:=h.cell
theorem i_.cells {v:Value} (h:i_ v):v.cells = #[v]:=by
 cases v <;> first | rfl | exact absurd rfl (h.1 _)
theorem br.Tu {ty:bX} {t:TypeId} {x:AV} {d:kD} (h:br ty t x) (hd:ty t=some d) (hk:fv d.k=true):d.size=1:=by
 cases h with
 | leaf h1 _ h3 _=>rw[hd] at h1;injection h1 with h1;subst h1;exact h3
 | st h1 _ _ _=>rw[hd] at h1;injection h1 with h1;subst h1;cases hk
 | ar h1 _ _ _ _=>rw[hd] at h1;injection h1 with h1;subst h1;cases hk
theorem oD {P:Program} {E:Env} (hT:jA P E.ty) {c:Cx} (hc:c.ty=E.ty) {t:TypeId} {x:AV} {v:Value} (hf:fits E.ty t x=true) (hx:VR c x v) :
 br E.ty t x∧mM c x v∧x ≠ .undef:=by
 have ab2:bq x=true→(match E.ty t with | some d=>fv d.k | none=>false)=true→br E.ty t x:=fun hl hk=>by
  split at hk
  ·rename_i d hd;exact .leaf hd hk ((hT t d hd).fy.Tu hd hk) hl
  ·cases hk
 cases x with
 | st u fs=>
   simp[fits] at hf;subst hf;obtain⟨vs,e1,e2,e3⟩:=hx;rw[hc] at e2;exact⟨e2,⟨vs,e1,by rw[hc];exact e2,e3⟩,by simp⟩
 | ar u es=>
   simp[fits] at hf;subst hf;obtain⟨vs,e1,e2,e3⟩:=hx;rw[hc] at e2;exact⟨e2,⟨vs,e1,by rw[hc];exact e2,e3⟩,by simp⟩
 | cE _=>simp[fits] at hf
 | undef=>simp[fits] at hf
 | _=>exact⟨ab2 rfl hf,hx,by simp⟩
theorem mM.cells {c:Cx} {x:AV} {v:Value} (h:mM c x v) (hx:x ≠ .undef):F2 (OR c) (leaves x) v.cells.toList:=by
 cases x with
 | st t fs=>obtain⟨vs,e,_,h3⟩:=h;subst e;exact h3
 | ar t es=>obtain⟨vs,e,_,h3⟩:=h;subst e;exact h3
 | cE _=>exact h.elim
 | undef=>exact absurd rfl hx
 | _=>
   have h':OR c _ v:=h;rw[(h'.one hx).cells];refine⟨by simp[leaves],fun i y u hy hu=>?_⟩;cases i with
   | zero=>simp[leaves] at hy hu;subst hy;subst hu;exact h'
   | succ i=>simp[leaves] at hy
theorem F2.get {R:AV→Value→Prop} {xs:List AV} {vs:List Value} (h:F2 R xs vs) {j:Nat} {x:AV} (hx:xs[j]? = some x):∃ v,vs[j]? = some v∧R x v:=by
 have hj:j < vs.length:=by rw[← h.1];exact (List.getElem?_eq_some_iff.1 hx).1
 exact⟨vs[j],by simp[hj],h.2 j x _ hx (by simp[hj])⟩
theorem iK:∀ {l:List AV},closed.fq l=true→∀ x ∈ l,closed x=true
 | [],_,x,h=>by simp at h
 | y::r,hc,x,h=>by
   simp only[closed.fq,Bool.and_eq_true] at hc;rcases List.mem_cons.1 h with rfl | h
   ·exact hc.1
   ·exact iK hc.2 x h
theorem pQ:∀ {l:List AV},fresh.iv l=true→∀ x ∈ l,fresh x=true
 | [],_,x,h=>by simp at h
 | y::r,hc,x,h=>by
   simp only[fresh.iv,Bool.and_eq_true] at hc;rcases List.mem_cons.1 h with rfl | h
   ·exact hc.1
   ·exact pQ hc.2 x h
theorem fA:∀ (n:Nat) (x:AV),SizeOf.sizeOf x < n→flat x=true→∀ y ∈ leaves x,closed y=true∧fresh y=true∧(∀ fr,cL fr y=y)∧bq y=true
 | 0,_,h,_,_,_=>by omega
 | n+1,x,h,hf,y,hy=>by
   cases x with
   | st t fs=>
     simp only[leaves] at hy;have cw:=(kT fs).1 (by simpa[flat] using hf);have key:∀ (l:List AV),(∀ z ∈ l,flat z=true∧SizeOf.sizeOf z < n)→∀ y ∈ ay l,closed y=true∧fresh y=true∧(∀ fr,cL fr y=y)∧bq y=true:=by
      intro l
      induction l with
      | nil=>intro _ y hy;simp[ay] at hy
      | cons a r ih=>
        intro hl y hy;simp only[ay,List.mem_append] at hy;rcases hy with hy | hy
        ·exact fA n a (hl a (by simp)).2 (hl a (by simp)).1 y hy
        ·exact ih (fun z hz=>hl z (by simp[hz])) y hy
     refine key fs (fun z hz=>⟨cw z hz,?_⟩) y hy;have:=List.sizeOf_lt_of_mem hz;simp at h;omega
   | int k a=>simp[leaves] at hy;subst hy;simp[closed,fresh,cL,bq]
   | bool b=>simp[leaves] at hy;subst hy;simp[closed,fresh,cL,bq]
   | str s=>simp[leaves] at hy;subst hy;simp[closed,fresh,cL,bq]
   | _=>simp[flat] at hf
theorem cm {l:List AV} {y:AV} (h:y ∈ ay l):∃ x ∈ l,y ∈ leaves x:=by
 induction l with
 | nil=>simp[ay] at h
 | cons a r ih=>
   simp only[ay,List.mem_append] at h;rcases h with h | h
   ·exact⟨a,by simp,h⟩
   ·obtain⟨x,h1,h2⟩:=ih h;exact⟨x,by simp[h1],h2⟩
theorem iL {ty:bX} {t:TypeId} {x:AV} (hc:br ty t x):(closed x=true→∀ y ∈ leaves x,closed y=true)∧(closed x=true→fresh x=true→∀ y ∈ leaves x,fresh y=true):=by
 induction hc with
 | leaf _ _ _ h4=>
   rw[bY h4];exact⟨fun h y hy=>by simp at hy;subst hy;exact h,fun _ h y hy=>by simp at hy;subst hy;exact h⟩
 | @st t ts s b z fs h1 h2 h3 h4 ih=>
   have key:∀ x ∈ fs,∃ u,(closed x=true→∀ y ∈ leaves x,closed y=true)∧(closed x=true→fresh x=true→∀ y ∈ leaves x,fresh y=true)∧ts[(0:Nat)]? = u:=fun x hx=>by
    obtain⟨i,hi,e⟩:=List.getElem_of_mem hx;have tp:fs[i]? = some x:=by rw[List.getElem?_eq_getElem hi,e]
    obtain⟨u,hu⟩:∃ u,ts[i]? = some u:=⟨ts[i]'(by omega),by rw[List.getElem?_eq_getElem]⟩
    obtain⟨a,b⟩:=ih i x u tp hu;exact⟨_,a,b,rfl⟩
   simp only[leaves];refine⟨fun nR y hy=>?_,fun nR KU y hy=>?_⟩
   ·obtain⟨x,h5,h6⟩:=cm hy;obtain⟨_,a,_⟩:=key x h5;exact a (iK (by simpa[closed] using nR) x h5) y h6
   ·obtain⟨x,h5,h6⟩:=cm hy;obtain⟨_,_,b,_⟩:=key x h5;exact b (iK (by simpa[closed] using nR) x h5) (pQ (by simpa[fresh] using KU) x h5) y h6
 | ar h1 h2 h3 h4 h5 _=>
   simp only[leaves];refine⟨fun _ y hy=>?_,fun _ _ y hy=>?_⟩
   ·obtain⟨x,h6,h7⟩:=cm hy;exact (fA _ x (Nat.lt_succ_self _) (h5 x h6) y h7).1
   ·obtain⟨x,h6,h7⟩:=cm hy;exact (fA _ x (Nat.lt_succ_self _) (h5 x h6) y h7).2.1
theorem OR.lr {c:Cx} {x:AV} {v:Value} (h:OR c x v) (hc:closed x=true) {fr:Bool} (hf:fr=true→fresh x=true):LR c.ty c.w (c.okb fr) x v:=by
 cases h with
 | undef v=>simp[closed] at hc
 | l8=>simp[closed] at hc
 | own=>simp[closed] at hc
 | ptr=>simp[closed] at hc
 | fn f cs vs h1 h2=>
   simp only[closed,List.isEmpty_iff] at hc;subst hc;exact .fn f [] vs h1 (fun i x hx=>by simp at hx)
 | cl h=>
   refine h.mono fun b hb aR=>⟨⟨hb.1,fun KU=>hb.2 ?_⟩,aR,rfl⟩
   have:=hf KU;cases x <;> simp_all [fresh,jw]
theorem LR.re {c:Cx} {fr:Bool} {x:AV} {v:Value} (h:LR c.ty c.w (c.okb fr) x v):OR c (cL fr x) v:=by
 cases h with
 | int k n=>exact .cl (.int k n)
 | bool b=>exact .cl (.bool b)
 | str s=>exact .cl (.str s)
 | iu=>exact .cl .iu
 | dY=>exact .cl .dY
 | fn f cs us h1 h2=>
   simp only[cL];split
   ·rename_i he;simp only[List.isEmpty_iff] at he;subst he;exact .fn f [] us h1 (fun i x hx=>by simp at hx)
   ·exact .undef _
 | sx t fl cc h1 h2=>exact .cl (.sx t _ cc h1 h2)
 | sl t fl es eQ off cc vs h1 h2 h3 h4 h5 h6 h7=>exact .cl (.sl t _ es eQ off cc vs h1 h2 h3 h4 h5 h6 h7)
 | ro f t x eQ off vs h1 h2 h3 h4 h5=>exact .cl (.ro fr t x eQ off vs h1 h2 h3 h4 h5)
 | Li t=>exact .cl (.Li t)
 | mp t ks fs eQ es cl h1 h2 h3 CQ h4 h5 h6=>
   refine .cl (.mp t ks fs eQ es cl ⟨h1.1,fun hf=>?_⟩ h2 h3 CQ h4 h5 h6);simp only[cL,jw,List.isEmpty_iff] at hf;exact absurd hf h3
theorem mU {fr:Bool} {x:AV} (h:bq x=true):bq (cL fr x)=true:=by
 cases x with
 | fn f cs=>simp only[cL];split <;> rfl
 | _=>simp_all [cL,bq]
theorem vX (fr:Bool):∀ (l:List AV),cL.qq fr l=l.map (cL fr)
 | []=>rfl
 | x::r=>by simp[cL.qq,vX fr r]
theorem tu {f:AV→AV}:∀ (l:List AV),(∀ x ∈ l,leaves (f x)=(leaves x).map f)→ay (l.map f)=(ay l).map f
 | [],_=>rfl
 | x::r,h=>by simp[ay,h x (by simp),tu r (fun y hy=>h y (by simp[hy]))]
theorem CW {ty:bX} {fr:Bool} {t:TypeId} {x:AV} (hc:br ty t x):br ty t (cL fr x)∧leaves (cL fr x)=(leaves x).map (cL fr):=by
 induction hc with
 | leaf h1 h2 h3 h4=>
   refine⟨.leaf h1 h2 h3 (mU h4),?_⟩;rw[bY h4,bY (mU h4)];rfl
 | @st t ts s b z fs h1 h2 h3 h4 ih=>
   simp only[cL,leaves,vX];refine⟨.st h1 (by simpa using h2) h3 fun i x u hx hu=>?_,tu fs fun x hx=>?_⟩
   ·simp only[List.getElem?_map,Option.map_eq_some_iff] at hx;obtain⟨y,hy,e⟩:=hx;subst e;exact (ih i y u hy hu).1
   ·obtain⟨i,hi,e⟩:=List.getElem_of_mem hx;have tp:fs[i]? = some x:=by rw[List.getElem?_eq_getElem hi,e]
    obtain⟨u,hu⟩:∃ u,ts[i]? = some u:=⟨ts[i]'(by omega),by rw[List.getElem?_eq_getElem]⟩
    exact (ih i x u tp hu).2
 | ar h1 h2 h3 h4 h5 _=>
   refine⟨.ar h1 h2 h3 h4 h5,?_⟩;simp only[cL,leaves];have:∀ y ∈ ay _,cL fr y=id y:=fun y hy=>by
    obtain⟨x,h6,h7⟩:=cm hy;exact (fA _ x (Nat.lt_succ_self _) (h5 x h6) y h7).2.2.1 fr
   rw[List.map_congr_left this,List.map_id]
end Go.Abs
end
section
namespace Go.Abs
open Go Go.RowKit
theorem eR {α β:Type}:∀ (xs:List α) (Q:Nat→α→β→Prop),(∀ (j:Nat) (z:α),xs[j]? = some z→∃ v,Q j z v)→
 ∃ us:List β,us.length=xs.length∧∀ (j:Nat) (z:α) (v:β),xs[j]? = some z→us[j]? = some v→Q j z v
 | [],Q,_=>⟨[],rfl,fun j z v h=>by simp at h⟩
 | x::r,Q,h=>by
   obtain⟨v0,h0⟩:=h 0 x rfl;obtain⟨us,h1,h2⟩:=eR r (fun j z v=>Q (j+1) z v) (fun j z hz=>h (j+1) z (by simpa using hz));refine⟨v0::us,by simp[h1],fun j z v hz hv=>?_⟩;cases j with
   | zero=>simp at hz hv;subst hz;subst hv;exact h0
   | succ j=>exact h2 j z v (by simpa using hz) (by simpa using hv)
def AR (R:AV→Value→Prop) (y:AV) (v:Value):Prop:=
 match y with
 | .st _ _=>∃ vs,v = .agg vs∧F2 R (leaves y) vs.toList
 | .ar _ _=>∃ vs,v = .agg vs∧F2 R (leaves y) vs.toList
 | _=>R y v
theorem br.vY {ty:bX} {t:TypeId} {d:kD} {y:AV} (hc:br ty t y) (hd:ty t=some d):fv d.k=bq y:=by
 cases hc with
 | leaf h1 h2 _ h4=>rw[hd] at h1;injection h1 with h1;subst h1;rw[h2,h4]
 | st h1 _ _ _=>rw[hd] at h1;injection h1 with h1;subst h1;rfl
 | ar h1 _ _ _ _=>rw[hd] at h1;injection h1 with h1;subst h1;rfl
theorem br.ty {ty:bX} {t:TypeId} {y:AV} (hc:br ty t y):∃ d,ty t=some d:=by
 cases hc with
 | leaf h1 _ _ _=>exact⟨_,h1⟩
 | st h1 _ _ _=>exact⟨_,h1⟩
 | ar h1 _ _ _ _=>exact⟨_,h1⟩
theorem br.Bc {ty:bX} {t:TypeId} {vs:List AV}:¬ br ty t (.cE vs):=by
 intro h;cases h with
 | leaf _ _ _ h4=>cases h4
theorem Hb {R:AV→Value→Prop} {y:AV} {v:Value} (h:bq y=true):AR R y v↔R y v:=by cases y <;> simp_all [AR,bq]
section
variable {P:Program} {ty:bX}
theorem lj (hT:jA P ty) {R:AV→Value→Prop} {t:TypeId} {y:AV} {k d:Nat} {w:World} (hc:br ty t y)
 (ig:∀ (j:Nat) (z:AV),(leaves y)[j]? = some z→∃ v,w.cell? ⟨k,d+j,none⟩=some v∧R z v) :
 ∃ v,(loadVar t ⟨k,d,none⟩).run P w = .ok v w∧AR R y v:=by
 obtain⟨D,hD⟩:=hc.ty;have U5:=hc.vY hD;by_cases hl:bq y=true
 ·obtain⟨v,h1,h2⟩:=ig 0 y (by rw[bY hl];rfl);refine⟨v,?_,(Hb hl).2 h2⟩;unfold loadVar;rw[Sem.run_bind,gE hT hD];simp only[Result.andThen_ok,U5,hl,Bool.not_true,Bool.false_eq_true,if_false];rw[run_load];rw[show (⟨k,d,none⟩:Addr)=⟨k,d+0,none⟩ from rfl,h1]
 ·obtain⟨us,h1,h2⟩:=eR (leaves y) (fun j z v=>w.cell? ⟨k,d+j,none⟩=some v∧R z v) ig;refine⟨.agg us.toArray,?_,?_⟩
  ·unfold loadVar;have hl':bq y=false:=by simpa using hl
   rw[Sem.run_bind,gE hT hD];simp only[Result.andThen_ok,U5,hl',Bool.not_false,if_true];rw[Sem.run_bind,cj hT hD];simp only[Result.andThen_ok];rw[Sem.run_bind];unfold loadCells;have cS:aH ty t=us.length:=by rw[h1,hc.len]
   rw[cS,jX P w k d us 0 #[] (fun j v hv=>?_)]
   ·simp
   ·have hj:j < (leaves y).length:=by rw[← h1];exact (List.getElem?_eq_some_iff.1 hv).1
    have:=(h2 j ((leaves y)[j]) v (by simp[hj]) hv).1;rw[← this];congr 2;omega
  ·have hF:F2 R (leaves y) us.toArray.toList:=⟨by simp[h1],fun i x v hx hv=>(h2 i x v hx (by simpa using hv)).2⟩
   cases y with
   | st t fs=>exact⟨_,rfl,hF⟩
   | ar t es=>exact⟨_,rfl,hF⟩
   | cE vs=>exact absurd hc br.Bc
   | _=>simp[bq] at hl
theorem va (hT:jA P ty) {t:TypeId} {D:kD} {v:Value} {k d:Nat} {w:World} {arr:Array Value} {e:TypeId} (hD:ty t=some D)
 (hh:w.heap[k]? = some (.cells arr e (0,0))) (hs:v.cells.size=aH ty t) (hle:d+aH ty t≤arr.size) (h1:∀ u ∈ v.cells.toList,i_ u) :
 (storeVar t ⟨k,d,none⟩ v).run P w = .ok () (dB w k (.cells (qC arr d v.cells.toList) e (0,0))):=by
 unfold storeVar;rw[Sem.run_bind,cj hT hD];simp only[Result.andThen_ok,hs,ne_eq,not_true,if_false];have:=eh P k d e v.cells.toList 0 w arr hh (by simp[hs];omega) h1;simpa using this
end
theorem qD {c:Cx} {o k d:Nat} {b:Obj} {p:List Nat} {y:AV} (h:zo c o b) (hk:c.β o=some k) (hy:b.tree p=some y) (hd:ky c.ty b.r p=some d) :
 ∃ u,b.r.di c.ty p=some u∧br c.ty u y∧∃ arr e,c.w.heap[k]? = some (.cells arr e (0,0))∧
   ∀ (j:Nat) (z:AV),(leaves y)[j]? = some z→∃ v,c.w.cell? ⟨k,d+j,none⟩=some v∧fw c b z v:=by
 obtain⟨h1,h2⟩:=h;rw[hk] at h2;obtain⟨_,arr,e,h3,h4⟩:=h2;have key:∀ u,br c.ty u y→(∀ j,j < aH c.ty u→(ay b.es)[d+j]? = (leaves y)[j]?)→
  ∀ (j:Nat) (z:AV),(leaves y)[j]? = some z→∃ v,c.w.cell? ⟨k,d+j,none⟩=some v∧fw c b z v:=fun u hc hl j z hz=>by
  have hj:j < aH c.ty u:=by rw[← hc.len];exact (List.getElem?_eq_some_iff.1 hz).1
  obtain⟨v,h5,h6⟩:=h4 (d+j) z (by rw[hl j hj];exact hz);exact⟨v,by rw[lg c.w k (d+j) arr e _ h3];exact h5,h6⟩
 unfold Obj.tree at hy;unfold pk at h1;cases hr:b.r with
 | box t=>
   rw[hr] at h1 hd;obtain⟨x,hx,hc⟩:=h1;simp only[hr,hx] at hy;obtain⟨u,a1,a2,a3⟩:=hc.tree p hy hd;refine⟨u,a1,a2,arr,e,h3,key u a2 fun j hj=>?_⟩;rw[hx];simp only[ay,List.append_nil];exact a3 j hj
 | row t=>
   rw[hr] at h1 hd;obtain⟨cw,gq⟩:=h1;cases p with
   | nil=>simp[hr] at hy
   | cons i p=>
     simp only[hr] at hy;split at hy
     ·rename_i x hx;simp only[ky] at hd;split at hd
      ·rename_i d' qA;injection hd with hd;subst hd
       have hm:x ∈ b.es:=List.mem_of_getElem? hx;obtain⟨u,a1,a2,a3⟩:=(cw x hm).tree p hy qA;refine⟨u,a1,a2,arr,e,h3,key u a2 fun j hj=>?_⟩;rw[← a3 j hj];have aR:d'+j < aH c.ty t:=by
        have h5:((leaves x)[d'+j]?).isSome:=by rw[a3 j hj];simp[a2.len,hj]
        simp[(cw x hm).len] at h5;exact h5
       have:=ed (aH c.ty t) b.es (fun z hz=>(cw z hz).len) i x hx (d'+j) aR;rw[← this];congr 1;omega
      ·cases hd
     ·cases hy
 | oQ t=>
   rw[hr] at h1 hd;obtain⟨cw,gq⟩:=h1;cases p with
   | nil=>simp[hr] at hy
   | cons i p=>
     simp only[hr] at hy;split at hy
     ·rename_i x hx;simp only[ky] at hd;split at hd
      ·rename_i d' qA;injection hd with hd;subst hd
       have hm:x ∈ b.es:=List.mem_of_getElem? hx;obtain⟨u,a1,a2,a3⟩:=(cw x hm).tree p hy qA;refine⟨u,a1,a2,arr,e,h3,key u a2 fun j hj=>?_⟩;rw[← a3 j hj];have aR:d'+j < aH c.ty t:=by
        have h5:((leaves x)[d'+j]?).isSome:=by rw[a3 j hj];simp[a2.len,hj]
        simp[(cw x hm).len] at h5;exact h5
       have:=ed (aH c.ty t) b.es (fun z hz=>(cw z hz).len) i x hx (d'+j) aR;rw[← this];congr 1;omega
      ·cases hd
     ·cases hy
theorem vZ:∀ {l:List AV},kx.vM l=true→∀ x ∈ l,kx x=true
 | [],_,x,h=>by simp at h
 | y::r,hc,x,h=>by
   simp only[kx.vM,Bool.and_eq_true] at hc;rcases List.mem_cons.1 h with rfl | h
   ·exact hc.1
   ·exact vZ hc.2 x h
theorem Fj {ty:bX} {t:TypeId} {x:AV} (hc:br ty t x) (h:kx x=true):∀ y ∈ leaves x,y ≠ .undef:=by
 induction hc with
 | leaf _ _ _ h4=>
   rw[bY h4];intro y hy;simp at hy;subst hy;rintro rfl;cases h
 | @st t ts s b z fs h1 h2 h3 h4 ih=>
   simp only[leaves];intro y hy;obtain⟨x,h5,h6⟩:=cm hy;obtain⟨i,hi,e⟩:=List.getElem_of_mem h5;have tp:fs[i]? = some x:=by rw[List.getElem?_eq_getElem hi,e]
   obtain⟨u,hu⟩:∃ u,ts[i]? = some u:=⟨ts[i]'(by omega),by rw[List.getElem?_eq_getElem]⟩
   exact ih i x u tp hu (vZ (by simpa[kx] using h) x h5) y h6
 | ar h1 h2 h3 h4 h5 _=>
   simp only[leaves];intro y hy;obtain⟨x,h6,h7⟩:=cm hy;rintro rfl;have:=(fA _ x (Nat.lt_succ_self _) (h5 x h6) _ h7).1;cases this
theorem mM.all {c:Cx} {ty:bX} {t:TypeId} {y:AV} {v:Value} (hc:br ty t y) (hv:mM c y v) (hs:kx y=true) :
 v.cells.size=aH ty t∧(∀ u ∈ v.cells.toList,i_ u)∧∀ (j:Nat) (z:AV),(leaves y)[j]? = some z→∃ u,v.cells.toList[j]? = some u∧OR c z u:=by
 have d_:y ≠ .undef:=by rintro rfl;cases hs
 have hF:=hv.cells d_;refine⟨by rw[← hc.len,hF.1];simp,fun u hu=>?_,fun j z hz=>hF.get hz⟩;obtain⟨i,hi,e⟩:=List.getElem_of_mem hu;have zp:i < (leaves y).length:=by rw[hF.1];exact hi
 have h1:(leaves y)[i]? = some (leaves y)[i]:=by simp[zp]
 exact (hF.2 i _ u h1 (by rw[List.getElem?_eq_getElem hi,e])).one (Fj hc hs _ (List.getElem_mem zp))
theorem jZ {c:Cx} {f g:Bool} {x:AV} {v:Value} (h:LR c.ty c.w (c.okb f) x v) (hw:g=true→f=true):LR c.ty c.w (c.okb g) x v:=
 h.mono fun _ hb aR=>⟨⟨hb.1,fun hg=>hb.2 (hw hg)⟩,aR,rfl⟩
theorem Ju {c:Cx} {o k d:Nat} {b b':Obj} {p:List Nat} {t:TypeId} {y:AV} {v:Value} (h:zo c o b) (hk:c.β o=some k) (hp:b.cW p y=some b') (hd:ky c.ty b.r p=some d)
 (hu:b.r.di c.ty p=some t) (hc:br c.ty t y) (hv:mM c y v) (hs:kx y=true) :
 b'.r=b.r∧∃ arr e,c.w.heap[k]? = some (.cells arr e (0,0))∧d+aH c.ty t≤arr.size∧
  pk c.ty b'∧
  (∀ (j:Nat) (x:AV),(ay b'.es)[j]? = some x→∃ u,(qC arr d v.cells.toList)[j]? = some u∧fw c b' x u):=by
 obtain⟨cS,_,cw⟩:=hv.all hc hs;obtain⟨h1,h2⟩:=h;rw[hk] at h2;obtain⟨_,arr,e,h3,h4⟩:=h2;have hlen:(ay b.es).length≤arr.size:=by
  rcases Nat.lt_or_ge arr.size (ay b.es).length with aR | pR
  ·obtain⟨v,h5,_⟩:=h4 arr.size ((ay b.es)[arr.size]) (by simp[aR]);simp at h5
  ·exact pR
 unfold Obj.cW at hp;unfold pk at h1;cases hr:b.r with
 | oQ t0=>rw[hr] at hp;cases p <;> simp at hp
 | box t0=>
   rw[hr] at h1 hd hu;obtain⟨x,hx,mV⟩:=h1;simp only[hr,hx] at hp;split at hp
   ·cases hp
   ·rename_i tv;split at hp
    ·rename_i z hz;injection hp with hp;subst hp
     obtain⟨a1,a2,a3⟩:=mV.cW p hz hu hc hd (fun de=>by
      cases hfy:flat y with
      | true=>rfl
      | false=>exact absurd (by simp[de,hfy]) tv)
     have hL:(ay b.es).length=aH c.ty t0:=by rw[hx];simp[ay,mV.len]
     refine⟨rfl,arr,e,h3,by omega,⟨z,rfl,a1⟩,fun j w hw=>?_⟩;simp only[ay,List.append_nil] at hw;rw[mT _ _ _ _ (by simp[cS];omega)];rw[a3 j] at hw;have Qr:v.cells.toList.length=aH c.ty t:=by simp[cS]
     rw[Qr];by_cases hj:d≤j∧j < d+aH c.ty t
     ·rw[if_pos hj] at hw ⊢;obtain⟨u,h5,h6⟩:=cw _ _ hw;exact⟨u,h5,h6⟩
     ·rw[if_neg hj] at hw ⊢;obtain⟨u,h5,h6⟩:=h4 j w (by rw[hx];simpa[ay] using hw);refine⟨u,h5,?_⟩;simp only[fw,hr] at h6 ⊢;exact h6
    ·cases hp
 | row t0=>
   rw[hr] at h1 hd hu;obtain⟨Qs,gq⟩:=h1;cases p with
   | nil=>simp[hr] at hp
   | cons i p=>
     simp only[hr] at hp;split at hp
     ·rename_i nR;split at hp
      ·rename_i x hx;split at hp
       ·cases hp
       ·rename_i tv;split at hp
        ·rename_i z hz;injection hp with hp;subst hp
         simp only[ky] at hd;split at hd
         ·rename_i d' qA;injection hd with hd;subst hd
          have hm:x ∈ b.es:=List.mem_of_getElem? hx;have hi:i < b.es.length:=(List.getElem?_eq_some_iff.1 hx).1;obtain⟨a1,a2,a3⟩:=(Qs x hm).cW p hz hu hc qA (fun de=>by
           cases hfy:flat y with
           | true=>rfl
           | false=>exact absurd (by simp[de,hfy]) tv)
          have hL:(ay b.es).length=b.es.length * aH c.ty t0:=bg _ _ fun q hq=>(Qs q hq).len
          have hb:(i+1) * aH c.ty t0≤b.es.length * aH c.ty t0:=Nat.mul_le_mul_right _ hi;rw[Nat.succ_mul] at hb;refine⟨rfl,arr,e,h3,by omega,⟨fun q hq=>?_,gq⟩,fun j w hw=>?_⟩
          ·rcases lf hq with rfl | hq
           ·exact a1
           ·exact Qs q hq
          ·have bH:=lQ b.es i x z (i * aH c.ty t0) hx (by rw[a1.len,(Qs x hm).len])
            (by rw[bg (aH c.ty t0) _ (fun q hq=>(Qs q (List.mem_of_mem_take hq)).len),List.length_take,Nat.min_eq_left (Nat.le_of_lt hi)]) j
           rw[bH,(Qs x hm).len] at hw;rw[mT _ _ _ _ (by simp[cS];omega)];have Qr:v.cells.toList.length=aH c.ty t:=by simp[cS]
           rw[Qr];have old:(ay b.es)[j]? = some w→∃ u,arr[j]? = some u∧fw c ⟨RT.row t0,b.fr&&fresh y,b.es.set i z⟩ w u:=fun U6=>by
            obtain⟨u,h5,h6⟩:=h4 j w U6;refine⟨u,h5,?_⟩;simp only[fw,hr] at h6 ⊢;exact jZ h6 fun hg=>by simp at hg;exact hg.1
           by_cases hj:i * aH c.ty t0≤j∧j < i * aH c.ty t0+aH c.ty t0
           ·rw[if_pos hj,a3] at hw;by_cases vU:d'≤j - i * aH c.ty t0∧j - i * aH c.ty t0 < d'+aH c.ty t
            ·rw[if_pos vU] at hw;rw[if_pos (by omega)];obtain⟨u,h5,h6⟩:=cw _ _ hw;refine⟨u,by rw[← h5];congr 1;omega,?_⟩;simp only[fw];have U7:=iL hc;exact h6.lr (U7.1 nR w (List.mem_of_getElem? hw)) fun hg=>U7.2 nR (by simp at hg;exact hg.2) w (List.mem_of_getElem? hw)
            ·rw[if_neg vU] at hw;rw[if_neg (by omega)];refine old ?_;have:=ed (aH c.ty t0) b.es (fun q hq=>(Qs q hq).len) i x hx (j - i * aH c.ty t0) (by omega);rw[← hw,← this];congr 1;omega
           ·rw[if_neg hj] at hw;rw[if_neg (by omega)];exact old hw
         ·cases hd
        ·cases hp
      ·cases hp
     ·cases hp
end Go.Abs
end
section
namespace Go.Abs
open Go Go.RowKit
def b9 (E:Env) (w0:World) (σ:St) (a:Act) (ob:List (Nat × Obj)) (x:AV) (r:Result Next):Prop:=
 ∃ v w' β',(r = .ok (.value v) w'∨(v=undef∧r = .ok .skip w'))∧bG E w0 ⟨σ.tm,ob⟩ a w' β'∧VR (aK E w0 ⟨σ.tm,ob⟩ w' β') x v
theorem VR.fC {c:Cx} {b:Bool} {v:Value} (h:VR c (.bool b) v):v = .bool b:=by cases h with | cl h=>cases h;rfl
theorem VR.eE {c:Cx} {k:IntKind} {n:Int} {v:Value} (h:VR c (.int k n) v):v = .int k n:=by cases h with | cl h=>cases h;rfl
theorem VR.mW {c:Cx} {s:ByteArray} {v:Value} (h:VR c (.str s) v):v = .string s:=by cases h with | cl h=>cases h;rfl
section
variable {P:Program} {E:Env} {w0 w:World} {σ:St} {a:Act} {β:Nat→Option Nat} {x:AV} {ob:List (Nat × Obj)} {d:Nat} {o:Oper}
theorem b9.same (h:bG E w0 σ a w β) {v:Value} {x:AV} {r:Result Next} (hr:r = .ok (.value v) w) (hx:VR (aK E w0 σ w β) x v):b9 E w0 σ a σ.ob x r:=
 ⟨v,w,β,.inl hr,h,hx⟩
theorem bT {s:Sem Value} {v:Value} {w':World} (h:s.run P w = .ok v w'):(do pure (Next.value (← s)):Sem Next).run P w = .ok (.value v) w':=by
 rw[Sem.run_bind,h];rfl
theorem ab3 {s:Sem Unit} {w':World} (h:s.run P w = .ok () w'):(do s;pure Next.skip:Sem Next).run P w = .ok .skip w':=by
 show (s >>= fun _=>pure Next.skip).run P w=_;rw[Sem.run_bind,h];rfl
theorem Hc (h:bG E w0 σ a w β) (hG:bj E w0) {y:Operand} (ho:o.op = .move y∨o.op = .assign y) (hr:(av (σ.val E.G y) fun v=>some (v,σ.ob))=some (x,ob)) :
 b9 E w0 σ a ob x ((execOp a.eval o).run P w):=by
 obtain⟨v,h1,h2⟩:=aq hr;injection h2 with h2;injection h2 with h2 h3;subst h2;subst h3
 refine b9.same h (v:=a.eval y) ?_ (bt h hG h1);rcases ho with ho | ho <;> simp[execOp,ho]
theorem Qt (h:bG E w0 σ a w β) (hG:bj E w0) {c y z:Operand} (ho:o.op = .pick c y z) (hr:aZ E d σ (.pick c y z)=some (x,ob)) :
 b9 E w0 σ a ob x ((execOp a.eval o).run P w):=by
 simp only[aZ] at hr;obtain⟨q,h1,h2⟩:=aq hr;have hq:=bt h hG h1;split at h2
 ·rename_i b;have hb:a.eval c = .bool b:=VR.fC hq;have gb:(execOp a.eval o).run P w = .ok (.value (if b then a.eval y else a.eval z)) w:=by
   simp[execOp,ho,hb,asBool]
  split at h2
  ·rename_i e;subst e;obtain⟨v,h3,h4⟩:=aq h2;injection h4 with h4;injection h4 with h4 h5;subst h4;subst h5
   exact b9.same h (by simpa using gb) (bt h hG h3)
  ·rename_i e;simp only[Bool.not_eq_true] at e;subst e;obtain⟨v,h3,h4⟩:=aq h2;injection h4 with h4;injection h4 with h4 h5;subst h4;subst h5
   exact b9.same h (by simpa using gb) (bt h hG h3)
 ·cases h2
theorem Lm (hT:jA P E.ty) (h:bG E w0 σ a w β) {t:TypeId} (ho:o.op = .alloc t) (hr:aZ E d σ (.alloc t)=some (x,ob)) :
 b9 E w0 σ a ob x ((execOp a.eval o).run P w):=by
 simp only[aZ] at hr;split at hr
 ·rename_i T hD;split at hr
  ·rename_i hf;injection hr with hr;injection hr with h1 h2;subst h1;subst h2
   obtain⟨z,hz,hF,_⟩:=jY hT hD w;obtain⟨nR,KU,hm⟩:=(hT t T hD).Ha;obtain⟨hS,_⟩:=h.new hf (b:=⟨.box t,true,[T.zero]⟩) (arr:=z.cells) (e:=t) ⟨T.zero,rfl,(hT t T hD).fy⟩
    (by simp[Obj.bA,bA.du,hm])
    (fun j y hy=>by
      obtain⟨v,h1,h2⟩:=hF.get (j:=j) (x:=y) (by simpa[ay] using hy);exact⟨v,by simpa using h1,.cl (h2 _ _)⟩)
   refine⟨.pointer (some ⟨w.heap.size,0,none⟩),_,_,.inl ?_,hS,.ptr _ _ _ w.heap.size 0 (by simp[aK]) (by simp[ky,fX])⟩;have:(execOp a.eval o)=(do pure (Next.value (← Instr.alloc t true (.tuple #[])))):=by simp[execOp,ho]
   rw[this];refine bT ?_;unfold Instr.alloc;rw[Sem.run_bind,hz];rfl
  ·cases hr
 ·cases hr
theorem U9 (hT:jA P E.ty) (h:bG E w0 σ a w β) (hG:bj E w0) {t:TypeId} {y:Operand} (ho:o.op = .box t y) (hr:aZ E d σ (.box t y)=some (x,ob)) :
 b9 E w0 σ a ob x ((execOp a.eval o).run P w):=by
 simp only[aZ] at hr;obtain⟨v,h1,h2⟩:=aq hr;split at h2
 ·rename_i hf;obtain⟨sA,ajs,jb,U_⟩:=hf;injection h2 with h2;injection h2 with h2 h3;subst h2;subst h3
  have hv:=bt h hG h1;obtain⟨hc,hv1,d_⟩:=oD hT (c:=aK E w0 σ w β) rfl sA hv;obtain⟨_,_,cw⟩:=hv1.all hc ajs;obtain⟨hS,_⟩:=h.new jb (b:=⟨.box t,fresh v,[v]⟩) (arr:=(a.eval y).cells) (e:=t) ⟨v,rfl,hc⟩
   (by simp[Obj.bA,bA.du,U_])
   (fun j z hz=>by
     obtain⟨u,h1,h2⟩:=cw j z (by simpa[ay] using hz);exact⟨u,by simpa using h1,h2⟩)
  refine⟨.pointer (some ⟨w.heap.size,0,none⟩),_,_,.inl ?_,hS,.ptr _ _ _ w.heap.size 0 (by simp[aK]) (by simp[ky,fX])⟩;have:(execOp a.eval o)=(do pure (Next.value (← Instr.box t (a.eval y)))):=by simp[execOp,ho]
  rw[this];refine bT ?_;rfl
 ·cases h2
theorem VR.kF {c:Cx} {o:Nat} {r:RT} {p:List Nat} {v:Value} (h:VR c (.ptr o r p) v):∃ k d,v = .pointer (some ⟨k,d,none⟩)∧c.β o=some k∧ky c.ty r p=some d:=by
 cases h with
 | cl h=>cases h
 | ptr o r p k d h1 h2=>exact⟨k,d,rfl,h1,h2⟩
theorem VR.Be {c:Cx} {fr:Bool} {t:TypeId} {x:AV} {v:Value} (h:VR c (.ro fr t x) v):∃ k d,v = .pointer (some ⟨k,d,none⟩)∧c.okb fr k∧k < c.w.heap.size∧br c.ty t x∧
 ∀ (j:Nat) (z:AV),(leaves x)[j]? = some z→∃ u,c.w.cell? ⟨k,d+j,none⟩=some u∧LR c.ty c.w (c.okb fr) z u:=by
 cases h with
 | cl h=>
   cases h with
   | ro fr t x eQ off vs h1 h2 h3 h4 h5=>exact⟨eQ,off,rfl,h1,h2,h3,fun j z hz=>⟨vs j,h4 j z hz,h5 j z hz⟩⟩
theorem VR.Ln {c:Cx} {fr:Bool} {t:TypeId} {x:AV} {k d:Nat} (h1:c.okb fr k) (h2:k < c.w.heap.size) (h3:br c.ty t x)
 (h4:∀ (j:Nat) (z:AV),(leaves x)[j]? = some z→∃ u,c.w.cell? ⟨k,d+j,none⟩=some u∧LR c.ty c.w (c.okb fr) z u):VR c (.ro fr t x) (.pointer (some ⟨k,d,none⟩)):=by
 obtain⟨us,e1,e2⟩:=eR (leaves x) (fun j z u=>c.w.cell? ⟨k,d+j,none⟩=some u∧LR c.ty c.w (c.okb fr) z u) h4;have hu:∀ (j:Nat) (z:AV),(leaves x)[j]? = some z→us[j]? = some (us.getD j undef):=fun j z hz=>by
  have:j < us.length:=by rw[e1];exact (List.getElem?_eq_some_iff.1 hz).1
  simp[this]
 exact .cl (.ro fr t x k d (fun j=>us.getD j undef) h1 h2 h3 (fun j z hz=>(e2 j z _ hz (hu j z hz)).1) (fun j z hz=>(e2 j z _ hz (hu j z hz)).2))
theorem AR.P9 {c:Cx} {t:TypeId} {y:AV} {v:Value} (hc:br c.ty t y) (h:AR (OR c) y v):mM c y v:=by
 cases y with
 | st u fs=>obtain⟨vs,e,hF⟩:=h;cases hc with | leaf _ _ _ h4=>cases h4 | st h1 h2 h3 h4=>exact⟨vs,e,.st h1 h2 h3 h4,hF⟩
 | ar u es=>obtain⟨vs,e,hF⟩:=h;cases hc with | leaf _ _ _ h4=>cases h4 | ar h1 h2 h3 h4 h5=>exact⟨vs,e,.ar h1 h2 h3 h4 h5,hF⟩
 | cE _=>exact absurd hc br.Bc
 | _=>exact h
theorem AR.mono {R R':AV→Value→Prop} {y:AV} {v:Value} (h:AR R y v) (hr:∀ z u,R z u→R' z u):AR R' y v:=by
 cases y with
 | st u fs=>obtain⟨vs,e,hF⟩:=h;exact⟨vs,e,hF.1,fun i x v hx hv=>hr _ _ (hF.2 i x v hx hv)⟩
 | ar u es=>obtain⟨vs,e,hF⟩:=h;exact⟨vs,e,hF.1,fun i x v hx hv=>hr _ _ (hF.2 i x v hx hv)⟩
 | _=>exact hr _ _ h
theorem AR.re {c:Cx} {fr:Bool} {t:TypeId} {y:AV} {v:Value} (hc:br c.ty t y) (h:AR (LR c.ty c.w (c.okb fr)) y v):mM c (cL fr y) v:=by
 obtain⟨h1,h2⟩:=CW (fr:=fr) hc;refine AR.P9 h1 ?_;have hF:∀ vs:Array Value,F2 (LR c.ty c.w (c.okb fr)) (leaves y) vs.toList→F2 (OR c) (leaves (cL fr y)) vs.toList:=fun vs hF=>by
  rw[h2];refine⟨by simpa using hF.1,fun i x u hx hu=>?_⟩;simp only[List.getElem?_map,Option.map_eq_some_iff] at hx;obtain⟨z,hz,e⟩:=hx;subst e;exact (hF.2 i z u hz hu).re
 cases y with
 | st u fs=>obtain⟨vs,e,h3⟩:=h;exact⟨vs,e,hF vs h3⟩
 | ar u es=>obtain⟨vs,e,h3⟩:=h;exact⟨vs,e,hF vs h3⟩
 | cE _=>exact absurd hc br.Bc
 | _=>exact (Hb (mU rfl)).2 (LR.re h)
theorem mM.vr {c:Cx} {y:AV} {v:Value} (h:mM c y v):VR c y v:=ga h
theorem vw {ty:bX} {t u:TypeId} {y:AV} (hf:fits ty t y=true) (hc:br ty u y):∃ D,ty t=some D∧fv D.k=bq y∧(bq y=true∨t=u):=by
 cases y with
 | st q fs=>
   simp[fits] at hf;subst hf;cases hc with
   | leaf _ _ _ h4=>cases h4
   | st h1 _ _ _=>exact⟨_,h1,rfl,.inr rfl⟩
 | ar q fs=>
   simp[fits] at hf;subst hf;cases hc with
   | leaf _ _ _ h4=>cases h4
   | ar h1 _ _ _ _=>exact⟨_,h1,rfl,.inr rfl⟩
 | cE _=>simp[fits] at hf
 | undef=>simp[fits] at hf
 | _=>
   simp only[fits] at hf;split at hf
   ·rename_i D hD;exact⟨D,hD,by simpa[bq] using hf,.inl rfl⟩
   ·cases hf
theorem pS (hT:jA P E.ty) {t u:TypeId} {y:AV} (hf:fits E.ty t y=true) (hc:br E.ty u y):br E.ty t y:=by
 obtain⟨D,hD,h1,h2⟩:=vw hf hc;rcases h2 with h2 | h2
 ·rw[h2] at h1;exact .leaf hD h1 ((hT t D hD).fy.Tu hD h1) h2
 ·subst h2;exact hc
theorem Qu (hT:jA P E.ty) (h:bG E w0 σ a w β) (hG:bj E w0) {t:TypeId} {y:Operand} (ho:o.op = .load t y) (hr:aZ E d σ (.load t y)=some (x,ob)) :
 b9 E w0 σ a ob x ((execOp a.eval o).run P w):=by
 simp only[aZ] at hr;obtain⟨q,h1,h2⟩:=aq hr;have hq:=bt h hG h1;have dm:(execOp a.eval o)=(do pure (Next.value (← Instr.loadAt t (a.eval y)))):=by simp[execOp,ho]
 split at h2
 ·rename_i o' r p;obtain⟨k,dd,e1,e2,e3⟩:=VR.kF hq;split at h2
  ·rename_i b hb;split at h2
   ·rename_i CF;obtain⟨v,h3,h4⟩:=aq h2;split at h4
    ·rename_i sA;injection h4 with h4;injection h4 with h4 h5;subst h4;subst h5
     subst CF;obtain⟨u,a1,a2,arr,e,a3,a4⟩:=qD (h.gD o' b hb) e2 h3 e3;have a5:=pS hT sA a2;obtain⟨val,r1,r2⟩:=lj hT (w:=w) a5 a4;refine b9.same h (v:=val) ?_ ?_
     ·rw[dm];refine bT ?_;simp[Instr.loadAt,e1,Instr.sureAddr,r1]
     ·refine mM.vr ?_;unfold Obj.seen;unfold fw at r2;cases CF:b.r with
      | box tt=>simp only[CF] at r2;exact AR.P9 a5 r2
      | row tt=>simp only[CF] at r2;exact AR.re a5 r2
      | oQ tt=>simp only[CF] at r2;exact AR.P9 a5 r2
    ·cases h4
   ·cases h2
  ·cases h2
 ·rename_i fr u y';split at h2
  ·rename_i sA;injection h2 with h2;injection h2 with h2 h3;subst h2;subst h3
   obtain⟨k,dd,e1,e2,e3,e4,e5⟩:=VR.Be hq;have a5:=pS hT sA e4;obtain⟨val,r1,r2⟩:=lj hT (w:=w) a5 e5;refine b9.same h (v:=val) ?_ (mM.vr (AR.re a5 r2));rw[dm];refine bT ?_;simp[Instr.loadAt,e1,Instr.sureAddr,r1]
  ·cases h2
 ·cases h2
theorem Lo (hT:jA P E.ty) (h:bG E w0 σ a w β) (hG:bj E w0) {t:TypeId} {y z:Operand} (ho:o.op = .store t y z) (hr:aZ E d σ (.store t y z)=some (x,ob)) :
 b9 E w0 σ a ob x ((execOp a.eval o).run P w):=by
 simp only[aZ] at hr;obtain⟨q,h1,h2⟩:=aq hr;obtain⟨v,h3,h4⟩:=aq h2;have hq:=bt h hG h1;have hv:=bt h hG h3;have dm:(execOp a.eval o)=(do Instr.storeAt t (a.eval y) (a.eval z);pure Next.skip):=by simp[execOp,ho]
 split at h4
 ·rename_i o' r p;obtain⟨k,dd,e1,e2,e3⟩:=VR.kF hq;split at h4
  ·rename_i b hb;split at h4
   ·rename_i CF;obtain⟨c1,c2,c3,c4⟩:=CF;obtain⟨b',h5,h6⟩:=aq h4;injection h6 with h6;injection h6 with h6 h7;subst h6;subst h7
    subst c1;obtain⟨hc,hv1,_⟩:=oD hT (c:=aK E w0 σ w β) rfl c2 hv;obtain⟨cS,Fk,_⟩:=hv1.all hc c3;obtain⟨_,arr,e,g1,g2,g3,g4⟩:=Ju (h.gD o' b hb) e2 h5 e3 c4 hc hv1 c3;obtain⟨hS,_⟩:=h.write (b':=b') (arr':=qC arr dd (a.eval z).cells.toList) hb e2 g1 (by simp) g3 g4;obtain⟨D,hD⟩:=hc.ty;refine⟨undef,_,_,.inr ⟨rfl,?_⟩,hS,.undef _⟩;rw[dm];refine ab3 ?_;simp only[Instr.storeAt,e1,Instr.sureAddr,Sem.run_bind,Sem.run_pure,Result.andThen_ok];exact va hT hD g1 cS g2 Fk
   ·cases h4
  ·cases h4
 ·cases h4
end
end Go.Abs
end
section
namespace Go.Abs
open Go Go.RowKit
theorem br.Lp {ty:bX} {t u:TypeId} {fs:List AV} {ts:List TypeId} {s b:Nat} {z:AV} (h:br ty t (.st u fs)) (hd:ty t=some ⟨.struct ts,s,b,z⟩) :
 u=t∧fs.length=ts.length∧s=(ts.map (aH ty)).sum∧(∀ (i:Nat) (x:AV) (u:TypeId),fs[i]? = some x→ts[i]? = some u→br ty u x):=by
 cases h with
 | leaf _ _ _ h4=>cases h4
 | st h1 h2 h3 h4=>rw[hd] at h1;cases h1;exact⟨rfl,h2,h3,h4⟩
theorem br.Lq {ty:bX} {t u e:TypeId} {es:List AV} {n s b:Nat} {z:AV} (h:br ty t (.ar u es)) (hd:ty t=some ⟨.array n e,s,b,z⟩) :
 u=t∧es.length=n∧s=n * aH ty e∧(∀ x ∈ es,br ty e x)∧(∀ x ∈ es,flat x=true):=by
 cases h with
 | leaf _ _ _ h4=>cases h4
 | ar h1 h2 h3 h4 h5=>rw[hd] at h1;cases h1;exact⟨rfl,h2,h3,h4,h5⟩
theorem zq:∀ (l:List Value) (i off:Nat) (cs:Array Value),(l.zipIdx i).foldl (fun cs (x:Value × Nat)=>cs.setIfInBounds (off+x.2) x.1) cs=qC cs (off+i) l
 | [],i,off,cs=>rfl
 | v::r,i,off,cs=>by
   simp only[List.zipIdx_cons,List.foldl_cons,qC];rw[zq r (i+1) off];rfl
theorem v7 (v off:Nat) (vc cells:Array Value):vc.zipIdx.foldl (fun cs (x:Value × Nat)=>cs.setIfInBounds (off+x.2) x.1) cells=qC cells off vc.toList:=by
 rw[← Array.foldl_toList];simp only[Array.toList_zipIdx];have:=zq vc.toList 0 off cells;simpa using this
section
variable {P:Program} {E:Env} {w0 w:World} {σ:St} {a:Act} {β:Nat→Option Nat} {x:AV} {ob:List (Nat × Obj)} {d:Nat} {o:Oper}
theorem jK (h:bG E w0 σ a w β) (hG:bj E w0):∀ (ps:List (Nat × Operand)) (l:List (Nat × AV)),dq E.G σ ps=some l→
 l.map (·.1)=ps.map (·.1)∧∀ (i:Nat) (q:Nat × AV) (p:Nat × Operand),l[i]? = some q→ps[i]? = some p→VR (aK E w0 σ w β) q.2 (a.eval p.2)
 | [],l,hl=>by simp[dq] at hl;subst hl;simp
 | (i,y)::r,l,hl=>by
   simp only[dq] at hl;obtain⟨v,h1,h2⟩:=aq hl;obtain⟨l',h3,h4⟩:=aq h2;injection h4 with h4;subst h4
   obtain⟨e1,e2⟩:=jK h hG r l' h3;refine⟨by simp[e1],fun j q p hq hp=>?_⟩;cases j with
   | zero=>simp at hq hp;subst hq;subst hp;exact bt h hG h1
   | succ j=>exact e2 j q p (by simpa using hq) (by simpa using hp)
theorem Lr {c:Cx} {fs:List AV} {i off:Nat} {q y:AV} {v:Value} {cells:Array Value} (hF:F2 (OR c) (ay fs) cells.toList) (hq:fs[i]? = some q) (hl:(leaves y).length=(leaves q).length)
 (ho:(ay (fs.take i)).length=off) (hv:F2 (OR c) (leaves y) v.cells.toList) (hle:off+(leaves q).length≤cells.size):F2 (OR c) (ay (fs.set i y)) (qC cells off v.cells.toList).toList:=by
 have bH:=lQ fs i q y off hq hl ho;have Qr:v.cells.toList.length=(leaves q).length:=by rw[← hv.1,hl]
 have hlen:(ay (fs.set i y)).length=cells.size:=by
  obtain⟨h1,h2⟩:=mq fs i q hq;have e1:(ay fs).length=cells.size:=by rw[hF.1];simp
  rw[← e1,h2 y]
  conv=>rhs;rw[h1]
  simp[cr,ay,hl]
 refine⟨by simp[hlen],fun j z u hz hu=>?_⟩;rw[bH j] at hz;have nP:(qC cells off v.cells.toList)[j]? = some u:=by simpa using hu
 rw[mT _ _ _ _ (by rw[Qr];exact hle),Qr] at nP;by_cases hj:off≤j∧j < off+(leaves q).length
 ·rw[if_pos hj] at hz nP;exact hv.2 _ z u hz nP
 ·rw[if_neg hj] at hz nP;exact hF.2 j z u hz (by simpa using nP)
theorem Hd (hT:jA P E.ty) {c:Cx} (hc:c.ty=E.ty) {ts:List TypeId} {place:Nat→Option (Nat × Nat)}
 (hp:∀ (i:Nat) (t:TypeId),ts[i]? = some t→place i=some (((ts.take i).map (aH E.ty)).sum,aH E.ty t)) :
 ∀ (l:List (Nat × AV)) (vs:List (Nat × Value)) (fs gs:List AV) (cells:Array Value),l.map (·.1)=vs.map (·.1)→
   (∀ (i:Nat) (q:Nat × AV) (p:Nat × Value),l[i]? = some q→vs[i]? = some p→VR c q.2 p.2)→kf E.ty ts fs l=some gs→fs.length=ts.length→
   (∀ (i:Nat) (x:AV) (u:TypeId),fs[i]? = some x→ts[i]? = some u→br E.ty u x)→F2 (OR c) (ay fs) cells.toList→
   ∃ dN,Instr.fill place cells vs=some dN∧gs.length=ts.length∧(∀ (i:Nat) (x:AV) (u:TypeId),gs[i]? = some x→ts[i]? = some u→br E.ty u x)∧F2 (OR c) (ay gs) dN.toList
 | [],vs,fs,gs,cells,hm,_,hf,h1,h2,h3=>by
   cases vs with
   | nil=>simp[kf] at hf;subst hf;exact⟨cells,rfl,h1,h2,h3⟩
   | cons _ _=>simp at hm
 | (i,y)::l,vs,fs,gs,cells,hm,hV,hf,h1,h2,h3=>by
   cases vs with
   | nil=>simp at hm
   | cons p vs=>
     obtain⟨i',v⟩:=p;simp only[List.map_cons,List.cons.injEq] at hm;obtain⟨e1,e2⟩:=hm;subst e1;simp only[kf] at hf;split at hf
     ·rename_i t ht;split at hf
      ·rename_i sA;have hv:=hV 0 (i,y) (i,v) rfl rfl;obtain⟨c1,c2,c3⟩:=oD hT hc sA hv;have kh:=c2.cells c3;have hi:i < fs.length:=by rw[h1];exact (List.getElem?_eq_some_iff.1 ht).1
       obtain⟨q,hq⟩:∃ q,fs[i]? = some q:=⟨fs[i],by simp[hi]⟩
       have Va:(leaves q).length=aH E.ty t:=(h2 i q t hq ht).len;have CX:(leaves y).length=aH E.ty t:=c1.len;have ho:=nO fs ts h1 (fun i x u hx hu=>(h2 i x u hx hu).len) i;have cS:v.cells.size=aH E.ty t:=by rw[← CX,kh.1];simp
       have Ls:((ts.take i).map (aH E.ty)).sum+aH E.ty t≤cells.size:=by
        have e3:(ay fs).length=cells.size:=by rw[h3.1];simp
        obtain⟨h5,_⟩:=mq fs i q hq;rw[← e3]
        conv=>rhs;rw[h5]
        simp[cr,ay,Va,ho]
       have mw:=Lr h3 hq (by rw[CX,Va]) ho kh (by rw[Va];exact Ls);obtain⟨dN,f1,f2,f3,f4⟩:=Hd hT hc hp l vs (fs.set i y) gs _ e2 (fun k q p hq hp=>hV (k+1) q p (by simpa using hq) (by simpa using hp)) hf (by simpa using h1)
        (fun k x u hx hu=>by
          rw[List.getElem?_set] at hx;split at hx
          ·rename_i hk;subst hk;injection hx with hx;subst hx
           rw[ht] at hu;injection hu with hu;subst hu;exact c1
          ·exact h2 k x u hx hu) mw
       refine⟨dN,?_,f2,f3,f4⟩;simp only[Instr.fill,hp i t ht];rw[if_neg (by rw[cS];simp only[ne_eq,not_true_eq_false,decide_false,Bool.false_or,decide_eq_true_eq,Nat.not_lt,gt_iff_lt];exact Ls)];rw[v7 0];exact f1
      ·cases hf
     ·cases hf
theorem vz (hT:jA P E.ty) {c:Cx} (hc:c.ty=E.ty) {t:TypeId} {n:Nat} {okE:AV→Bool} {place:Nat→Option (Nat × Nat)}
 (hp:∀ i,place i=some (i * aH E.ty t,aH E.ty t)) :
 ∀ (l:List (Nat × AV)) (vs:List (Nat × Value)) (fs gs:List AV) (cells:Array Value),l.map (·.1)=vs.map (·.1)→
   (∀ (i:Nat) (q:Nat × AV) (p:Nat × Value),l[i]? = some q→vs[i]? = some p→VR c q.2 p.2)→gY E.ty t n okE fs l=some gs→fs.length=n→
   (∀ x ∈ fs,br E.ty t x∧okE x=true)→F2 (OR c) (ay fs) cells.toList→
   ∃ dN,Instr.fill place cells vs=some dN∧gs.length=n∧(∀ x ∈ gs,br E.ty t x∧okE x=true)∧F2 (OR c) (ay gs) dN.toList
 | [],vs,fs,gs,cells,hm,_,hf,h1,h2,h3=>by
   cases vs with
   | nil=>simp[gY] at hf;subst hf;exact⟨cells,rfl,h1,h2,h3⟩
   | cons _ _=>simp at hm
 | (i,y)::l,vs,fs,gs,cells,hm,hV,hf,h1,h2,h3=>by
   cases vs with
   | nil=>simp at hm
   | cons p vs=>
     obtain⟨i',v⟩:=p;simp only[List.map_cons,List.cons.injEq] at hm;obtain⟨e1,e2⟩:=hm;subst e1;simp only[gY] at hf;split at hf
     ·rename_i ab4;obtain⟨de,sA,gU⟩:=ab4;have hv:=hV 0 (i,y) (i,v) rfl rfl;obtain⟨c1,c2,c3⟩:=oD hT hc sA hv;have kh:=c2.cells c3;have hi:i < fs.length:=by omega
      obtain⟨q,hq⟩:∃ q,fs[i]? = some q:=⟨fs[i],by simp[hi]⟩
      have Va:(leaves q).length=aH E.ty t:=(h2 q (List.mem_of_getElem? hq)).1.len;have CX:(leaves y).length=aH E.ty t:=c1.len;have ho:(ay (fs.take i)).length=i * aH E.ty t:=by
       rw[bg (aH E.ty t) _ (fun x hx=>(h2 x (List.mem_of_mem_take hx)).1.len),List.length_take,Nat.min_eq_left (Nat.le_of_lt hi)]
      have cS:v.cells.size=aH E.ty t:=by rw[← CX,kh.1];simp
      have Ls:i * aH E.ty t+aH E.ty t≤cells.size:=by
       have e3:(ay fs).length=cells.size:=by rw[h3.1];simp
       obtain⟨h5,_⟩:=mq fs i q hq;rw[← e3]
       conv=>rhs;rw[h5]
       simp[cr,ay,Va,ho]
      have mw:=Lr h3 hq (by rw[CX,Va]) ho kh (by rw[Va];exact Ls);obtain⟨dN,f1,f2,f3,f4⟩:=vz hT hc hp l vs (fs.set i y) gs _ e2 (fun k q p hq hp=>hV (k+1) q p (by simpa using hq) (by simpa using hp)) hf (by simpa using h1)
       (fun x hx=>by
         rcases lf hx with rfl | hx
         ·exact⟨c1,gU⟩
         ·exact h2 x hx) mw
      refine⟨dN,?_,f2,f3,f4⟩;simp only[Instr.fill,hp i];rw[if_neg (by rw[cS];simp only[ne_eq,not_true_eq_false,decide_false,Bool.false_or,decide_eq_true_eq,Nat.not_lt,gt_iff_lt];exact Ls)];rw[v7 0];exact f1
     ·cases hf
theorem ny (hT:jA P E.ty):∀ (fs:List Field) (w:World),(∀ f ∈ fs,∃ D,E.ty f.type=some D)→
 (fs.mapM fun (f:Field)=>(do pure (f.offset,← Go.sizeOf f.type):Sem (Nat × Nat))).run P w = .ok (fs.map fun f=>(f.offset,aH E.ty f.type)) w
 | [],w,_=>rfl
 | f::r,w,h=>by
   obtain⟨D,hD⟩:=h f (by simp);simp only[List.mapM_cons,Sem.run_bind,cj hT hD,Result.andThen_ok,Sem.run_pure,List.map_cons];rw[ny hT r w (fun g hg=>h g (by simp[hg]))];simp
theorem Lt (hT:jA P E.ty) (lH:∀ t ts s b z,E.ty t=some ⟨.struct ts,s,b,z⟩→∀ u ∈ ts,∃ D,E.ty u=some D) (ajt:∀ t n e s b z,E.ty t=some ⟨.array n e,s,b,z⟩→∃ D,E.ty e=some D) (h:bG E w0 σ a w β) (hG:bj E w0) {t:TypeId} {ps:Array (Nat × Operand)} (ho:o.op = .build t ps)
 (hr:aZ E d σ (.build t ps)=some (x,ob)):b9 E w0 σ a ob x ((execOp a.eval o).run P w):=by
 simp only[aZ] at hr;have dm:(execOp a.eval o)=(do pure (Next.value (← Instr.build t (ps.map fun (i,x)=>(i,a.eval x))))):=by simp[execOp,ho]
 have Lu:∀ l,dq E.G σ ps.toList=some l→l.map (·.1)=((ps.map fun (i,x)=>(i,a.eval x)).toList).map (·.1)∧
  ∀ (i:Nat) (q:Nat × AV) (p:Nat × Value),l[i]? = some q→((ps.map fun (i,x)=>(i,a.eval x)).toList)[i]? = some p→VR (aK E w0 σ w β) q.2 p.2:=fun l hl=>by
  obtain⟨e1,e2⟩:=jK h hG ps.toList l hl;refine⟨by rw[e1];simp[Function.comp_def],fun i q p hq hp=>?_⟩;simp only[Array.toList_map,List.getElem?_map,Option.map_eq_some_iff] at hp;obtain⟨p',bZ,e3⟩:=hp;subst e3;exact e2 i q p' hq bZ
 split at hr
 ·rename_i ts s b t0 fs hD;obtain⟨l,h1,h2⟩:=aq hr;obtain⟨gs,h3,h4⟩:=aq h2;injection h4 with h4;injection h4 with h4 h5;subst h4;subst h5
  obtain⟨z,hz,hF,hag⟩:=jY hT hD w;obtain⟨_,q2,q3,q4⟩:=(hT t _ hD).fy.Lp hD;have hk:=(hT t _ hD).kind;simp only[kindOk] at hk;obtain⟨fields,k1,k2,k3⟩:=hk;obtain⟨p1,p2⟩:=Lu l h1;have Vb:∀ (i:Nat) (u:TypeId),ts[i]? = some u→((fields.map fun f=>(f.offset,aH E.ty f.type))[i]?)=some (((ts.take i).map (aH E.ty)).sum,aH E.ty u):=fun i u hu=>by
   have hi:i < fields.size:=by rw[k2];exact (List.getElem?_eq_some_iff.1 hu).1
   have hf:fields[i]? = some fields[i]:=by simp[hi]
   obtain⟨e1,e2⟩:=k3 i _ hf;rw[hu] at e1;injection e1 with e1
   simp[hi,e2,← e1]
  obtain⟨dN,f1,f2,f3,f4⟩:=Hd hT (c:=aK E w0 σ w β) rfl (place:=fun i=>(fields.map fun f=>(f.offset,aH E.ty f.type))[i]?) Vb l _ fs gs z.cells p1 p2 h3 q2 q4
   ⟨hF.1,fun i x v hx hv=> .cl (hF.2 i x v hx hv _ _)⟩
  refine b9.same h (v:= .agg dN) ?_ (mM.vr ⟨dN,rfl,.st hD f2 q3 f3,by simpa[leaves] using f4⟩);rw[dm];refine bT ?_;unfold Instr.build;simp only[Sem.run_bind,hz,Result.andThen_ok,run_underlying k1];rw[Array.mapM_eq_mapM_toList];simp only[Sem.run_map];rw[ny hT fields.toList w (fun f hf=>by
   obtain⟨i,hi,e⟩:=List.getElem_of_mem hf;have hf':fields[i]? = some f:=by rw[← Array.getElem?_toList,List.getElem?_eq_getElem hi,e]
   exact lH t ts s b _ hD f.type (List.mem_of_getElem? (k3 i f hf').1))]
  simp only[Result.andThen_ok];rw[← Array.toList_map];simp only[Array.toArray_toList];rw[f1];rfl
 ·rename_i n e s b t0 fs hD;obtain⟨l,h1,h2⟩:=aq hr;obtain⟨gs,h3,h4⟩:=aq h2;injection h4 with h4;injection h4 with h4 h5;subst h4;subst h5
  obtain⟨z,hz,hF,hag⟩:=jY hT hD w;have hk:=(hT t _ hD).kind;simp only[kindOk] at hk;obtain⟨_,q2,q3,q4,q5⟩:=(hT t _ hD).fy.Lq hD;obtain⟨p1,p2⟩:=Lu l h1;obtain⟨De,g8⟩:=ajt t n e s b _ hD;obtain⟨dN,f1,f2,f3,f4⟩:=vz hT (c:=aK E w0 σ w β) rfl (t:=e) (okE:=flat) (place:=fun i=>some (i * aH E.ty e,aH E.ty e)) (fun _=>rfl) l _ fs gs z.cells p1 p2 h3 q2 (fun x hx=>⟨q4 x hx,q5 x hx⟩)
   ⟨hF.1,fun i x v hx hv=> .cl (hF.2 i x v hx hv _ _)⟩
  refine b9.same h (v:= .agg dN) ?_ (mM.vr ⟨dN,rfl,.ar hD f2 q3 (fun x hx=>(f3 x hx).1) (fun x hx=>(f3 x hx).2),by simpa[leaves] using f4⟩);rw[dm];refine bT ?_;unfold Instr.build;simp only[Sem.run_bind,hz,Result.andThen_ok,run_underlying hk,cj hT g8];rw[f1];rfl
 ·cases hr
end
end Go.Abs
end
