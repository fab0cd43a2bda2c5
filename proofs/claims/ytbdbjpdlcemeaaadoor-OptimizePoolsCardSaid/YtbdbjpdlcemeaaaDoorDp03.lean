/- Part of the proof of one statement of this seat: an abstract machine for the program, its contracts, and the statement (no condition of our own). -/
import Derived.Test.YtbdbjpdlcemeaaaDoorDp00
import Derived.Test.YtbdbjpdlcemeaaaDoorDp02
set_option linter.unusedSimpArgs false
set_option linter.unusedVariables false
section
namespace Go.Abs
section
variable (E:Env) (H:Nat→Hint) (k:Nat) (σ:St)
theorem ev_seq (a b:Code):arun E H k (.seq a b) σ=then_ (arun E H k a σ) (arun E H k b):=rfl
theorem ev_skip:arun E H k .skip σ=some (.norm,σ):=rfl
def fin (E:Env) (σ':St):Option (AX × St):=some (.norm,endRegion E σ')
theorem ev_fin:fin E σ=some (.norm,⟨kept E.K σ.tm,σ.ob⟩):=rfl
theorem ev_region (id:Nat) (ops:List Oper):arun E H k (.region id ⟨ops⟩ false) σ=obind (aopsM E ops ops (σ.freeze (E.Z id))) (fin E):=rfl
theorem ev_freeze0:σ.freeze []=σ:=rfl
theorem ev_freeze1 (o:Nat) (r:List Nat):σ.freeze (o::r)=(σ.freeze1 o).freeze r:=rfl
theorem ev_draw (id:Nat) (ops:List Oper):arun E H k (.region id ⟨ops⟩ true) σ=obind (adraw E id ops σ) (fin E):=rfl
def kDraw (E:Env) (L:List Oper) (σ:St):Option (List DH × List Nat)→Option St
 | none=>aops E L L σ
 | some (hs,mids)=>if mids.all (fun d=>σ.free d)=true then adops E L hs L σ else none
theorem ev_adraw (id:Nat) (L:List Oper):adraw E id L σ=kDraw E L σ (E.D id):=by
 unfold adraw kDraw;cases E.D id <;> rfl
theorem ev_kDraw0 (L:List Oper):kDraw E L σ none=aops E L L σ:=rfl
theorem ev_kDraw1 (L:List Oper) (hs:List DH) (mids:List Nat):kDraw E L σ (some (hs,mids))=if mids.all (fun d=>σ.free d)=true then adops E L hs L σ else none:=rfl
def kAd (E:Env) (L:List Oper) (hs:List DH) (o:Oper) (r:List Oper) (σ:St) (σ':St):Option St:=if okD E L o (hs.headD dh0) σ σ'=true then adops E L hs.tail r σ' else none
theorem ev_adops_nil (L:List Oper) (hs:List DH):adops E L hs [] σ=some σ:=by cases hs <;> rfl
theorem ev_adops_cons (L:List Oper) (hs:List DH) (o:Oper) (r:List Oper):adops E L hs (o::r) σ=obind (aop E L o σ) (kAd E L hs o r σ):=by cases hs <;> rfl
theorem ev_kAd (L:List Oper) (h:DH) (hs:List DH) (o:Oper) (r:List Oper) (σ':St):kAd E L (h::hs) o r σ σ'=if okD E L o h σ σ'=true then adops E L hs r σ' else none:=rfl
def kCond (E:Env) (H:Nat→Hint) (k:Nat) (a b:Code) (σ:St):AV→Option (AX × St)
 | .bool q=>if q=true then arun E H k a σ else arun E H k b σ
 | _=>none
theorem ev_cond (c:Operand) (a b:Code):arun E H k (.cond c a b) σ=obind (σ.val E.G c) (kCond E H k a b σ):=by
 simp only[arun];rfl
theorem ev_kCond (a b:Code) (q:Bool):kCond E H k a b σ (.bool q)=if q=true then arun E H k a σ else arun E H k b σ:=rfl
theorem ev_block (id:Nat) (c:Code):arun E H k (.block id c) σ=inBlock id (arun E H k c σ):=rfl
theorem ev_exit (id:Nat):arun E H k (.exit id) σ=some (.exit id,σ):=rfl
theorem ev_ret:arun E H k .ret σ=some (.ret,σ):=rfl
theorem ev_loop (c:Code):arun E H k (.loop c) σ=post (H (firstId c)) (aloop E.ty (arun E H k c) (H (firstId c)) k σ):=rfl
theorem ev_aops_nil (ops:List Oper):aops E ops [] σ=some σ:=rfl
theorem ev_aops_cons (ops:List Oper) (o:Oper) (r:List Oper):aops E ops (o::r) σ=obind (aop E ops o σ) (aops E ops r):=rfl
theorem ev_aop (ops:List Oper) (d:Tmp) (op:Op) (t:TypeId) (p:String) (af:Array Edge):aop E ops ⟨some d,op,t,p,af,none⟩ σ=obind (ares E d σ op) (setRes E σ (some d)):=rfl
theorem ev_aop0 (ops:List Oper) (op:Op) (t:TypeId) (p:String) (af:Array Edge):aop E ops ⟨none,op,t,p,af,none⟩ σ=obind (ares E 0 σ op) (setRes E σ none):=rfl
def kGuard (E:Env) (σ:St) (d:Option Tmp) (op:Op) (b:Bool):AV→Option St
 | .bool q=>if q=b then obind (ares E (d.getD 0) σ op) (setRes E σ d) else setRes E σ d (.tup [],σ.ob)
 | .tup []=>setRes E σ d (.tup [],σ.ob)
 | _=>none
theorem ev_aopg (ops:List Oper) (d:Option Tmp) (op:Op) (t:TypeId) (p:String) (af:Array Edge) (j:Nat) (b:Bool) :
 aop E ops ⟨d,op,t,p,af,some (j,b)⟩ σ=obind (dstOf ops j) fun t=>obind (aget t σ.tm) (kGuard E σ d op b):=by
 simp only[aop];cases dstOf ops j with
 | none=>rfl
 | some t=>
   simp only[obind];cases aget t σ.tm with
   | none=>rfl
   | some v=>cases v <;> first | rfl | (rename_i l;cases l <;> rfl)
theorem ev_kGuard_no (d:Tmp) (op:Op) (b:Bool):kGuard E σ (some d) op b (.tup [])=setRes E σ (some d) (.tup [],σ.ob):=rfl
theorem ev_kGuard (d:Tmp) (op:Op) (b q:Bool):kGuard E σ (some d) op b (.bool q)=if q=b then obind (ares E d σ op) (setRes E σ (some d)) else setRes E σ (some d) (.tup [],σ.ob):=rfl
theorem ev_aopsM_nil (ops:List Oper):aopsM E ops [] σ=some σ:=rfl
theorem ev_aopsM_cons (ops:List Oper) (o:Oper) (r:List Oper):aopsM E ops (o::r) σ=obind (aopM E ops o σ) (aopsM E ops r):=rfl
theorem ev_aopM (ops:List Oper) (d:Tmp) (op:Op) (t:TypeId) (p:String) (af:Array Edge):aopM E ops ⟨some d,op,t,p,af,none⟩ σ=obind (aresM E d σ op) (setRes E σ (some d)):=rfl
theorem ev_aopM0 (ops:List Oper) (op:Op) (t:TypeId) (p:String) (af:Array Edge):aopM E ops ⟨none,op,t,p,af,none⟩ σ=obind (aresM E 0 σ op) (setRes E σ none):=rfl
def kGuardM (E:Env) (σ:St) (d:Option Tmp) (op:Op) (b:Bool):AV→Option St
 | .bool q=>if q=b then obind (aresM E (d.getD 0) σ op) (setRes E σ d) else setRes E σ d (.tup [],σ.ob)
 | .tup []=>setRes E σ d (.tup [],σ.ob)
 | _=>none
theorem ev_aopgM (ops:List Oper) (d:Option Tmp) (op:Op) (t:TypeId) (p:String) (af:Array Edge) (j:Nat) (b:Bool) :
 aopM E ops ⟨d,op,t,p,af,some (j,b)⟩ σ=obind (dstOf ops j) fun t=>obind (aget t σ.tm) (kGuardM E σ d op b):=by
 simp only[aopM];cases dstOf ops j with
 | none=>rfl
 | some t=>
   simp only[obind];cases aget t σ.tm with
   | none=>rfl
   | some v=>cases v <;> first | rfl | (rename_i l;cases l <;> rfl)
theorem ev_kGuardM_no (d:Tmp) (op:Op) (b:Bool):kGuardM E σ (some d) op b (.tup [])=setRes E σ (some d) (.tup [],σ.ob):=rfl
theorem ev_kGuardM (d:Tmp) (op:Op) (b q:Bool):kGuardM E σ (some d) op b (.bool q)=if q=b then obind (aresM E d σ op) (setRes E σ (some d)) else setRes E σ (some d) (.tup [],σ.ob):=rfl
theorem ev_setRes (t:Nat) (v:AV) (ob:List (Nat × Obj)):setRes E σ (some t) (v,ob)=if t < E.n then some ⟨(t,v)::adel t σ.tm,ob⟩ else none:=rfl
theorem ev_setRes0 (v:AV) (ob:List (Nat × Obj)):setRes E σ none (v,ob)=some ⟨σ.tm,ob⟩:=rfl
theorem ev_aget {α:Type} (t u:Nat) (v:α) (r:List (Nat × α)):aget t ((u,v)::r)=if u=t then some v else aget t r:=rfl
theorem ev_aget_nil {α:Type} (t:Nat):aget t ([]:List (Nat × α))=none:=rfl
theorem ev_adel {α:Type} (t u:Nat) (v:α) (r:List (Nat × α)):adel t ((u,v)::r)=if u=t then adel t r else (u,v)::adel t r:=rfl
theorem ev_adel_nil {α:Type} (t:Nat):adel t ([]:List (Nat × α))=[]:=rfl
theorem ev_aput {α:Type} (t:Nat) (v:α) (l:List (Nat × α)):aput t v l=(t,v)::adel t l:=rfl
theorem ev_kept {α:Type} (K t:Nat) (v:α) (r:List (Nat × α)):kept K ((t,v)::r)=if inK K t=true then (t,v)::kept K r else kept K r:=rfl
theorem ev_kept_nil {α:Type} (K:Nat):kept K ([]:List (Nat × α))=[]:=rfl
theorem ev_val_tmp (G:Globs) (t:Tmp):σ.val G (.tmp t)=aget t σ.tm:=rfl
theorem ev_val_int (G:Globs) (kk:IntKind) (n:Int):σ.val G (.const (.int kk n))=some (.int kk n):=rfl
theorem ev_val_bool (G:Globs) (b:Bool):σ.val G (.const (.bool b))=some (.bool b):=rfl
theorem ev_val_str (G:Globs) (s:ByteArray):σ.val G (.const (.string s))=some (.str s):=rfl
theorem ev_val_slice (G:Globs):σ.val G (.const (.slice none 0 0))=some (.sl 0 ⟨true,some true,true⟩ []):=rfl
theorem ev_val_ptr (G:Globs):σ.val G (.const (.pointer none))=some .pnil:=rfl
theorem ev_val_fnil (G:Globs):σ.val G (.const .nilFunc)=some .fnil:=rfl
theorem ev_val_func (G:Globs) (f:FuncId):σ.val G (.func f)=some (.fn f []):=rfl
def kGlob:TypeId × AV→Option AV:=fun x=>some (.ro false x.1 x.2)
theorem ev_val_glob (G:Globs) (g:Nat):σ.val G (.global g)=obind (G g) kGlob:=by
 simp only[St.val];cases G g <;> rfl
theorem ev_kGlob (t:TypeId) (x:AV):kGlob (t,x)=some (.ro false t x):=rfl
def kRes (σ:St) (v:AV):Option (AV × List (Nat × Obj)):=some (v,σ.ob)
theorem ev_kRes (v:AV):kRes σ v=some (v,σ.ob):=rfl
variable (d:Nat)
theorem ev_move (x:Operand):ares E d σ (.move x)=obind (σ.val E.G x) (kRes σ):=rfl
theorem ev_assign (x:Operand):ares E d σ (.assign x)=obind (σ.val E.G x) (kRes σ):=rfl
def kPick (E:Env) (σ:St) (a b:Operand):AV→Option (AV × List (Nat × Obj))
 | .bool q=>if q=true then obind (σ.val E.G a) (kRes σ) else obind (σ.val E.G b) (kRes σ)
 | _=>none
theorem ev_pick (c a b:Operand):ares E d σ (.pick c a b)=obind (σ.val E.G c) (kPick E σ a b):=by
 simp only[ares];rfl
theorem ev_kPick (a b:Operand) (q:Bool):kPick E σ a b (.bool q)=if q=true then obind (σ.val E.G a) (kRes σ) else obind (σ.val E.G b) (kRes σ):=rfl
def kAlloc (d:Nat) (t:TypeId) (σ:St) (T:TyD):Option (AV × List (Nat × Obj)):=if σ.free d=true then some (.ptr d (.box t) [],aput d ⟨.box t,true,[T.zero]⟩ σ.ob) else none
theorem ev_alloc (t:TypeId):ares E d σ (.alloc t)=obind (E.ty t) (kAlloc d t σ):=by
 simp only[ares];cases E.ty t <;> rfl
theorem ev_kAlloc (t:TypeId) (kk:TK) (s b:Nat) (z:AV):kAlloc d t σ ⟨kk,s,b,z⟩=if σ.free d=true then some (.ptr d (.box t) [],aput d ⟨.box t,true,[z]⟩ σ.ob) else none:=rfl
def kBox (E:Env) (d:Nat) (t:TypeId) (σ:St) (v:AV):Option (AV × List (Nat × Obj)):=
 if (fits E.ty t v&&(solid v&&(σ.free d&& !ment d v)))=true then some (.ptr d (.box t) [],aput d ⟨.box t,fresh v,[v]⟩ σ.ob) else none
theorem ev_box (t:TypeId) (x:Operand):ares E d σ (.box t x)=obind (σ.val E.G x) (kBox E d t σ):=by
 simp only[ares];congr 1;funext v;simp only[kBox,Bool.and_eq_true,Bool.not_eq_true']
theorem ev_kBox (t:TypeId) (v:AV):kBox E d t σ v=if (fits E.ty t v&&(solid v&&(σ.free d&& !ment d v)))=true then some (.ptr d (.box t) [],aput d ⟨.box t,fresh v,[v]⟩ σ.ob) else none:=rfl
def kLoadB (E:Env) (σ:St) (t:TypeId) (r:RT) (p:List Nat) (b:Obj):Option (AV × List (Nat × Obj)):=
 if b.r=r then obind (b.tree p) fun v=>if fits E.ty t v=true then some (b.seen v,σ.ob) else none else none
def kLoad (E:Env) (σ:St) (t:TypeId):AV→Option (AV × List (Nat × Obj))
 | .ptr o r p=>obind (aget o σ.ob) (kLoadB E σ t r p)
 | .ro fr _ x=>if fits E.ty t x=true then some (reflag fr x,σ.ob) else none
 | _=>none
theorem ev_load (t:TypeId) (x:Operand):ares E d σ (.load t x)=obind (σ.val E.G x) (kLoad E σ t):=by
 simp only[ares];congr 1;funext v;cases v <;> try rfl
 rename_i o r p;simp only[kLoad];cases aget o σ.ob <;> rfl
theorem ev_kLoad (t:TypeId) (o:Nat) (r:RT) (p:List Nat):kLoad E σ t (.ptr o r p)=obind (aget o σ.ob) (kLoadB E σ t r p):=rfl
theorem ev_kLoadR (t u:TypeId) (fr:Bool) (x:AV):kLoad E σ t (.ro fr u x)=if fits E.ty t x=true then some (reflag fr x,σ.ob) else none:=rfl
def kSeen (E:Env) (σ:St) (t:TypeId) (b:Obj) (v:AV):Option (AV × List (Nat × Obj)):=if fits E.ty t v=true then some (b.seen v,σ.ob) else none
theorem ev_kLoadB (t:TypeId) (r r':RT) (p:List Nat) (fr:Bool) (es:List AV):kLoadB E σ t r p ⟨r',fr,es⟩=if r'=r then obind (Obj.tree ⟨r',fr,es⟩ p) (kSeen E σ t ⟨r',fr,es⟩) else none:=rfl
theorem ev_kSeen (t:TypeId) (b:Obj) (v:AV):kSeen E σ t b v=if fits E.ty t v=true then some (b.seen v,σ.ob) else none:=rfl
theorem ev_seen_box (t:TypeId) (fr:Bool) (es:List AV) (v:AV):Obj.seen ⟨.box t,fr,es⟩ v=v:=rfl
theorem ev_seen_row (t:TypeId) (fr:Bool) (es:List AV) (v:AV):Obj.seen ⟨.row t,fr,es⟩ v=reflag fr v:=rfl
theorem ev_seen_rop (t:TypeId) (fr:Bool) (es:List AV) (v:AV):Obj.seen ⟨.rop t,fr,es⟩ v=v:=rfl
theorem ev_tree_box (t:TypeId) (fr:Bool) (x:AV) (p:List Nat):Obj.tree ⟨.box t,fr,[x]⟩ p=tree x p:=rfl
def kTree (p:List Nat) (x:AV):Option AV:=tree x p
theorem ev_kTree (p:List Nat) (x:AV):kTree p x=tree x p:=rfl
theorem ev_tree_rop (t:TypeId) (fr:Bool) (es:List AV) (i:Nat) (p:List Nat):Obj.tree ⟨.rop t,fr,es⟩ (i::p)=obind es[i]? (kTree p):=by
 simp only[Obj.tree];cases es[i]? <;> rfl
theorem ev_tree_row (t:TypeId) (fr:Bool) (es:List AV) (i:Nat) (p:List Nat):Obj.tree ⟨.row t,fr,es⟩ (i::p)=obind es[i]? (kTree p):=by
 simp only[Obj.tree];cases es[i]? <;> rfl
theorem ev_tree_nil (x:AV):tree x []=some x:=by cases x <;> rfl
theorem ev_tree_st (t:TypeId) (fs:List AV) (i:Nat) (p:List Nat):tree (.st t fs) (i::p)=obind fs[i]? (kTree p):=by
 simp only[tree];cases fs[i]? <;> rfl
theorem ev_tree_ar (t:TypeId) (fs:List AV) (i:Nat) (p:List Nat):tree (.ar t fs) (i::p)=obind fs[i]? (kTree p):=by
 simp only[tree];cases fs[i]? <;> rfl
def kStoreB (E:Env) (σ:St) (t:TypeId) (o:Nat) (r:RT) (p:List Nat) (v:AV) (b:Obj):Option (AV × List (Nat × Obj)):=
 if b.r=r∧fits E.ty t v=true∧solid v=true∧r.tyAt E.ty p=some t then obind (b.plant p v) fun c=>some (.undef,aput o c σ.ob) else none
def kStore2 (E:Env) (σ:St) (t:TypeId) (a v:AV):Option (AV × List (Nat × Obj)):=
 match a with
 | .ptr o r p=>obind (aget o σ.ob) (kStoreB E σ t o r p v)
 | _=>none
def kStore (E:Env) (σ:St) (t:TypeId) (x:Operand) (a:AV):Option (AV × List (Nat × Obj)):=obind (σ.val E.G x) (kStore2 E σ t a)
theorem ev_store (t:TypeId) (y x:Operand):ares E d σ (.store t y x)=obind (σ.val E.G y) (kStore E σ t x):=by
 simp only[ares];congr 1;funext a;simp only[kStore];congr 1;funext v;cases a <;> try rfl
 rename_i o r p;simp only[kStore2];cases aget o σ.ob <;> rfl
theorem ev_kStore (t:TypeId) (x:Operand) (a:AV):kStore E σ t x a=obind (σ.val E.G x) (kStore2 E σ t a):=rfl
theorem ev_kStore2 (t:TypeId) (o:Nat) (r:RT) (p:List Nat) (v:AV):kStore2 E σ t (.ptr o r p) v=obind (aget o σ.ob) (kStoreB E σ t o r p v):=rfl
def kPut (o:Nat) (σ:St) (c:Obj):Option (AV × List (Nat × Obj)):=some (.undef,aput o c σ.ob)
theorem ev_kPut (o:Nat) (c:Obj):kPut o σ c=some (.undef,aput o c σ.ob):=rfl
theorem ev_kStoreB (t:TypeId) (o:Nat) (r r':RT) (p:List Nat) (v:AV) (fr:Bool) (es:List AV):kStoreB E σ t o r p v ⟨r',fr,es⟩ =
 if r'=r∧fits E.ty t v=true∧solid v=true∧r.tyAt E.ty p=some t then obind (Obj.plant ⟨r',fr,es⟩ p v) (kPut o σ) else none:=rfl
def kPl (r:RT) (fr:Bool) (z:AV):Option Obj:=some ⟨r,fr,[z]⟩
theorem ev_kPl (r:RT) (fr:Bool) (z:AV):kPl r fr z=some ⟨r,fr,[z]⟩:=rfl
theorem ev_plant_box (t:TypeId) (fr:Bool) (x:AV) (p:List Nat) (v:AV):Obj.plant ⟨.box t,fr,[x]⟩ p v=if (inArray x p&& !flat v)=true then none else obind (plant x p v) (kPl (.box t) (fr&&fresh v)):=by
 simp only[Obj.plant];split
 ·rfl
 ·cases plant x p v <;> rfl
def kPlR (r:RT) (fr:Bool) (es:List AV) (i:Nat) (z:AV):Option Obj:=some ⟨r,fr,es.set i z⟩
theorem ev_kPlR (r:RT) (fr:Bool) (es:List AV) (i:Nat) (z:AV):kPlR r fr es i z=some ⟨r,fr,es.set i z⟩:=rfl
def kPlE (t:TypeId) (fr:Bool) (es:List AV) (i:Nat) (p:List Nat) (v x:AV):Option Obj:=if (inArray x p&& !flat v)=true then none else obind (plant x p v) (kPlR (.row t) (fr&&fresh v) es i)
theorem ev_kPlE (t:TypeId) (fr:Bool) (es:List AV) (i:Nat) (p:List Nat) (v x:AV):kPlE t fr es i p v x=if (inArray x p&& !flat v)=true then none else obind (plant x p v) (kPlR (.row t) (fr&&fresh v) es i):=rfl
theorem ev_plant_row (t:TypeId) (fr:Bool) (es:List AV) (i:Nat) (p:List Nat) (v:AV):Obj.plant ⟨.row t,fr,es⟩ (i::p) v=if closed v=true then obind es[i]? (kPlE t fr es i p v) else none:=by
 simp only[Obj.plant];split
 ·cases es[i]? with
  | none=>rfl
  | some x=>
    simp only[obind,kPlE];split
    ·rfl
    ·cases plant x p v <;> rfl
 ·rfl
theorem ev_plant_nil (x v:AV):plant x [] v=some v:=by cases x <;> rfl
def kSt (t:TypeId) (fs:List AV) (i:Nat) (z:AV):Option AV:=some (.st t (fs.set i z))
theorem ev_kSt (t:TypeId) (fs:List AV) (i:Nat) (z:AV):kSt t fs i z=some (.st t (fs.set i z)):=rfl
def kAr (t:TypeId) (fs:List AV) (i:Nat) (z:AV):Option AV:=some (.ar t (fs.set i z))
theorem ev_kAr (t:TypeId) (fs:List AV) (i:Nat) (z:AV):kAr t fs i z=some (.ar t (fs.set i z)):=rfl
def kPlant (p:List Nat) (v:AV) (g:AV→Option AV) (y:AV):Option AV:=obind (plant y p v) g
theorem ev_kPlant (p:List Nat) (v:AV) (g:AV→Option AV) (y:AV):kPlant p v g y=obind (plant y p v) g:=rfl
theorem ev_plant_st (t:TypeId) (fs:List AV) (i:Nat) (p:List Nat) (v:AV):plant (.st t fs) (i::p) v=obind fs[i]? (kPlant p v (kSt t fs i)):=by
 simp only[plant];cases fs[i]? with
 | none=>rfl
 | some y=>simp only[obind,kPlant];cases plant y p v <;> rfl
theorem ev_plant_ar (t:TypeId) (fs:List AV) (i:Nat) (p:List Nat) (v:AV):plant (.ar t fs) (i::p) v=obind fs[i]? (kPlant p v (kAr t fs i)):=by
 simp only[plant];cases fs[i]? with
 | none=>rfl
 | some y=>simp only[obind,kPlant];cases plant y p v <;> rfl
theorem ev_inArray_nil (x:AV):inArray x []=false:=by cases x <;> rfl
theorem ev_inArray_ar (t:TypeId) (es:List AV) (i:Nat) (p:List Nat):inArray (.ar t es) (i::p)=true:=rfl
theorem ev_inArray_st (t:TypeId) (fs:List AV) (i:Nat) (p:List Nat):inArray (.st t fs) (i::p)=match fs[i]? with | some y=>inArray y p | none=>false:=rfl
def kFld (σ:St) (o:Nat) (r:RT) (p:List Nat) (f:Nat) (T:TyD):Option (AV × List (Nat × Obj)):=
 match T with
 | ⟨.struct ts,_,_,_⟩=>if f < ts.length then some (.ptr o r (p++[f]),σ.ob) else none
 | _=>none
def kFldR (σ:St) (fr:Bool) (fs:List AV) (f:Nat) (T:TyD):Option (AV × List (Nat × Obj)):=
 match T with
 | ⟨.struct ts,_,_,_⟩=>obind ts[f]? fun u=>obind fs[f]? fun y=>some (.ro fr u y,σ.ob)
 | _=>none
def kField (E:Env) (σ:St) (s:TypeId) (f:Nat):AV→Option (AV × List (Nat × Obj))
 | .ptr o r p=>if r.tyAt E.ty p=some s then obind (E.ty s) (kFld σ o r p f) else none
 | .ro fr _ (.st t fs)=>if t=s then obind (E.ty s) (kFldR σ fr fs f) else none
 | _=>none
theorem ev_fieldAddr (s:TypeId) (x:Operand) (f:Nat):ares E d σ (.fieldAddr s x f)=obind (σ.val E.G x) (kField E σ s f):=by
 simp only[ares];congr 1;funext v;cases v <;> try rfl
 ·rename_i fr t x;cases x <;> try rfl
  rename_i t fs;simp only[kField];split
  ·cases hD:E.ty s with
   | none=>rfl
   | some T=>obtain⟨kk,_,_,_⟩:=T;cases kk <;> rfl
  ·rfl
 ·rename_i o r p;simp only[kField];split
  ·cases hD:E.ty s with
   | none=>rfl
   | some T=>obtain⟨kk,_,_,_⟩:=T;cases kk <;> rfl
  ·rfl
theorem ev_kField (s:TypeId) (f o:Nat) (r:RT) (p:List Nat):kField E σ s f (.ptr o r p)=if r.tyAt E.ty p=some s then obind (E.ty s) (kFld σ o r p f) else none:=rfl
theorem ev_kFieldR (s t u:TypeId) (f:Nat) (fr:Bool) (fs:List AV):kField E σ s f (.ro fr u (.st t fs))=if t=s then obind (E.ty s) (kFldR σ fr fs f) else none:=rfl
theorem ev_kFld (o:Nat) (r:RT) (p:List Nat) (f:Nat) (ts:List TypeId) (s b:Nat) (z:AV):kFld σ o r p f ⟨.struct ts,s,b,z⟩=if f < ts.length then some (.ptr o r (p++[f]),σ.ob) else none:=rfl
def kRo (σ:St) (fr:Bool) (u:TypeId) (y:AV):Option (AV × List (Nat × Obj)):=some (.ro fr u y,σ.ob)
theorem ev_kRo (fr:Bool) (u:TypeId) (y:AV):kRo σ fr u y=some (.ro fr u y,σ.ob):=rfl
def kFldR2 (σ:St) (fr:Bool) (fs:List AV) (f:Nat) (u:TypeId):Option (AV × List (Nat × Obj)):=obind fs[f]? (kRo σ fr u)
theorem ev_kFldR2 (fr:Bool) (fs:List AV) (f:Nat) (u:TypeId):kFldR2 σ fr fs f u=obind fs[f]? (kRo σ fr u):=rfl
theorem ev_kFldR (fr:Bool) (fs:List AV) (f:Nat) (ts:List TypeId) (s b:Nat) (z:AV):kFldR σ fr fs f ⟨.struct ts,s,b,z⟩=obind ts[f]? (kFldR2 σ fr fs f):=rfl
def kBin2 (E:Env) (σ:St) (op:BinOp) (t:TypeId) (a b:AV):Option (AV × List (Nat × Obj)):=obind (bin E.ty t op a b) (kRes σ)
def kBin (E:Env) (σ:St) (op:BinOp) (t:TypeId) (y:Operand) (a:AV):Option (AV × List (Nat × Obj)):=obind (σ.val E.G y) (kBin2 E σ op t a)
theorem ev_binOp (op:BinOp) (t u:TypeId) (x y:Operand):ares E d σ (.binOp op t x y u)=obind (σ.val E.G x) (kBin E σ op t y):=rfl
theorem ev_kBin (op:BinOp) (t:TypeId) (y:Operand) (a:AV):kBin E σ op t y a=obind (σ.val E.G y) (kBin2 E σ op t a):=rfl
theorem ev_kBin2 (op:BinOp) (t:TypeId) (a b:AV):kBin2 E σ op t a b=obind (bin E.ty t op a b) (kRes σ):=rfl
def kUn (σ:St) (op:UnOp) (a:AV):Option (AV × List (Nat × Obj)):=obind (una op a) (kRes σ)
theorem ev_unOp (op:UnOp) (t:TypeId) (x:Operand):ares E d σ (.unOp op t x)=obind (σ.val E.G x) (kUn σ op):=rfl
theorem ev_kUn (op:UnOp) (a:AV):kUn σ op a=obind (una op a) (kRes σ):=rfl
theorem ev_not (b:Bool):una .not (.bool b)=some (.bool (!b)):=rfl
theorem ev_comp (kk:IntKind) (n:Int):una .xor (.int kk n)=some (.int kk (bits2 .xor kk (if kk.signed then -1 else kk.max) n)):=rfl
theorem ev_neg (kk:IntKind) (n:Int):una .neg (.int kk n)=some (.int kk (kk.wrap (-n))):=rfl
def kNil (σ:St):AV→Option (AV × List (Nat × Obj))
 | .ptr o r p=>some (.ptr o r p,σ.ob)
 | .ro fr t y=>some (.ro fr t y,σ.ob)
 | _=>none
theorem ev_nilCheck (x:Operand):ares E d σ (.nilCheck x)=obind (σ.val E.G x) (kNil σ):=by
 simp only[ares];congr 1
theorem ev_kNil (o:Nat) (r:RT) (p:List Nat):kNil σ (.ptr o r p)=some (.ptr o r p,σ.ob):=rfl
theorem ev_kNilR (fr:Bool) (t:TypeId) (y:AV):kNil σ (.ro fr t y)=some (.ro fr t y,σ.ob):=rfl
def kExt (σ:St) (i:Nat):AV→Option (AV × List (Nat × Obj))
 | .tup vs=>obind vs[i]? (kRes σ)
 | _=>none
theorem ev_extract (x:Operand) (i:Nat):ares E d σ (.extract x i)=obind (σ.val E.G x) (kExt σ i):=by
 simp only[ares];congr 1;funext v;cases v <;> try rfl
 rename_i vs;simp only[kExt];cases vs[i]? <;> rfl
theorem ev_kExt (i:Nat) (vs:List AV):kExt σ i (.tup vs)=obind vs[i]? (kRes σ):=rfl
end
section
variable (ty:Tys) (t:TypeId)
theorem ev_add (kk:IntKind) (a b:Int):bin ty t .add (.int kk a) (.int kk b)=some (.int kk (kk.wrap (a+b))):=by simp[bin,b2]
theorem ev_sub (kk:IntKind) (a b:Int):bin ty t .sub (.int kk a) (.int kk b)=some (.int kk (kk.wrap (a - b))):=by simp[bin,b2]
theorem ev_mul (kk:IntKind) (a b:Int):bin ty t .mul (.int kk a) (.int kk b)=some (.int kk (kk.wrap (a * b))):=by simp[bin,b2]
theorem ev_eql (kk:IntKind) (a b:Int):bin ty t .eql (.int kk a) (.int kk b)=some (.bool (a==b)):=by simp[bin,b2]
theorem ev_neq (kk:IntKind) (a b:Int):bin ty t .neq (.int kk a) (.int kk b)=some (.bool (!(a==b))):=by simp[bin,b2]
theorem ev_lss (kk:IntKind) (a b:Int):bin ty t .lss (.int kk a) (.int kk b)=some (.bool (decide (a < b))):=by simp[bin,b2]
theorem ev_leq (kk:IntKind) (a b:Int):bin ty t .leq (.int kk a) (.int kk b)=some (.bool (decide (a≤b))):=by simp[bin,b2]
theorem ev_gtr (kk:IntKind) (a b:Int):bin ty t .gtr (.int kk a) (.int kk b)=some (.bool (decide (b < a))):=by simp[bin,b2]
theorem ev_geq (kk:IntKind) (a b:Int):bin ty t .geq (.int kk a) (.int kk b)=some (.bool (decide (b≤a))):=by simp[bin,b2]
theorem ev_and (kk:IntKind) (a b:Int):bin ty t .and (.int kk a) (.int kk b)=some (.int kk (bits2 .and kk a b)):=by simp[bin,b2]
theorem ev_or (kk:IntKind) (a b:Int):bin ty t .or (.int kk a) (.int kk b)=some (.int kk (bits2 .or kk a b)):=by simp[bin,b2]
theorem ev_xor (kk:IntKind) (a b:Int):bin ty t .xor (.int kk a) (.int kk b)=some (.int kk (bits2 .xor kk a b)):=by simp[bin,b2]
theorem ev_andNot (kk:IntKind) (a b:Int):bin ty t .andNot (.int kk a) (.int kk b)=some (.int kk (bits2 .andNot kk a b)):=by simp[bin,b2]
theorem ev_quo (kk:IntKind) (a b:Int):bin ty t .quo (.int kk a) (.int kk b)=if b=0 then none else some (.int kk (kk.wrap (a.tdiv b))):=by simp[bin,b2]
theorem ev_rem (kk:IntKind) (a b:Int):bin ty t .rem (.int kk a) (.int kk b)=if b=0 then none else some (.int kk (a.tmod b)):=by simp[bin,b2]
theorem ev_shl (kk k':IntKind) (a b:Int):bin ty t .shl (.int kk a) (.int k' b)=if b < 0 then none else some (.int kk (shl2 kk a b)):=rfl
theorem ev_shr (kk k':IntKind) (a b:Int):bin ty t .shr (.int kk a) (.int k' b)=if b < 0 then none else some (.int kk (shr2 kk a b)):=rfl
theorem ev_eqb (a b:Bool):bin ty t .eql (.bool a) (.bool b)=if isBool ty t=true then some (.bool (a==b)) else none:=rfl
theorem ev_neb (a b:Bool):bin ty t .neq (.bool a) (.bool b)=if isBool ty t=true then some (.bool (!(a==b))) else none:=rfl
theorem ev_eqs (a b:ByteArray):bin ty t .eql (.str a) (.str b)=some (.bool (a.toList==b.toList)):=rfl
theorem ev_nes (a b:ByteArray):bin ty t .neq (.str a) (.str b)=some (.bool (!(a.toList==b.toList))):=rfl
theorem ev_eqn (u:TypeId) (fr ti f2:Bool) (t2:Bool) (es:List AV) (b:Bool):bin ty t .eql (.sl u ⟨fr,some b,ti⟩ es) (.sl 0 ⟨f2,some true,t2⟩ [])=if isSlice ty t=true then some (.bool b) else none:=rfl
theorem ev_nen (u:TypeId) (fr ti f2:Bool) (t2:Bool) (es:List AV) (b:Bool):bin ty t .neq (.sl u ⟨fr,some b,ti⟩ es) (.sl 0 ⟨f2,some true,t2⟩ [])=if isSlice ty t=true then some (.bool (!b)) else none:=rfl
def isLeafT (ty:Tys) (t:TypeId):Bool:=match ty t with | some d=>isLeaf d.k | none=>false
theorem ev_fits_st (u:TypeId) (fs:List AV):fits ty t (.st u fs)=(u==t):=rfl
theorem ev_fits_ar (u:TypeId) (fs:List AV):fits ty t (.ar u fs)=(u==t):=rfl
theorem ev_fits_int (k:IntKind) (n:Int):fits ty t (.int k n)=isLeafT ty t:=rfl
theorem ev_fits_bool (b:Bool):fits ty t (.bool b)=isLeafT ty t:=rfl
theorem ev_fits_str (b:ByteArray):fits ty t (.str b)=isLeafT ty t:=rfl
theorem ev_fits_sl (u:TypeId) (fl:Fl) (es:List AV):fits ty t (.sl u fl es)=isLeafT ty t:=rfl
theorem ev_fits_own (o:Nat) (u:TypeId) (i n:Nat):fits ty t (.own o u i n)=isLeafT ty t:=rfl
theorem ev_fits_ptr (o:Nat) (r:RT) (p:List Nat):fits ty t (.ptr o r p)=isLeafT ty t:=rfl
theorem ev_fits_ro (fr:Bool) (u:TypeId) (x:AV):fits ty t (.ro fr u x)=isLeafT ty t:=rfl
theorem ev_fits_fn (f:FuncId) (cs:List AV):fits ty t (.fn f cs)=isLeafT ty t:=rfl
theorem ev_fits_pnil:fits ty t .pnil=isLeafT ty t:=rfl
theorem ev_fits_fnil:fits ty t .fnil=isLeafT ty t:=rfl
theorem ev_rt_box (u:TypeId) (p:List Nat):RT.tyAt ty (.box u) p=tyAt ty u p:=rfl
theorem ev_rt_rop (u:TypeId) (i:Nat) (p:List Nat):RT.tyAt ty (.rop u) (i::p)=tyAt ty u p:=rfl
theorem ev_rt_row (u:TypeId) (i:Nat) (p:List Nat):RT.tyAt ty (.row u) (i::p)=tyAt ty u p:=rfl
theorem ev_ty_nil (u:TypeId):tyAt ty u []=some u:=rfl
def kTy (ty:Tys) (i:Nat) (p:List Nat) (T:TyD):Option TypeId:=
 match T with
 | ⟨.struct fs,_,_,_⟩=>obind fs[i]? fun u=>tyAt ty u p
 | ⟨.array _ e,_,_,_⟩=>tyAt ty e p
 | _=>none
def kTyF (ty:Tys) (p:List Nat) (u:TypeId):Option TypeId:=tyAt ty u p
theorem ev_kTyF (p:List Nat) (u:TypeId):kTyF ty p u=tyAt ty u p:=rfl
theorem ev_ty_cons (u:TypeId) (i:Nat) (p:List Nat):tyAt ty u (i::p)=obind (ty u) (kTy ty i p):=by
 simp only[tyAt];cases ty u with
 | none=>rfl
 | some T=>
   obtain⟨kk,_,_,_⟩:=T;cases kk <;> try rfl
   rename_i fs;simp only[obind,kTy];cases fs[i]? <;> rfl
theorem ev_kTy_st (i:Nat) (p:List Nat) (fs:List TypeId) (s b:Nat) (z:AV):kTy ty i p ⟨.struct fs,s,b,z⟩=obind fs[i]? (kTyF ty p):=rfl
theorem ev_kTy_ar (i:Nat) (p:List Nat) (n:Nat) (e:TypeId) (s b:Nat) (z:AV):kTy ty i p ⟨.array n e,s,b,z⟩=tyAt ty e p:=rfl
end
section
variable (E:Env) (σ:St) (d:Nat)
def kIxS (ty:Tys) (σ:St) (e:TypeId) (x ix:AV):Option (AV × List (Nat × Obj)):=
 match x,ix with
 | .own o u off n,.int _ i=>if u=e∧0≤i∧i < n then some (.ptr o (rtOf ty e) [off+i.toNat],σ.ob) else none
 | .sl u fl es,.int _ i=>if u=e∧0≤i then obind es[i.toNat]? (kRo σ fl.fr e) else none
 | _,_=>none
def kIxA (E:Env) (σ:St) (t:TypeId) (n:Nat) (e:TypeId) (x ix:AV):Option (AV × List (Nat × Obj)):=
 match x,ix with
 | .ptr o r p,.int _ i=>if r.tyAt E.ty p=some t∧0≤i∧i < n then some (.ptr o r (p++[i.toNat]),σ.ob) else none
 | .ro fr _ (.ar u es),.int _ i=>if u=t∧0≤i then obind es[i.toNat]? (kRo σ fr e) else none
 | _,_=>none
def kIxS1 (E:Env) (σ:St) (e:TypeId) (ix:Operand) (x:AV):Option (AV × List (Nat × Obj)):=obind (σ.val E.G ix) (kIxS E.ty σ e x)
def kIxA1 (E:Env) (σ:St) (t:TypeId) (n:Nat) (e:TypeId) (ix:Operand) (x:AV):Option (AV × List (Nat × Obj)):=obind (σ.val E.G ix) (kIxA E σ t n e x)
def kIx (E:Env) (σ:St) (t:TypeId) (x ix:Operand) (T:TyD):Option (AV × List (Nat × Obj)):=
 match T with
 | ⟨.slice e,_,_,_⟩=>obind (σ.val E.G x) (kIxS1 E σ e ix)
 | ⟨.array n e,_,_,_⟩=>obind (σ.val E.G x) (kIxA1 E σ t n e ix)
 | _=>none
theorem ev_indexAddr (t:TypeId) (x ix:Operand):ares E d σ (.indexAddr t x ix)=obind (E.ty t) (kIx E σ t x ix):=by
 simp only[ares];cases hD:E.ty t with
 | none=>rfl
 | some T=>
   obtain⟨kk,_,_,_⟩:=T;cases kk <;> rfl
theorem ev_kIx_sl (t:TypeId) (x ix:Operand) (e:TypeId) (s b:Nat) (z:AV):kIx E σ t x ix ⟨.slice e,s,b,z⟩=obind (σ.val E.G x) (kIxS1 E σ e ix):=rfl
theorem ev_kIx_ar (t:TypeId) (x ix:Operand) (n:Nat) (e:TypeId) (s b:Nat) (z:AV):kIx E σ t x ix ⟨.array n e,s,b,z⟩=obind (σ.val E.G x) (kIxA1 E σ t n e ix):=rfl
theorem ev_kIxS1 (e:TypeId) (ix:Operand) (x:AV):kIxS1 E σ e ix x=obind (σ.val E.G ix) (kIxS E.ty σ e x):=rfl
theorem ev_kIxA1 (t:TypeId) (n:Nat) (e:TypeId) (ix:Operand) (x:AV):kIxA1 E σ t n e ix x=obind (σ.val E.G ix) (kIxA E σ t n e x):=rfl
theorem ev_kIxS_own (ty:Tys) (e:TypeId) (o:Nat) (u:TypeId) (off n:Nat) (kk:IntKind) (i:Int):kIxS ty σ e (.own o u off n) (.int kk i)=if u=e∧0≤i∧i < n then some (.ptr o (rtOf ty e) [off+i.toNat],σ.ob) else none:=rfl
theorem ev_kIxS_sl (ty:Tys) (e u:TypeId) (fl:Fl) (es:List AV) (kk:IntKind) (i:Int):kIxS ty σ e (.sl u fl es) (.int kk i)=if u=e∧0≤i then obind es[i.toNat]? (kRo σ fl.fr e) else none:=rfl
theorem ev_kIxA_ptr (t:TypeId) (n:Nat) (e:TypeId) (o:Nat) (r:RT) (p:List Nat) (kk:IntKind) (i:Int):kIxA E σ t n e (.ptr o r p) (.int kk i)=if r.tyAt E.ty p=some t∧0≤i∧i < n then some (.ptr o r (p++[i.toNat]),σ.ob) else none:=rfl
theorem ev_kIxA_ro (t:TypeId) (n:Nat) (e:TypeId) (fr:Bool) (u v:TypeId) (es:List AV) (kk:IntKind) (i:Int):kIxA E σ t n e (.ro fr v (.ar u es)) (.int kk i)=if u=t∧0≤i then obind es[i.toNat]? (kRo σ fr e) else none:=rfl
def kStrIx2 (E:Env) (σ:St) (t:TypeId) (x ix:AV):Option (AV × List (Nat × Obj)):=
 match x,ix with
 | .str s,.int _ i=>if isStr E.ty t=true∧0≤i then obind s[i.toNat]? fun y=>some (.int .u8 y.toNat,σ.ob) else none
 | _,_=>none
def kStrIx (E:Env) (σ:St) (t:TypeId) (ix:Operand) (x:AV):Option (AV × List (Nat × Obj)):=obind (σ.val E.G ix) (kStrIx2 E σ t x)
theorem ev_index (t:TypeId) (x ix:Operand):ares E d σ (.index t x ix)=obind (σ.val E.G x) (kStrIx E σ t ix):=by
 simp only[ares];congr 1
theorem ev_kStrIx (t:TypeId) (ix:Operand) (x:AV):kStrIx E σ t ix x=obind (σ.val E.G ix) (kStrIx2 E σ t x):=rfl
theorem ev_kStrIx2 (t:TypeId) (s:ByteArray) (kk:IntKind) (i:Int):kStrIx2 E σ t (.str s) (.int kk i)=if isStr E.ty t=true∧0≤i then obind s[i.toNat]? fun y=>some (.int .u8 y.toNat,σ.ob) else none:=rfl
theorem ev_vals_nil (G:Globs):vals G σ []=some []:=rfl
def kCons (G:Globs) (σ:St) (r:List Operand) (v:AV):Option (List AV):=obind (vals G σ r) fun l=>some (v::l)
def kCons2 (v:AV) (l:List AV):Option (List AV):=some (v::l)
theorem ev_vals_cons (G:Globs) (x:Operand) (r:List Operand):vals G σ (x::r)=obind (σ.val G x) (kCons G σ r):=rfl
theorem ev_kCons (G:Globs) (r:List Operand) (v:AV):kCons G σ r v=obind (vals G σ r) (kCons2 v):=rfl
theorem ev_kCons2 (v:AV) (l:List AV):kCons2 v l=some (v::l):=rfl
def kBk (σ:St) (az:List AV) (v:AV):Option (AV × List (Nat × Obj)):=if closed.closedL az=true∨newR v=true then some (v,σ.ob) else none
theorem ev_kBk (az:List AV) (v:AV):kBk σ az v=if closed.closedL az=true∨newR v=true then some (v,σ.ob) else none:=rfl
def kCallF (E:Env) (σ:St) (f:FuncId) (az l:List AV):Option (AV × List (Nat × Obj)):=obind (E.C f l) (kBk σ az)
theorem ev_kCallF (f:FuncId) (az l:List AV):kCallF E σ f az l=obind (E.C f l) (kBk σ az):=rfl
def kCall2 (E:Env) (σ:St) (g:AV) (l:List AV):Option (AV × List (Nat × Obj)):=
 match g with
 | .fn f cs=>obind (expo.expoL E.ty σ.ob 30 (l++cs)) (kCallF E σ f (l++cs))
 | _=>none
theorem ev_kCall2 (f:FuncId) (cs l:List AV):kCall2 E σ (.fn f cs) l=obind (expo.expoL E.ty σ.ob 30 (l++cs)) (kCallF E σ f (l++cs)):=rfl
def kCall (E:Env) (σ:St) (az:List Operand) (g:AV):Option (AV × List (Nat × Obj)):=obind (vals E.G σ az) (kCall2 E σ g)
theorem ev_kCall (az:List Operand) (g:AV):kCall E σ az g=obind (vals E.G σ az) (kCall2 E σ g):=rfl
theorem ev_call (g:Operand) (az:List Operand) (ts:Array TypeId):ares E d σ (.call ⟨.value g,⟨az⟩,ts⟩)=if isQ E.Q g=true then obind (vals E.G σ az) (qcall E d σ (fidOf g)) else obind (σ.val E.G g) (kCall E σ az):=by
 simp only[ares];congr 1
def kInt (σ:St) (n:Int):Option (AV × List (Nat × Obj)):=some (.int .i64 n,σ.ob)
theorem ev_kInt (n:Int):kInt σ n=some (.int .i64 n,σ.ob):=rfl
def kLen (E:Env) (σ:St) (ts:List TypeId) (l:List AV):Option (AV × List (Nat × Obj)):=obind (lenOf E.ty ts l) (kInt σ)
theorem ev_len (az:List Operand) (ts:List TypeId):ares E d σ (.call ⟨.builtin .len,⟨az⟩,⟨ts⟩⟩)=obind (vals E.G σ az) (kLen E σ ts):=by
 simp only[ares];congr 1
theorem ev_kLen (ts:List TypeId) (l:List AV):kLen E σ ts l=obind (lenOf E.ty ts l) (kInt σ):=rfl
theorem ev_lenOf_sl (ty:Tys) (t u:TypeId) (fl:Fl) (es:List AV):lenOf ty [t] [.sl u fl es]=if isSlice ty t=true then some (es.length:Int) else none:=rfl
theorem ev_lenOf_own (ty:Tys) (t u:TypeId) (o i n:Nat):lenOf ty [t] [.own o u i n]=if isSlice ty t=true then some (n:Int) else none:=rfl
theorem ev_lenOf_str (ty:Tys) (t:TypeId) (s:ByteArray):lenOf ty [t] [.str s]=if isStr ty t=true then some (s.size:Int) else none:=rfl
section
variable (ty:Tys) (ob:List (Nat × Obj)) (k:Nat)
theorem ev_expoL_nil:expo.expoL ty ob (k+1) []=some []:=rfl
def kExp (ty:Tys) (ob:List (Nat × Obj)) (k:Nat) (r:List AV) (y:AV):Option (List AV):=obind (expo.expoL ty ob k r) (kCons2 y)
theorem ev_kExp (r:List AV) (y:AV):kExp ty ob k r y=obind (expo.expoL ty ob k r) (kCons2 y):=rfl
theorem ev_expoL_cons (x:AV) (r:List AV):expo.expoL ty ob (k+1) (x::r)=obind (expo ty ob k x) (kExp ty ob k r):=rfl
theorem ev_expo_int (kk:IntKind) (n:Int):expo ty ob (k+1) (.int kk n)=some (.int kk n):=rfl
theorem ev_expo_bool (b:Bool):expo ty ob (k+1) (.bool b)=some (.bool b):=rfl
theorem ev_expo_str (s:ByteArray):expo ty ob (k+1) (.str s)=some (.str s):=rfl
theorem ev_expo_pnil:expo ty ob (k+1) .pnil=some .pnil:=rfl
theorem ev_expo_fnil:expo ty ob (k+1) .fnil=some .fnil:=rfl
theorem ev_expo_ar (t:TypeId) (es:List AV):expo ty ob (k+1) (.ar t es)=some (.ar t es):=rfl
theorem ev_expo_sl (t:TypeId) (fl:Fl) (es:List AV):expo ty ob (k+1) (.sl t fl es)=some (.sl t ⟨false,none,false⟩ es):=rfl
theorem ev_expo_ro (fr:Bool) (t:TypeId) (x:AV):expo ty ob (k+1) (.ro fr t x)=some (.ro false t x):=rfl
def kStE (t:TypeId) (gs:List AV):Option AV:=some (.st t gs)
theorem ev_kStE (t:TypeId) (gs:List AV):kStE t gs=some (.st t gs):=rfl
theorem ev_expo_st (t:TypeId) (fs:List AV):expo ty ob (k+1) (.st t fs)=obind (expo.expoL ty ob k fs) (kStE t):=rfl
def kFnE (f:FuncId) (gs:List AV):Option AV:=some (.fn f gs)
theorem ev_kFnE (f:FuncId) (gs:List AV):kFnE f gs=some (.fn f gs):=rfl
theorem ev_expo_fn (f:FuncId) (fs:List AV):expo ty ob (k+1) (.fn f fs)=obind (expo.expoL ty ob k fs) (kFnE f):=rfl
def kOwnE (t:TypeId) (i n:Nat):Obj→Option AV
 | ⟨.row u,_,es⟩=>if t=u∧i+n≤es.length then some (.sl t ⟨false,none,false⟩ (if i=0∧n=es.length then es else (es.drop i).take n)) else none
 | _=>none
theorem ev_expo_own (o:Nat) (t:TypeId) (i n:Nat):expo ty ob (k+1) (.own o t i n)=obind (aget o ob) (kOwnE t i n):=by
 simp only[expo];cases aget o ob with
 | none=>rfl
 | some b=>obtain⟨r,f,es⟩:=b;cases r <;> rfl
theorem ev_kOwnE (t:TypeId) (i n:Nat) (u:TypeId) (fr:Bool) (es:List AV):kOwnE t i n ⟨.row u,fr,es⟩=if t=u∧i+n≤es.length then some (.sl t ⟨false,none,false⟩ (if i=0∧n=es.length then es else (es.drop i).take n)) else none:=rfl
def kRoE (u:TypeId) (y:AV):Option AV:=some (.ro false u y)
theorem ev_kRoE (u:TypeId) (y:AV):kRoE u y=some (.ro false u y):=rfl
def kPtrT (ty:Tys) (ob:List (Nat × Obj)) (k:Nat) (x:AV) (u:TypeId):Option AV:=obind (expo ty ob k x) (kRoE u)
theorem ev_kPtrT (x:AV) (u:TypeId):kPtrT ty ob k x u=obind (expo ty ob k x) (kRoE u):=rfl
def kPtrX (ty:Tys) (ob:List (Nat × Obj)) (k:Nat) (r:RT) (p:List Nat) (x:AV):Option AV:=obind (r.tyAt ty p) (kPtrT ty ob k x)
theorem ev_kPtrX (r:RT) (p:List Nat) (x:AV):kPtrX ty ob k r p x=obind (r.tyAt ty p) (kPtrT ty ob k x):=rfl
def kPtrE (ty:Tys) (ob:List (Nat × Obj)) (k:Nat) (r:RT) (p:List Nat) (b:Obj):Option AV:=if b.r=r then obind (b.tree p) (kPtrX ty ob k r p) else none
theorem ev_kPtrE (r r':RT) (p:List Nat) (fr:Bool) (es:List AV):kPtrE ty ob k r p ⟨r',fr,es⟩=if r'=r then obind (Obj.tree ⟨r',fr,es⟩ p) (kPtrX ty ob k r p) else none:=rfl
theorem ev_expo_ptr (o:Nat) (r:RT) (p:List Nat):expo ty ob (k+1) (.ptr o r p)=obind (aget o ob) (kPtrE ty ob k r p):=by
 simp only[expo];cases aget o ob with
 | none=>rfl
 | some b=>
   simp only[obind,kPtrE];split
   ·cases b.tree p with
    | none=>rfl
    | some x=>simp only[kPtrX];cases r.tyAt ty p <;> rfl
   ·rfl
end
def kParts2 (i:Nat) (v:AV) (l:List (Nat × AV)):Option (List (Nat × AV)):=some ((i,v)::l)
theorem ev_kParts2 (i:Nat) (v:AV) (l:List (Nat × AV)):kParts2 i v l=some ((i,v)::l):=rfl
def kParts (G:Globs) (σ:St) (i:Nat) (r:List (Nat × Operand)) (v:AV):Option (List (Nat × AV)):=obind (mkParts G σ r) (kParts2 i v)
theorem ev_kParts (G:Globs) (i:Nat) (r:List (Nat × Operand)) (v:AV):kParts G σ i r v=obind (mkParts G σ r) (kParts2 i v):=rfl
theorem ev_parts_nil (G:Globs):mkParts G σ []=some []:=rfl
theorem ev_parts_cons (G:Globs) (i:Nat) (x:Operand) (r:List (Nat × Operand)):mkParts G σ ((i,x)::r)=obind (σ.val G x) (kParts G σ i r):=rfl
def kFillS (ty:Tys) (ts:List TypeId) (fs:List AV) (i:Nat) (v:AV) (r:List (Nat × AV)) (t:TypeId):Option (List AV):=if fits ty t v=true then fillSt ty ts (fs.set i v) r else none
theorem ev_kFillS (ty:Tys) (ts:List TypeId) (fs:List AV) (i:Nat) (v:AV) (r:List (Nat × AV)) (t:TypeId):kFillS ty ts fs i v r t=if fits ty t v=true then fillSt ty ts (fs.set i v) r else none:=rfl
theorem ev_fillSt_nil (ty:Tys) (ts:List TypeId) (fs:List AV):fillSt ty ts fs []=some fs:=rfl
theorem ev_fillSt_cons (ty:Tys) (ts:List TypeId) (fs:List AV) (i:Nat) (v:AV) (r:List (Nat × AV)):fillSt ty ts fs ((i,v)::r)=obind ts[i]? (kFillS ty ts fs i v r):=by
 simp only[fillSt];cases ts[i]? <;> rfl
theorem ev_fillAr_nil (ty:Tys) (t:TypeId) (n:Nat) (f:AV→Bool) (fs:List AV):fillAr ty t n f fs []=some fs:=rfl
theorem ev_fillAr_cons (ty:Tys) (t:TypeId) (n:Nat) (f:AV→Bool) (fs:List AV) (i:Nat) (v:AV) (r:List (Nat × AV)):fillAr ty t n f fs ((i,v)::r)=if i < n∧fits ty t v=true∧f v=true then fillAr ty t n f (fs.set i v) r else none:=rfl
def kStB (σ:St) (t:TypeId) (gs:List AV):Option (AV × List (Nat × Obj)):=some (.st t gs,σ.ob)
theorem ev_kStB (t:TypeId) (gs:List AV):kStB σ t gs=some (.st t gs,σ.ob):=rfl
def kArB (σ:St) (t:TypeId) (gs:List AV):Option (AV × List (Nat × Obj)):=some (.ar t gs,σ.ob)
theorem ev_kArB (t:TypeId) (gs:List AV):kArB σ t gs=some (.ar t gs,σ.ob):=rfl
def kBldS (E:Env) (σ:St) (t:TypeId) (ts:List TypeId) (fs:List AV) (l:List (Nat × AV)):Option (AV × List (Nat × Obj)):=obind (fillSt E.ty ts fs l) (kStB σ t)
theorem ev_kBldS (t:TypeId) (ts:List TypeId) (fs:List AV) (l:List (Nat × AV)):kBldS E σ t ts fs l=obind (fillSt E.ty ts fs l) (kStB σ t):=rfl
def kBldA (E:Env) (σ:St) (t:TypeId) (n:Nat) (e:TypeId) (fs:List AV) (l:List (Nat × AV)):Option (AV × List (Nat × Obj)):=obind (fillAr E.ty e n flat fs l) (kArB σ t)
theorem ev_kBldA (t:TypeId) (n:Nat) (e:TypeId) (fs:List AV) (l:List (Nat × AV)):kBldA E σ t n e fs l=obind (fillAr E.ty e n flat fs l) (kArB σ t):=rfl
def kBld (E:Env) (σ:St) (t:TypeId) (ps:List (Nat × Operand)) (T:TyD):Option (AV × List (Nat × Obj)):=
 match T with
 | ⟨.struct ts,_,_,.st _ fs⟩=>obind (mkParts E.G σ ps) (kBldS E σ t ts fs)
 | ⟨.array n e,_,_,.ar _ fs⟩=>obind (mkParts E.G σ ps) (kBldA E σ t n e fs)
 | _=>none
theorem ev_build (t:TypeId) (ps:List (Nat × Operand)):ares E d σ (.build t ⟨ps⟩)=obind (E.ty t) (kBld E σ t ps):=by
 simp only[ares];cases hD:E.ty t with
 | none=>rfl
 | some T=>obtain⟨kk,_,_,z⟩:=T;cases kk <;> cases z <;> rfl
theorem ev_kBld_st (t:TypeId) (ps:List (Nat × Operand)) (ts:List TypeId) (s b:Nat) (u:TypeId) (fs:List AV):kBld E σ t ps ⟨.struct ts,s,b,.st u fs⟩=obind (mkParts E.G σ ps) (kBldS E σ t ts fs):=rfl
theorem ev_kBld_ar (t:TypeId) (ps:List (Nat × Operand)) (n:Nat) (e:TypeId) (s b:Nat) (u:TypeId) (fs:List AV):kBld E σ t ps ⟨.array n e,s,b,.ar u fs⟩=obind (mkParts E.G σ ps) (kBldA E σ t n e fs):=rfl
def kMk3 (E:Env) (d:Nat) (σ:St) (e:TypeId) (T:TyD) (n m:AV):Option (AV × List (Nat × Obj)):=
 match n,m with
 | .int .i64 n,.int .i64 m=>if n=m∧0≤n∧n * T.bytes≤140737488355328∧0 < T.size∧0 < T.bytes∧σ.free d=true then some (.own d e 0 n.toNat,aput d ⟨.row e,true,List.replicate n.toNat T.zero⟩ σ.ob) else none
 | _,_=>none
def kMk2 (E:Env) (d:Nat) (σ:St) (e:TypeId) (T:TyD) (y:Operand) (n:AV):Option (AV × List (Nat × Obj)):=obind (σ.val E.G y) (kMk3 E d σ e T n)
def kMk1 (E:Env) (d:Nat) (σ:St) (e:TypeId) (x y:Operand) (T:TyD):Option (AV × List (Nat × Obj)):=obind (σ.val E.G x) (kMk2 E d σ e T y)
def kMk (E:Env) (d:Nat) (σ:St) (x y:Operand) (T:TyD):Option (AV × List (Nat × Obj)):=
 match T with
 | ⟨.slice e,_,_,_⟩=>obind (E.ty e) (kMk1 E d σ e x y)
 | _=>none
theorem ev_makeSlice (t:TypeId) (x y:Operand):ares E d σ (.makeSlice t x y)=obind (E.ty t) (kMk E d σ x y):=by
 simp only[ares];cases hD:E.ty t with
 | none=>rfl
 | some T=>
   obtain⟨kk,_,_,z⟩:=T;cases kk <;> try rfl
   rename_i e;simp only[obind,kMk];cases E.ty e with
   | none=>rfl
   | some T=>
     simp only[kMk1,obind];cases σ.val E.G x with
     | none=>rfl
     | some a=>
       simp only[kMk2,obind];cases σ.val E.G y with
       | none=>rfl
       | some b=>rfl
theorem ev_kMk (x y:Operand) (e:TypeId) (s b:Nat) (z:AV):kMk E d σ x y ⟨.slice e,s,b,z⟩=obind (E.ty e) (kMk1 E d σ e x y):=rfl
theorem ev_kMk1 (e:TypeId) (x y:Operand) (T:TyD):kMk1 E d σ e x y T=obind (σ.val E.G x) (kMk2 E d σ e T y):=rfl
theorem ev_kMk2 (e:TypeId) (T:TyD) (y:Operand) (n:AV):kMk2 E d σ e T y n=obind (σ.val E.G y) (kMk3 E d σ e T n):=rfl
theorem ev_kMk3 (e:TypeId) (kk:TK) (s b:Nat) (z:AV) (n m:Int):kMk3 E d σ e ⟨kk,s,b,z⟩ (.int .i64 n) (.int .i64 m) =
 if n=m∧0≤n∧n * b≤140737488355328∧0 < s∧0 < b∧σ.free d=true then some (.own d e 0 n.toNat,aput d ⟨.row e,true,List.replicate n.toNat z⟩ σ.ob) else none:=rfl
end
section
variable (E:Env) (d:Nat) (σ:St)
theorem ev_M_move (x:Operand):aresM E d σ (.move x)=ares E d σ (.move x):=rfl
theorem ev_M_assign (x:Operand):aresM E d σ (.assign x)=ares E d σ (.assign x):=rfl
theorem ev_M_pick (c x y:Operand):aresM E d σ (.pick c x y)=ares E d σ (.pick c x y):=rfl
theorem ev_M_alloc (t:TypeId):aresM E d σ (.alloc t)=ares E d σ (.alloc t):=rfl
theorem ev_M_box (t:TypeId) (x:Operand):aresM E d σ (.box t x)=ares E d σ (.box t x):=rfl
theorem ev_M_build (t:TypeId) (ps:Array (Nat × Operand)):aresM E d σ (.build t ps)=ares E d σ (.build t ps):=rfl
theorem ev_M_buildSlice (t:TypeId) (n:Nat) (ps:Array (Nat × Operand)):aresM E d σ (.buildSlice t n ps)=ares E d σ (.buildSlice t n ps):=rfl
theorem ev_M_makeSlice (t:TypeId) (x y:Operand):aresM E d σ (.makeSlice t x y)=ares E d σ (.makeSlice t x y):=rfl
theorem ev_M_load (t:TypeId) (x:Operand):aresM E d σ (.load t x)=ares E d σ (.load t x):=rfl
theorem ev_M_store (t:TypeId) (x y:Operand):aresM E d σ (.store t x y)=ares E d σ (.store t x y):=rfl
theorem ev_M_fieldAddr (s:TypeId) (x:Operand) (f:Nat):aresM E d σ (.fieldAddr s x f)=ares E d σ (.fieldAddr s x f):=rfl
theorem ev_M_field (s:TypeId) (x:Operand) (f:Nat):aresM E d σ (.field s x f)=ares E d σ (.field s x f):=rfl
theorem ev_M_binOp (op:BinOp) (t:TypeId) (x y:Operand) (u:TypeId):aresM E d σ (.binOp op t x y u)=ares E d σ (.binOp op t x y u):=rfl
theorem ev_M_unOp (op:UnOp) (t:TypeId) (x:Operand):aresM E d σ (.unOp op t x)=ares E d σ (.unOp op t x):=rfl
theorem ev_M_nilCheck (x:Operand):aresM E d σ (.nilCheck x)=ares E d σ (.nilCheck x):=rfl
theorem ev_M_extract (x:Operand) (i:Nat):aresM E d σ (.extract x i)=ares E d σ (.extract x i):=rfl
theorem ev_M_indexAddr (t:TypeId) (x y:Operand):aresM E d σ (.indexAddr t x y)=ares E d σ (.indexAddr t x y):=rfl
theorem ev_M_index (t:TypeId) (x y:Operand):aresM E d σ (.index t x y)=ares E d σ (.index t x y):=rfl
theorem ev_M_convert (s t:TypeId) (x:Operand):aresM E d σ (.convert s t x)=ares E d σ (.convert s t x):=rfl
theorem ev_M_makeFunc (f:Fn) (x c:Array Operand):aresM E d σ (.makeFunc f x c)=ares E d σ (.makeFunc f x c):=rfl
theorem ev_M_slice (t:TypeId) (x:Operand) (lo hi mx:Option Operand):aresM E d σ (.slice t x lo hi mx)=ares E d σ (.slice t x lo hi mx):=rfl
theorem ev_M_len (az ts:_):aresM E d σ (.call ⟨.builtin .len,az,ts⟩)=ares E d σ (.call ⟨.builtin .len,az,ts⟩):=rfl
theorem ev_M_append (az ts:_):aresM E d σ (.call ⟨.builtin .append,az,ts⟩)=ares E d σ (.call ⟨.builtin .append,az,ts⟩):=rfl
theorem ev_M_max (az ts:_):aresM E d σ (.call ⟨.builtin .max,az,ts⟩)=ares E d σ (.call ⟨.builtin .max,az,ts⟩):=rfl
def kCallM (E:Env) (d:Nat) (σ:St) (g:Operand) (az:List Operand):AV→Option (AV × List (Nat × Obj))
 | .fn f cs=>if E.W f=true then obind (vals E.G σ az) fun l=>mcall E d σ f (l++cs) else if isQ E.Q g=true then obind (vals E.G σ az) (qcall E d σ (fidOf g)) else obind (vals E.G σ az) (kCall2 E σ (.fn f cs))
 | _=>none
theorem ev_kCallM (g:Operand) (az:List Operand) (f:FuncId) (cs:List AV):kCallM E d σ g az (.fn f cs)=if E.W f=true then obind (vals E.G σ az) (fun l=>mcall E d σ f (l++cs)) else if isQ E.Q g=true then obind (vals E.G σ az) (qcall E d σ (fidOf g)) else obind (vals E.G σ az) (kCall2 E σ (.fn f cs)):=rfl
theorem ev_callM (g:Operand) (az:List Operand) (ts:Array TypeId):aresM E d σ (.call ⟨.value g,⟨az⟩,ts⟩)=obind (σ.val E.G g) (kCallM E d σ g az):=by
 simp only[aresM];cases hg:σ.val E.G g with
 | none=>rfl
 | some v=>
   simp only[obind];cases v <;> try rfl
   simp only[kCallM];split
   ·rfl
   ·rw[ev_call,hg];rfl
theorem ev_isQ_func (Q:FuncId→Bool) (f:FuncId):isQ Q (.func f)=Q f:=rfl
theorem ev_isQ_tmp (Q:FuncId→Bool) (t:Tmp):isQ Q (.tmp t)=false:=rfl
theorem ev_fidOf (f:FuncId):fidOf (.func f)=f:=rfl
def kClr (E:Env) (σ:St) (ts:List TypeId):List AV→Option (AV × List (Nat × Obj))
 | [x]=>match ts with | [t]=>clr E σ t x | _=>none
 | _=>none
theorem ev_kClr (t:TypeId) (x:AV):kClr E σ [t] [x]=clr E σ t x:=rfl
theorem ev_clear (az:List Operand) (ts:List TypeId):aresM E d σ (.call ⟨.builtin .clear,⟨az⟩,⟨ts⟩⟩)=obind (vals E.G σ az) (kClr E σ ts):=by
 simp only[aresM];cases vals E.G σ az with
 | none=>rfl
 | some l=>
   simp only[obind]
   match l,ts with
   | [],_=>rfl
   | [_],[]=>rfl
   | [_],[_]=>rfl
   | [_],_::_::_=>rfl
   | _::_::_,_=>rfl
def kClrR (o u off n:Nat) (e sz:Nat) (z:AV) (ob:List (Nat × Obj)):Obj→Option (AV × List (Nat × Obj))
 | ⟨.row v,fr,es⟩=>if u=e∧v=e∧off+n≤es.length∧0 < sz then some (.undef,aput o ⟨.row v,fr,es.take off++(List.replicate n z++es.drop (off+n))⟩ ob) else none
 | _=>none
theorem ev_kClrR (o u off n e sz:Nat) (z:AV) (ob:List (Nat × Obj)) (v:TypeId) (fr:Bool) (es:List AV):kClrR o u off n e sz z ob ⟨.row v,fr,es⟩ =
 if u=e∧v=e∧off+n≤es.length∧0 < sz then some (.undef,aput o ⟨.row v,fr,es.take off++(List.replicate n z++es.drop (off+n))⟩ ob) else none:=rfl
def kClr2 (σ:St) (e:TypeId) (x:AV) (T:TyD):Option (AV × List (Nat × Obj)):=match x with
 | .own o u off n=>obind (aget o σ.ob) (kClrR o u off n e T.size T.zero σ.ob)
 | .sl _ _ []=>some (.undef,σ.ob)
 | _=>none
theorem ev_kClr2_own (e:TypeId) (o u off n:Nat) (kk:TK) (sz b:Nat) (z:AV):kClr2 σ e (.own o u off n) ⟨kk,sz,b,z⟩=obind (aget o σ.ob) (kClrR o u off n e sz z σ.ob):=rfl
theorem ev_kClr2_sl (e:TypeId) (u:TypeId) (fl:Fl) (T:TyD):kClr2 σ e (.sl u fl []) T=some (.undef,σ.ob):=rfl
def kClr1 (E:Env) (σ:St) (x:AV):TyD→Option (AV × List (Nat × Obj))
 | ⟨.slice e,_,_,_⟩=>obind (E.ty e) (kClr2 σ e x)
 | _=>none
theorem ev_kClr1 (x:AV) (e sz b:Nat) (z:AV):kClr1 E σ x ⟨.slice e,sz,b,z⟩=obind (E.ty e) (kClr2 σ e x):=rfl
theorem ev_clr (t:TypeId) (x:AV):clr E σ t x=obind (E.ty t) (kClr1 E σ x):=by
 simp only[clr];cases E.ty t with
 | none=>rfl
 | some T=>
   obtain⟨kk,_,_,z⟩:=T;cases kk <;> rfl
end
end Go.Abs
end
section
namespace Go.Abs
open Go
section
variable (ty:Tys) (ob:List (Nat × Obj)) (k:Nat)
theorem ev_hand_int (kk:IntKind) (n:Int):hand ty ob (k+1) (.int kk n)=some (.int kk n):=rfl
theorem ev_hand_bool (b:Bool):hand ty ob (k+1) (.bool b)=some (.bool b):=rfl
theorem ev_hand_str (s:ByteArray):hand ty ob (k+1) (.str s)=some (.str s):=rfl
theorem ev_hand_pnil:hand ty ob (k+1) .pnil=some .pnil:=rfl
theorem ev_hand_fnil:hand ty ob (k+1) .fnil=some .fnil:=rfl
theorem ev_hand_ar (t:TypeId) (es:List AV):hand ty ob (k+1) (.ar t es)=some (.ar t es):=rfl
theorem ev_hand_sl (t:TypeId) (fl:Fl) (es:List AV):hand ty ob (k+1) (.sl t fl es)=some (.sl t fl es):=rfl
theorem ev_hand_ro (fr:Bool) (t:TypeId) (x:AV):hand ty ob (k+1) (.ro fr t x)=some (.ro fr t x):=rfl
theorem ev_hand_st (t:TypeId) (fs:List AV):hand ty ob (k+1) (.st t fs)=obind (hand.handL ty ob k fs) (kStE t):=rfl
theorem ev_handL_nil:hand.handL ty ob (k+1) []=some []:=rfl
def kHnd (ty:Tys) (ob:List (Nat × Obj)) (k:Nat) (r:List AV) (y:AV):Option (List AV):=obind (hand.handL ty ob k r) (kCons2 y)
theorem ev_kHnd (r:List AV) (y:AV):kHnd ty ob k r y=obind (hand.handL ty ob k r) (kCons2 y):=rfl
theorem ev_handL_cons (x:AV) (r:List AV):hand.handL ty ob (k+1) (x::r)=obind (hand ty ob k x) (kHnd ty ob k r):=rfl
def kOwnH (t:TypeId) (i n:Nat):Obj→Option AV
 | ⟨.row u,fr,es⟩=>if t=u∧i+n≤es.length then some (.sl t ⟨fr,none,false⟩ (if i=0∧n=es.length then es else (es.drop i).take n)) else none
 | _=>none
theorem ev_hand_own (o:Nat) (t:TypeId) (i n:Nat):hand ty ob (k+1) (.own o t i n)=obind (aget o ob) (kOwnH t i n):=by
 simp only[hand];cases aget o ob with
 | none=>rfl
 | some b=>obtain⟨r,f,es⟩:=b;cases r <;> rfl
theorem ev_kOwnH (t:TypeId) (i n:Nat) (u:TypeId) (fr:Bool) (es:List AV):kOwnH t i n ⟨.row u,fr,es⟩=if t=u∧i+n≤es.length then some (.sl t ⟨fr,none,false⟩ (if i=0∧n=es.length then es else (es.drop i).take n)) else none:=rfl
def kRoH (u:TypeId) (y:AV):Option AV:=some (.ro (newR y) u y)
theorem ev_kRoH (u:TypeId) (y:AV):kRoH u y=some (.ro (newR y) u y):=rfl
def kPtrTH (ty:Tys) (ob:List (Nat × Obj)) (k:Nat) (x:AV) (u:TypeId):Option AV:=obind (hand ty ob k x) (kRoH u)
theorem ev_kPtrTH (x:AV) (u:TypeId):kPtrTH ty ob k x u=obind (hand ty ob k x) (kRoH u):=rfl
def kPtrXH (ty:Tys) (ob:List (Nat × Obj)) (k:Nat) (r:RT) (p:List Nat) (x:AV):Option AV:=obind (r.tyAt ty p) (kPtrTH ty ob k x)
theorem ev_kPtrXH (r:RT) (p:List Nat) (x:AV):kPtrXH ty ob k r p x=obind (r.tyAt ty p) (kPtrTH ty ob k x):=rfl
def kPtrH (ty:Tys) (ob:List (Nat × Obj)) (k:Nat) (r:RT) (p:List Nat) (b:Obj):Option AV:=if b.r=r then obind (b.tree p) (kPtrXH ty ob k r p) else none
theorem ev_kPtrH (r r':RT) (p:List Nat) (fr:Bool) (es:List AV):kPtrH ty ob k r p ⟨r',fr,es⟩=if r'=r then obind (Obj.tree ⟨r',fr,es⟩ p) (kPtrXH ty ob k r p) else none:=rfl
theorem ev_hand_ptr (o:Nat) (u0:TypeId) (p:List Nat):hand ty ob (k+1) (.ptr o (.box u0) p)=obind (aget o ob) (kPtrH ty ob k (.box u0) p):=by
 simp only[hand];cases aget o ob with
 | none=>rfl
 | some b=>
   simp only[obind,kPtrH];split
   ·cases b.tree p with
    | none=>rfl
    | some x=>simp only[kPtrXH];cases (RT.box u0).tyAt ty p <;> rfl
   ·rfl
end
section
variable (E:Env) (d:Nat) (σ:St)
def kXs (e u:TypeId) (i n:Nat):Obj→Option (List AV × Bool)
 | ⟨.row v,fr,es⟩=>if u=e∧v=e∧i+n≤es.length then some (if i=0∧n=es.length then es else (es.drop i).take n,fr) else none
 | _=>none
theorem ev_xsOf_own (ob:List (Nat × Obj)) (e:TypeId) (o:Nat) (u:TypeId) (i n:Nat):xsOf ob e (.own o u i n)=obind (aget o ob) (kXs e u i n):=by
 simp only[xsOf];cases aget o ob with
 | none=>rfl
 | some b=>obtain⟨r,f,es⟩:=b;cases r <;> rfl
theorem ev_kXs (e u:TypeId) (i n:Nat) (v:TypeId) (fr:Bool) (es:List AV):kXs e u i n ⟨.row v,fr,es⟩=if u=e∧v=e∧i+n≤es.length then some (if i=0∧n=es.length then es else (es.drop i).take n,fr) else none:=rfl
theorem ev_xsOf_sl (ob:List (Nat × Obj)) (e u:TypeId) (fl:Fl) (es:List AV):xsOf ob e (.sl u fl es)=if u=e∨es.isEmpty=true then some (es,fl.fr) else none:=rfl
def kAp5 (d:Nat) (σ:St) (e:TypeId) (b o:Nat) (u:TypeId) (n:Nat) (xs:List AV) (fr:Bool):Obj→Option (AV × List (Nat × Obj))
 | ⟨.row v,fr',es⟩=>if u=e∧v=e∧n=es.length∧o ≠ d∧roomy (n+xs.length) b=true∧n+xs.length≤140737488355328 then some (.own d e 0 (n+xs.length),aput d ⟨.row e,fr'&&fr,es++xs⟩ (adel o σ.ob)) else if u=e∧v=e∧n+xs.length≤es.length∧o ≠ d then some (.own d e 0 (n+xs.length),aput d ⟨.row e,fr'&&fr,es.take n++(xs++es.drop (n+xs.length))⟩ (adel o σ.ob)) else none
 | _=>none
theorem ev_kAp5 (e:TypeId) (b o:Nat) (u:TypeId) (n:Nat) (xs:List AV) (fr:Bool) (v:TypeId) (fr':Bool) (es:List AV):kAp5 d σ e b o u n xs fr ⟨.row v,fr',es⟩ =
 if u=e∧v=e∧n=es.length∧o ≠ d∧roomy (n+xs.length) b=true∧n+xs.length≤140737488355328 then some (.own d e 0 (n+xs.length),aput d ⟨.row e,fr'&&fr,es++xs⟩ (adel o σ.ob)) else if u=e∧v=e∧n+xs.length≤es.length∧o ≠ d then some (.own d e 0 (n+xs.length),aput d ⟨.row e,fr'&&fr,es.take n++(xs++es.drop (n+xs.length))⟩ (adel o σ.ob)) else none:=rfl
def kAp4 (d:Nat) (σ:St) (e:TypeId) (b:Nat) (xs:List AV) (fr:Bool):AV→Option (AV × List (Nat × Obj))
 | .sl _ fl _=>if fl.nil=some true∧roomy xs.length b=true∧xs.length≤140737488355328 then some (.own d e 0 xs.length,aput d ⟨.row e,fr,xs⟩ σ.ob) else none
 | .own o u 0 n=>obind (aget o σ.ob) (kAp5 d σ e b o u n xs fr)
 | _=>none
theorem ev_kAp4_sl (e:TypeId) (b:Nat) (xs:List AV) (fr:Bool) (u:TypeId) (fl:Fl) (es:List AV):kAp4 d σ e b xs fr (.sl u fl es)=if fl.nil=some true∧roomy xs.length b=true∧xs.length≤140737488355328 then some (.own d e 0 xs.length,aput d ⟨.row e,fr,xs⟩ σ.ob) else none:=rfl
theorem ev_kAp4_own (e:TypeId) (b:Nat) (xs:List AV) (fr:Bool) (o:Nat) (u:TypeId) (n:Nat):kAp4 d σ e b xs fr (.own o u 0 n)=obind (aget o σ.ob) (kAp5 d σ e b o u n xs fr):=rfl
def kAp3 (d:Nat) (σ:St) (e:TypeId) (sz b:Nat) (s:AV) (p:List AV × Bool):Option (AV × List (Nat × Obj)):=if 0 < sz∧σ.free d=true then kAp4 d σ e b p.1 p.2 s else none
theorem ev_kAp3 (e:TypeId) (sz b:Nat) (s:AV) (xs:List AV) (fr:Bool):kAp3 d σ e sz b s (xs,fr)=if 0 < sz∧σ.free d=true then kAp4 d σ e b xs fr s else none:=rfl
def kAp2 (d:Nat) (σ:St) (e:TypeId) (s x:AV) (T:TyD):Option (AV × List (Nat × Obj)):=obind (xsOf σ.ob e x) (kAp3 d σ e T.size T.bytes s)
theorem ev_kAp2 (e:TypeId) (s x:AV) (kk:TK) (sz b:Nat) (z:AV):kAp2 d σ e s x ⟨kk,sz,b,z⟩=obind (xsOf σ.ob e x) (kAp3 d σ e sz b s):=rfl
def kAp1 (E:Env) (d:Nat) (σ:St) (s x:AV):TyD→Option (AV × List (Nat × Obj))
 | ⟨.slice e,_,_,_⟩=>obind (E.ty e) (kAp2 d σ e s x)
 | _=>none
theorem ev_kAp1 (s x:AV) (e:TypeId) (sz b:Nat) (z:AV):kAp1 E d σ s x ⟨.slice e,sz,b,z⟩=obind (E.ty e) (kAp2 d σ e s x):=rfl
theorem ev_appd (t:TypeId) (s x:AV):appd E d σ t s x=obind (E.ty t) (kAp1 E d σ s x):=by
 simp only[appd];cases E.ty t with
 | none=>rfl
 | some T=>
   obtain⟨kk,_,_,z⟩:=T;cases kk <;> try rfl
   rename_i e;simp only[obind,kAp1];cases E.ty e with
   | none=>rfl
   | some T=>
     simp only[kAp2,obind];cases xsOf σ.ob e x with
     | none=>rfl
     | some p=>
       simp only[kAp3];split
       ·cases s <;> try rfl
        rename_i o u i n;cases i with
        | succ i=>rfl
        | zero=>
          simp only[kAp4,obind];cases aget o σ.ob with
          | none=>rfl
          | some b=>obtain⟨r,f,es⟩:=b;cases r <;> rfl
       ·rfl
def kApp (E:Env) (d:Nat) (σ:St) (t t':TypeId):List AV→Option (AV × List (Nat × Obj))
 | [s,x]=>if t=t' then appd E d σ t s x else none
 | _=>none
theorem ev_kApp (t t':TypeId) (s x:AV):kApp E d σ t t' [s,x]=if t=t' then appd E d σ t s x else none:=rfl
theorem ev_append (az:List Operand) (t t':TypeId):ares E d σ (.call ⟨.builtin .append,⟨az⟩,⟨[t,t']⟩⟩)=obind (vals E.G σ az) (kApp E d σ t t'):=by
 simp only[ares];cases vals E.G σ az with
 | none=>rfl
 | some l=>
   simp only[obind]
   match l with
   | []=>rfl
   | [_]=>rfl
   | [_,_]=>rfl
   | _::_::_::_=>rfl
def kMax (σ:St):List AV→Option (AV × List (Nat × Obj))
 | [.int k a,.int k' b]=>if k=k' then some (.int k (if b > a then b else a),σ.ob) else none
 | _=>none
theorem ev_max (az:List Operand) (ts:Array TypeId):ares E d σ (.call ⟨.builtin .max,⟨az⟩,ts⟩)=obind (vals E.G σ az) (kMax σ):=by
 simp only[ares];congr 1
theorem ev_kMax (kk k':IntKind) (a b:Int):kMax σ [.int kk a,.int k' b]=if kk=k' then some (.int kk (if b > a then b else a),σ.ob) else none:=rfl
def kFv (σ:St) (s f:Nat):AV→Option (AV × List (Nat × Obj))
 | .st t fs=>if t=s then obind fs[f]? (kRes σ) else none
 | _=>none
theorem ev_kFv (s f t:Nat) (fs:List AV):kFv σ s f (.st t fs)=if t=s then obind fs[f]? (kRes σ) else none:=rfl
theorem ev_field (s:TypeId) (x:Operand) (f:Nat):ares E d σ (.field s x f)=obind (σ.val E.G x) (kFv σ s f):=by
 simp only[ares];cases σ.val E.G x with
 | none=>rfl
 | some v=>cases v <;> rfl
def kBs4 (d:Nat) (σ:St) (e n sz:Nat) (gs:List AV):Option (AV × List (Nat × Obj)):=if σ.free d=true∧0 < sz∧n * sz≤16777216 then some (.own d e 0 n,aput d ⟨.row e,fresh.freshL gs,gs⟩ σ.ob) else none
theorem ev_kBs4 (e n sz:Nat) (gs:List AV):kBs4 d σ e n sz gs=if σ.free d=true∧0 < sz∧n * sz≤16777216 then some (.own d e 0 n,aput d ⟨.row e,fresh.freshL gs,gs⟩ σ.ob) else none:=rfl
def kBsP (d:Nat) (σ:St) (e n sz:Nat) (gs:List AV):Option (AV × List (Nat × Obj)):=if σ.free d=true∧0 < sz∧n * sz≤16777216∧ment.mentL d gs=false then some (.own d e 0 n,aput d ⟨.rop e,fresh.freshL gs,gs⟩ σ.ob) else none
theorem ev_kBsP (e n sz:Nat) (gs:List AV):kBsP d σ e n sz gs=if σ.free d=true∧0 < sz∧n * sz≤16777216∧ment.mentL d gs=false then some (.own d e 0 n,aput d ⟨.rop e,fresh.freshL gs,gs⟩ σ.ob) else none:=rfl
def kBs3 (E:Env) (d:Nat) (σ:St) (e n sz:Nat) (z:AV) (l:List (Nat × AV)):Option (AV × List (Nat × Obj)):=if isPtrT E.ty e=true then obind (fillAr E.ty e n anyV (litAll z n) l) (kBsP d σ e n sz) else obind (fillAr E.ty e n closed (litAll z n) l) (kBs4 d σ e n sz)
theorem ev_kBs3 (e n sz:Nat) (z:AV) (l:List (Nat × AV)):kBs3 E d σ e n sz z l=if isPtrT E.ty e=true then obind (fillAr E.ty e n anyV (litAll z n) l) (kBsP d σ e n sz) else obind (fillAr E.ty e n closed (litAll z n) l) (kBs4 d σ e n sz):=rfl
def kBs2 (E:Env) (d:Nat) (σ:St) (e n:Nat) (ps:List (Nat × Operand)) (T:TyD):Option (AV × List (Nat × Obj)):=obind (mkParts E.G σ ps) (kBs3 E d σ e n T.size T.zero)
theorem ev_kBs2 (e n:Nat) (ps:List (Nat × Operand)) (kk:TK) (sz b:Nat) (z:AV):kBs2 E d σ e n ps ⟨kk,sz,b,z⟩=obind (mkParts E.G σ ps) (kBs3 E d σ e n sz z):=rfl
def kBs1 (E:Env) (d:Nat) (σ:St) (n:Nat) (ps:List (Nat × Operand)):TyD→Option (AV × List (Nat × Obj))
 | ⟨.slice e,_,_,_⟩=>obind (E.ty e) (kBs2 E d σ e n ps)
 | _=>none
theorem ev_kBs1 (n:Nat) (ps:List (Nat × Operand)) (e sz b:Nat) (z:AV):kBs1 E d σ n ps ⟨.slice e,sz,b,z⟩=obind (E.ty e) (kBs2 E d σ e n ps):=rfl
theorem ev_buildSlice (t:TypeId) (n:Nat) (ps:List (Nat × Operand)):ares E d σ (.buildSlice t n ⟨ps⟩)=obind (E.ty t) (kBs1 E d σ n ps):=by
 simp only[ares];cases E.ty t with
 | none=>rfl
 | some T=>
   obtain⟨kk,_,_,z⟩:=T;cases kk <;> try rfl
   rename_i e;simp only[obind,kBs1];cases E.ty e with
   | none=>rfl
   | some T=>simp only[kBs2,obind,kBs3,kBs4,kBsP]
theorem ev_litAll0 {α:Type} (x:α):litAll x 0=[]:=rfl
theorem ev_litAll1 {α:Type} (x:α):litAll x 1=[x]:=rfl
theorem ev_litAll2 {α:Type} (x:α):litAll x 2=[x,x]:=rfl
theorem ev_litAll3 {α:Type} (x:α):litAll x 3=[x,x,x]:=rfl
theorem ev_litAll4 {α:Type} (x:α):litAll x 4=[x,x,x,x]:=rfl
theorem ev_litAll5 {α:Type} (x:α):litAll x 5=[x,x,x,x,x]:=rfl
theorem ev_litAll6 {α:Type} (x:α):litAll x 6=[x,x,x,x,x,x]:=rfl
theorem ev_litAll7 {α:Type} (x:α):litAll x 7=[x,x,x,x,x,x,x]:=rfl
theorem ev_litAll8 {α:Type} (x:α):litAll x 8=[x,x,x,x,x,x,x,x]:=rfl
def kMkF (σ:St) (f:FuncId) (l:List AV):Option (AV × List (Nat × Obj)):=if l.all leafV=true then some (.fn f l,σ.ob) else none
theorem ev_kMkF (f:FuncId) (l:List AV):kMkF σ f l=if l.all leafV=true then some (.fn f l,σ.ob) else none:=rfl
theorem ev_makeFunc (f:FuncId) (cs:List Operand):ares E d σ (.makeFunc (.func f) ⟨[]⟩ ⟨cs⟩)=obind (vals E.G σ cs) (kMkF σ f):=by
 simp only[ares];rfl
def kConv (E:Env) (σ:St) (s t:TypeId):AV→Option (AV × List (Nat × Obj))
 | .int _ n=>match E.ty t with
   | some ⟨.int k,_,_,_⟩=>match E.ty s with
     | some _=>some (.int k (k.wrap n),σ.ob)
     | none=>none
   | _=>none
 | _=>none
def kConv2 (σ:St) (k:IntKind) (n:Int):TyD→Option (AV × List (Nat × Obj)):=fun _=>some (.int k (k.wrap n),σ.ob)
theorem ev_kConv2 (k:IntKind) (n:Int) (T:TyD):kConv2 σ k n T=some (.int k (k.wrap n),σ.ob):=rfl
def kConv1 (E:Env) (σ:St) (s:TypeId) (n:Int):TyD→Option (AV × List (Nat × Obj))
 | ⟨.int k,_,_,_⟩=>obind (E.ty s) (kConv2 σ k n)
 | _=>none
theorem ev_kConv1 (s:TypeId) (n:Int) (k:IntKind) (sz b:Nat) (z:AV):kConv1 E σ s n ⟨.int k,sz,b,z⟩=obind (E.ty s) (kConv2 σ k n):=rfl
theorem ev_kConv (s t:TypeId) (k:IntKind) (n:Int):kConv E σ s t (.int k n)=obind (E.ty t) (kConv1 E σ s n):=by
 simp only[kConv];cases E.ty t with
 | none=>rfl
 | some T=>
   obtain⟨kk,_,_,z⟩:=T;cases kk <;> try rfl
   simp only[obind,kConv1];cases E.ty s <;> rfl
theorem ev_convert (s t:TypeId) (x:Operand):ares E d σ (.convert s t x)=obind (σ.val E.G x) (kConv E σ s t):=by
 simp only[ares];congr 1
theorem ev_bnd_none (G:Globs) (n:Nat):bnd G σ none n=some n:=rfl
def kBnd:AV→Option Nat
 | .int _ i=>if 0≤i then some i.toNat else none
 | _=>none
theorem ev_bnd_some (G:Globs) (y:Operand) (n:Nat):bnd G σ (some y) n=obind (σ.val G y) kBnd:=by
 simp only[bnd];congr 1
theorem ev_kBnd (kk:IntKind) (i:Int):kBnd (.int kk i)=if 0≤i then some i.toNat else none:=rfl
def kSl2 (E:Env) (σ:St) (t:TypeId) (x:AV) (l h:Nat):Option (AV × List (Nat × Obj)):=obind (slc E.ty t x l h none (rowLen σ.ob x)) (kRes σ)
theorem ev_kSl2 (t:TypeId) (x:AV) (l h:Nat):kSl2 E σ t x l h=obind (slc E.ty t x l h none (rowLen σ.ob x)) (kRes σ):=rfl
def kSl1 (E:Env) (σ:St) (t:TypeId) (hi:Option Operand) (x:AV) (l:Nat):Option (AV × List (Nat × Obj)):=obind (bnd E.G σ hi (lenAV x)) (kSl2 E σ t x l)
theorem ev_kSl1 (t:TypeId) (hi:Option Operand) (x:AV) (l:Nat):kSl1 E σ t hi x l=obind (bnd E.G σ hi (lenAV x)) (kSl2 E σ t x l):=rfl
def kSl (E:Env) (σ:St) (t:TypeId) (lo hi:Option Operand) (x:AV):Option (AV × List (Nat × Obj)):=obind (bnd E.G σ lo 0) (kSl1 E σ t hi x)
theorem ev_kSl (t:TypeId) (lo hi:Option Operand) (x:AV):kSl E σ t lo hi x=obind (bnd E.G σ lo 0) (kSl1 E σ t hi x):=rfl
theorem ev_slice (t:TypeId) (x:Operand) (lo hi:Option Operand):ares E d σ (.slice t x lo hi none)=obind (σ.val E.G x) (kSl E σ t lo hi):=by
 simp only[ares];rfl
def kRowLen (u:TypeId):Obj→Nat
 | ⟨.row v,_,es⟩=>if v=u then es.length else 0
 | _=>0
theorem ev_kRowLen (u v:TypeId) (fr:Bool) (es:List AV):kRowLen u ⟨.row v,fr,es⟩=if v=u then es.length else 0:=rfl
def kRowLenO (u:TypeId):Option Obj→Nat
 | some b=>kRowLen u b
 | none=>0
theorem ev_kRowLenO (u:TypeId) (b:Obj):kRowLenO u (some b)=kRowLen u b:=rfl
theorem ev_rowLen_own (ob:List (Nat × Obj)) (o:Nat) (u:TypeId) (off n:Nat):rowLen ob (.own o u off n)=kRowLenO u (aget o ob):=by
 unfold rowLen kRowLenO;dsimp only;cases aget o ob with
 | none=>rfl
 | some b=>obtain⟨r,f,es⟩:=b;cases r <;> rfl
theorem ev_rowLen_sl (ob:List (Nat × Obj)) (u:TypeId) (fl:Fl) (es:List AV):rowLen ob (.sl u fl es)=0:=rfl
theorem ev_rowLen_str (ob:List (Nat × Obj)) (s:ByteArray):rowLen ob (.str s)=0:=rfl
def kSl2M (E:Env) (σ:St) (t:TypeId) (x:AV) (l h m:Nat):Option (AV × List (Nat × Obj)):=obind (slc E.ty t x l h (some m) 0) (kRes σ)
theorem ev_kSl2M (t:TypeId) (x:AV) (l h m:Nat):kSl2M E σ t x l h m=obind (slc E.ty t x l h (some m) 0) (kRes σ):=rfl
def kSl1M (E:Env) (σ:St) (t:TypeId) (hi mx:Operand) (x:AV) (l h:Nat):Option (AV × List (Nat × Obj)):=obind (bnd E.G σ (some mx) 0) (kSl2M E σ t x l h)
theorem ev_kSl1M (t:TypeId) (hi mx:Operand) (x:AV) (l h:Nat):kSl1M E σ t hi mx x l h=obind (bnd E.G σ (some mx) 0) (kSl2M E σ t x l h):=rfl
def kSlM0 (E:Env) (σ:St) (t:TypeId) (hi mx:Operand) (x:AV) (l:Nat):Option (AV × List (Nat × Obj)):=obind (bnd E.G σ (some hi) (lenAV x)) (kSl1M E σ t hi mx x l)
theorem ev_kSlM0 (t:TypeId) (hi mx:Operand) (x:AV) (l:Nat):kSlM0 E σ t hi mx x l=obind (bnd E.G σ (some hi) (lenAV x)) (kSl1M E σ t hi mx x l):=rfl
def kSlM (E:Env) (σ:St) (t:TypeId) (lo:Option Operand) (hi mx:Operand) (x:AV):Option (AV × List (Nat × Obj)):=obind (bnd E.G σ lo 0) (kSlM0 E σ t hi mx x)
theorem ev_kSlM (t:TypeId) (lo:Option Operand) (hi mx:Operand) (x:AV):kSlM E σ t lo hi mx x=obind (bnd E.G σ lo 0) (kSlM0 E σ t hi mx x):=rfl
theorem ev_sliceM (t:TypeId) (x:Operand) (lo:Option Operand) (hi mx:Operand):ares E d σ (.slice t x lo (some hi) (some mx))=obind (σ.val E.G x) (kSlM E σ t lo hi mx):=by
 simp only[ares];rfl
theorem ev_slcM_own (ty:Tys) (t:TypeId) (o:Nat) (u:TypeId) (off n l h m rl:Nat):slc ty t (.own o u off n) l h (some m) rl =
 if isSlice ty t=true∧l≤h∧(h≤n∨off+h≤rl)∧0 < slc.szOf0 ty t∧slc.szEl ty t=some u then (if h≤m∧m≤n then some .undef else none) else none:=rfl
theorem ev_slcM_sl (ty:Tys) (t:TypeId) (u:TypeId) (fl:Fl) (es:List AV) (l h m rl:Nat):slc ty t (.sl u fl es) l h (some m) rl =
 if isSlice ty t=true∧l≤h∧h≤es.length∧0 < slc.szOf0 ty t∧(slc.szEl ty t=some u∨es.isEmpty=true) then (if h≤m∧m≤es.length then some .undef else none) else none:=rfl
theorem ev_slc_own (ty:Tys) (t:TypeId) (o:Nat) (u:TypeId) (off n l h rl:Nat):slc ty t (.own o u off n) l h none rl =
 if isSlice ty t=true∧l≤h∧(h≤n∨off+h≤rl)∧0 < slc.szOf0 ty t∧slc.szEl ty t=some u then (if l=0 then some (.own o u off h) else if l < h then some (.own o u (off+l) (h - l)) else some (.sl u ⟨true,some false,false⟩ [])) else none:=rfl
theorem ev_slc_sl (ty:Tys) (t:TypeId) (u:TypeId) (fl:Fl) (es:List AV) (l h rl:Nat):slc ty t (.sl u fl es) l h none rl =
 if isSlice ty t=true∧l≤h∧h≤es.length∧0 < slc.szOf0 ty t∧(slc.szEl ty t=some u∨es.isEmpty=true) then some (.sl u ⟨fl.fr,fl.nil,false⟩ ((es.drop l).take (h - l))) else none:=rfl
theorem ev_slc_str (ty:Tys) (t:TypeId) (s:ByteArray) (l h rl:Nat):slc ty t (.str s) l h none rl=if isStr ty t=true∧l≤h∧h≤s.size then some (.str (s.extract l h)) else none:=rfl
theorem ev_lenAV_own (o:Nat) (u:TypeId) (off n:Nat):lenAV (.own o u off n)=n:=rfl
theorem ev_lenAV_sl (u:TypeId) (fl:Fl) (es:List AV):lenAV (.sl u fl es)=es.length:=rfl
theorem ev_lenAV_str (s:ByteArray):lenAV (.str s)=s.size:=rfl
theorem ev_bin_st (ty:Tys) (t t1 t2:TypeId) (op:BinOp) (fs gs:List AV):bin ty t op (.st t1 fs) (.st t2 gs)=obind (eqSt ty t t1 fs t2 gs) (eqRes op):=rfl
def eqStK (ty:Tys) (fs gs:List AV):Option TyD→Option Bool
 | some ⟨.struct ts,_,_,_⟩=>eqFs ty ts fs gs
 | _=>none
theorem ev_eqSt (ty:Tys) (t:TypeId) (fs gs:List AV):eqSt ty t t fs t gs=eqStK ty fs gs (ty t):=by
 unfold eqSt eqStK;rw[if_pos ⟨rfl,rfl⟩];cases ty t with | none=>rfl | some D=>rfl
theorem ev_eqStK (ty:Tys) (fs gs:List AV) (ts:List TypeId) (s b:Nat) (z:AV):eqStK ty fs gs (some ⟨.struct ts,s,b,z⟩)=eqFs ty ts fs gs:=rfl
theorem ev_eqFs_nil (ty:Tys):eqFs ty [] [] []=some true:=rfl
theorem ev_eqFs_cons (ty:Tys) (u:TypeId) (ts:List TypeId) (x y:AV) (r s:List AV):eqFs ty (u::ts) (x::r) (y::s)=obind (eqL ty u x y) fun b=>obind (eqFs ty ts r s) fun c=>some (b&&c):=rfl
def eqLI (k k':IntKind) (a b:Int):Option TyD→Option Bool
 | some ⟨.int _,_,_,_⟩=>if k=k' then some (a==b) else none
 | _=>none
def eqLS (a b:ByteArray):Option TyD→Option Bool
 | some ⟨.str,_,_,_⟩=>some (a.toList==b.toList)
 | _=>none
theorem ev_eqL_int (ty:Tys) (u:TypeId) (k k':IntKind) (a b:Int):eqL ty u (.int k a) (.int k' b)=eqLI k k' a b (ty u):=rfl
theorem ev_eqLI (k:IntKind) (a b:Int) (q:IntKind) (s bb:Nat) (z:AV):eqLI k k a b (some ⟨.int q,s,bb,z⟩)=some (a==b):=by simp[eqLI]
theorem ev_eqL_bool (ty:Tys) (u:TypeId) (a b:Bool):eqL ty u (.bool a) (.bool b)=if isBool ty u=true then some (a==b) else none:=rfl
theorem ev_eqL_str (ty:Tys) (u:TypeId) (a b:ByteArray):eqL ty u (.str a) (.str b)=eqLS a b (ty u):=rfl
theorem ev_eqLS (a b:ByteArray) (s bb:Nat) (z:AV):eqLS a b (some ⟨.str,s,bb,z⟩)=some (a.toList==b.toList):=rfl
theorem ev_eqRes_eql (b:Bool):eqRes .eql b=some (.bool b):=rfl
theorem ev_eqRes_neq (b:Bool):eqRes .neq b=some (.bool (!b)):=rfl
def kLk2 (E:Env) (σ:St) (t:TypeId) (ok:Bool) (m k:AV):Option (AV × List (Nat × Obj)):=obind (lkp E.ty t ok k m) (kRes σ)
theorem ev_kLk2 (t:TypeId) (ok:Bool) (m k:AV):kLk2 E σ t ok m k=obind (lkp E.ty t ok k m) (kRes σ):=rfl
def kLk1 (E:Env) (σ:St) (t:TypeId) (ok:Bool) (ko:Operand) (m:AV):Option (AV × List (Nat × Obj)):=obind (σ.val E.G ko) (kLk2 E σ t ok m)
theorem ev_kLk1 (t:TypeId) (ok:Bool) (ko:Operand) (m:AV):kLk1 E σ t ok ko m=obind (σ.val E.G ko) (kLk2 E σ t ok m):=rfl
theorem ev_lookup (t:TypeId) (m k:Operand) (ok:Bool):ares E d σ (.lookup t m k ok)=obind (σ.val E.G m) (kLk1 E σ t ok k):=rfl
theorem ev_M_lookup (t:TypeId) (m k:Operand) (ok:Bool):aresM E d σ (.lookup t m k ok)=ares E d σ (.lookup t m k ok):=rfl
theorem ev_mpRes_t (r:Option FuncId):mpRes true r = .tup [mpV r,.bool r.isSome]:=rfl
theorem ev_mpRes_f (r:Option FuncId):mpRes false r=mpV r:=rfl
theorem ev_mpV_some (f:FuncId):mpV (some f) = .fn f []:=rfl
theorem ev_mpV_none:mpV none = .fnil:=rfl
theorem ev_ment_mpV (d:Nat) (r:Option FuncId):ment d (mpV r)=false:=by cases r <;> rfl
theorem ev_closed_mpV (r:Option FuncId):closed (mpV r)=true:=by cases r <;> rfl
theorem ev_leafV_mpV (r:Option FuncId):leafV (mpV r)=true:=by cases r <;> rfl
theorem ev_ment_mp (d:Nat) (t:TypeId) (ks:List AV) (fs:List FuncId):ment d (.mp t ks fs)=false:=rfl
theorem ev_closed_mp (t:TypeId) (ks:List AV) (fs:List FuncId):closed (.mp t ks fs)=true:=rfl
end
end Go.Abs
end
section
namespace Go.Abs
theorem aI {a b:Prop} (x:a) (y:b):a∧b:=⟨x,y⟩
theorem EV1:type_of% (aI @ev_seq (aI @ev_skip (aI @ev_fin (aI @ev_region (aI @ev_freeze0 (aI @ev_freeze1 (aI @ev_draw (aI @ev_adraw (aI @ev_kDraw0 (aI @ev_kDraw1 (aI @ev_adops_nil (aI @ev_adops_cons (aI @ev_kAd (aI @ev_cond (aI @ev_kCond (aI @ev_block (aI @ev_exit (aI @ev_ret (aI @ev_loop (aI @ev_aops_nil (aI @ev_aops_cons (aI @ev_aop (aI @ev_aop0 (aI @ev_aopg (aI @ev_kGuard_no (aI @ev_kGuard (aI @ev_aopsM_nil (aI @ev_aopsM_cons (aI @ev_aopM (aI @ev_aopM0 (aI @ev_aopgM (aI @ev_kGuardM_no (aI @ev_kGuardM (aI @ev_setRes (aI @ev_setRes0 (aI @ev_aget (aI @ev_aget_nil (aI @ev_adel (aI @ev_adel_nil (@ev_aput)))))))))))))))))))))))))))))))))))))))):=⟨@ev_seq,@ev_skip,@ev_fin,@ev_region,@ev_freeze0,@ev_freeze1,@ev_draw,@ev_adraw,@ev_kDraw0,@ev_kDraw1,@ev_adops_nil,@ev_adops_cons,@ev_kAd,@ev_cond,@ev_kCond,@ev_block,@ev_exit,@ev_ret,@ev_loop,@ev_aops_nil,@ev_aops_cons,@ev_aop,@ev_aop0,@ev_aopg,@ev_kGuard_no,@ev_kGuard,@ev_aopsM_nil,@ev_aopsM_cons,@ev_aopM,@ev_aopM0,@ev_aopgM,@ev_kGuardM_no,@ev_kGuardM,@ev_setRes,@ev_setRes0,@ev_aget,@ev_aget_nil,@ev_adel,@ev_adel_nil,@ev_aput⟩
theorem EV2:type_of% (aI @ev_kept (aI @ev_kept_nil (aI @ev_val_tmp (aI @ev_val_int (aI @ev_val_bool (aI @ev_val_str (aI @ev_val_slice (aI @ev_val_ptr (aI @ev_val_fnil (aI @ev_val_func (aI @ev_val_glob (aI @ev_kGlob (aI @ev_kRes (aI @ev_move (aI @ev_assign (aI @ev_pick (aI @ev_kPick (aI @ev_alloc (aI @ev_kAlloc (aI @ev_box (aI @ev_kBox (aI @ev_load (aI @ev_kLoad (aI @ev_kLoadR (aI @ev_kLoadB (aI @ev_kSeen (aI @ev_seen_box (aI @ev_seen_row (aI @ev_seen_rop (aI @ev_tree_box (aI @ev_kTree (aI @ev_tree_rop (aI @ev_tree_row (aI @ev_tree_nil (aI @ev_tree_st (aI @ev_tree_ar (aI @ev_store (aI @ev_kStore (aI @ev_kStore2 (@ev_kPut)))))))))))))))))))))))))))))))))))))))):=⟨@ev_kept,@ev_kept_nil,@ev_val_tmp,@ev_val_int,@ev_val_bool,@ev_val_str,@ev_val_slice,@ev_val_ptr,@ev_val_fnil,@ev_val_func,@ev_val_glob,@ev_kGlob,@ev_kRes,@ev_move,@ev_assign,@ev_pick,@ev_kPick,@ev_alloc,@ev_kAlloc,@ev_box,@ev_kBox,@ev_load,@ev_kLoad,@ev_kLoadR,@ev_kLoadB,@ev_kSeen,@ev_seen_box,@ev_seen_row,@ev_seen_rop,@ev_tree_box,@ev_kTree,@ev_tree_rop,@ev_tree_row,@ev_tree_nil,@ev_tree_st,@ev_tree_ar,@ev_store,@ev_kStore,@ev_kStore2,@ev_kPut⟩
theorem EV3:type_of% (aI @ev_kStoreB (aI @ev_kPl (aI @ev_plant_box (aI @ev_kPlR (aI @ev_kPlE (aI @ev_plant_row (aI @ev_plant_nil (aI @ev_kSt (aI @ev_kAr (aI @ev_kPlant (aI @ev_plant_st (aI @ev_plant_ar (aI @ev_inArray_nil (aI @ev_inArray_ar (aI @ev_inArray_st (aI @ev_fieldAddr (aI @ev_kField (aI @ev_kFieldR (aI @ev_kFld (aI @ev_kRo (aI @ev_kFldR2 (aI @ev_kFldR (aI @ev_binOp (aI @ev_kBin (aI @ev_kBin2 (aI @ev_unOp (aI @ev_kUn (aI @ev_not (aI @ev_comp (aI @ev_neg (aI @ev_nilCheck (aI @ev_kNil (aI @ev_kNilR (aI @ev_extract (aI @ev_kExt (aI @ev_add (aI @ev_sub (aI @ev_mul (aI @ev_eql (@ev_neq)))))))))))))))))))))))))))))))))))))))):=⟨@ev_kStoreB,@ev_kPl,@ev_plant_box,@ev_kPlR,@ev_kPlE,@ev_plant_row,@ev_plant_nil,@ev_kSt,@ev_kAr,@ev_kPlant,@ev_plant_st,@ev_plant_ar,@ev_inArray_nil,@ev_inArray_ar,@ev_inArray_st,@ev_fieldAddr,@ev_kField,@ev_kFieldR,@ev_kFld,@ev_kRo,@ev_kFldR2,@ev_kFldR,@ev_binOp,@ev_kBin,@ev_kBin2,@ev_unOp,@ev_kUn,@ev_not,@ev_comp,@ev_neg,@ev_nilCheck,@ev_kNil,@ev_kNilR,@ev_extract,@ev_kExt,@ev_add,@ev_sub,@ev_mul,@ev_eql,@ev_neq⟩
theorem EV4:type_of% (aI @ev_lss (aI @ev_leq (aI @ev_gtr (aI @ev_geq (aI @ev_and (aI @ev_or (aI @ev_xor (aI @ev_andNot (aI @ev_quo (aI @ev_rem (aI @ev_shl (aI @ev_shr (aI @ev_eqb (aI @ev_neb (aI @ev_eqs (aI @ev_nes (aI @ev_eqn (aI @ev_nen (aI @ev_fits_st (aI @ev_fits_ar (aI @ev_fits_int (aI @ev_fits_bool (aI @ev_fits_str (aI @ev_fits_sl (aI @ev_fits_own (aI @ev_fits_ptr (aI @ev_fits_ro (aI @ev_fits_fn (aI @ev_fits_pnil (aI @ev_fits_fnil (aI @ev_rt_box (aI @ev_rt_rop (aI @ev_rt_row (aI @ev_ty_nil (aI @ev_kTyF (aI @ev_ty_cons (aI @ev_kTy_st (aI @ev_kTy_ar (aI @ev_indexAddr (@ev_kIx_sl)))))))))))))))))))))))))))))))))))))))):=⟨@ev_lss,@ev_leq,@ev_gtr,@ev_geq,@ev_and,@ev_or,@ev_xor,@ev_andNot,@ev_quo,@ev_rem,@ev_shl,@ev_shr,@ev_eqb,@ev_neb,@ev_eqs,@ev_nes,@ev_eqn,@ev_nen,@ev_fits_st,@ev_fits_ar,@ev_fits_int,@ev_fits_bool,@ev_fits_str,@ev_fits_sl,@ev_fits_own,@ev_fits_ptr,@ev_fits_ro,@ev_fits_fn,@ev_fits_pnil,@ev_fits_fnil,@ev_rt_box,@ev_rt_rop,@ev_rt_row,@ev_ty_nil,@ev_kTyF,@ev_ty_cons,@ev_kTy_st,@ev_kTy_ar,@ev_indexAddr,@ev_kIx_sl⟩
theorem EV5:type_of% (aI @ev_kIx_ar (aI @ev_kIxS1 (aI @ev_kIxA1 (aI @ev_kIxS_own (aI @ev_kIxS_sl (aI @ev_kIxA_ptr (aI @ev_kIxA_ro (aI @ev_index (aI @ev_kStrIx (aI @ev_kStrIx2 (aI @ev_vals_nil (aI @ev_vals_cons (aI @ev_kCons (aI @ev_kCons2 (aI @ev_kBk (aI @ev_kCallF (aI @ev_kCall2 (aI @ev_kCall (aI @ev_call (aI @ev_kInt (aI @ev_len (aI @ev_kLen (aI @ev_lenOf_sl (aI @ev_lenOf_own (aI @ev_lenOf_str (aI @ev_expoL_nil (aI @ev_kExp (aI @ev_expoL_cons (aI @ev_expo_int (aI @ev_expo_bool (aI @ev_expo_str (aI @ev_expo_pnil (aI @ev_expo_fnil (aI @ev_expo_ar (aI @ev_expo_sl (aI @ev_expo_ro (aI @ev_kStE (aI @ev_expo_st (aI @ev_kFnE (@ev_expo_fn)))))))))))))))))))))))))))))))))))))))):=⟨@ev_kIx_ar,@ev_kIxS1,@ev_kIxA1,@ev_kIxS_own,@ev_kIxS_sl,@ev_kIxA_ptr,@ev_kIxA_ro,@ev_index,@ev_kStrIx,@ev_kStrIx2,@ev_vals_nil,@ev_vals_cons,@ev_kCons,@ev_kCons2,@ev_kBk,@ev_kCallF,@ev_kCall2,@ev_kCall,@ev_call,@ev_kInt,@ev_len,@ev_kLen,@ev_lenOf_sl,@ev_lenOf_own,@ev_lenOf_str,@ev_expoL_nil,@ev_kExp,@ev_expoL_cons,@ev_expo_int,@ev_expo_bool,@ev_expo_str,@ev_expo_pnil,@ev_expo_fnil,@ev_expo_ar,@ev_expo_sl,@ev_expo_ro,@ev_kStE,@ev_expo_st,@ev_kFnE,@ev_expo_fn⟩
theorem EV6:type_of% (aI @ev_expo_own (aI @ev_kOwnE (aI @ev_kRoE (aI @ev_kPtrT (aI @ev_kPtrX (aI @ev_kPtrE (aI @ev_expo_ptr (aI @ev_kParts2 (aI @ev_kParts (aI @ev_parts_nil (aI @ev_parts_cons (aI @ev_kFillS (aI @ev_fillSt_nil (aI @ev_fillSt_cons (aI @ev_fillAr_nil (aI @ev_fillAr_cons (aI @ev_kStB (aI @ev_kArB (aI @ev_kBldS (aI @ev_kBldA (aI @ev_build (aI @ev_kBld_st (aI @ev_kBld_ar (aI @ev_makeSlice (aI @ev_kMk (aI @ev_kMk1 (aI @ev_kMk2 (aI @ev_kMk3 (aI @ev_M_move (aI @ev_M_assign (aI @ev_M_pick (aI @ev_M_alloc (aI @ev_M_box (aI @ev_M_build (aI @ev_M_buildSlice (aI @ev_M_makeSlice (aI @ev_M_load (aI @ev_M_store (aI @ev_M_fieldAddr (@ev_M_field)))))))))))))))))))))))))))))))))))))))):=⟨@ev_expo_own,@ev_kOwnE,@ev_kRoE,@ev_kPtrT,@ev_kPtrX,@ev_kPtrE,@ev_expo_ptr,@ev_kParts2,@ev_kParts,@ev_parts_nil,@ev_parts_cons,@ev_kFillS,@ev_fillSt_nil,@ev_fillSt_cons,@ev_fillAr_nil,@ev_fillAr_cons,@ev_kStB,@ev_kArB,@ev_kBldS,@ev_kBldA,@ev_build,@ev_kBld_st,@ev_kBld_ar,@ev_makeSlice,@ev_kMk,@ev_kMk1,@ev_kMk2,@ev_kMk3,@ev_M_move,@ev_M_assign,@ev_M_pick,@ev_M_alloc,@ev_M_box,@ev_M_build,@ev_M_buildSlice,@ev_M_makeSlice,@ev_M_load,@ev_M_store,@ev_M_fieldAddr,@ev_M_field⟩
theorem EV7:type_of% (aI @ev_M_binOp (aI @ev_M_unOp (aI @ev_M_nilCheck (aI @ev_M_extract (aI @ev_M_indexAddr (aI @ev_M_index (aI @ev_M_convert (aI @ev_M_makeFunc (aI @ev_M_slice (aI @ev_M_len (aI @ev_M_append (aI @ev_M_max (aI @ev_kCallM (aI @ev_callM (aI @ev_isQ_func (aI @ev_isQ_tmp (aI @ev_fidOf (aI @ev_kClr (aI @ev_clear (aI @ev_kClrR (aI @ev_kClr2_own (aI @ev_kClr2_sl (aI @ev_kClr1 (aI @ev_clr (aI @ev_hand_int (aI @ev_hand_bool (aI @ev_hand_str (aI @ev_hand_pnil (aI @ev_hand_fnil (aI @ev_hand_ar (aI @ev_hand_sl (aI @ev_hand_ro (aI @ev_hand_st (aI @ev_handL_nil (aI @ev_kHnd (aI @ev_handL_cons (aI @ev_hand_own (aI @ev_kOwnH (aI @ev_kRoH (@ev_kPtrTH)))))))))))))))))))))))))))))))))))))))):=⟨@ev_M_binOp,@ev_M_unOp,@ev_M_nilCheck,@ev_M_extract,@ev_M_indexAddr,@ev_M_index,@ev_M_convert,@ev_M_makeFunc,@ev_M_slice,@ev_M_len,@ev_M_append,@ev_M_max,@ev_kCallM,@ev_callM,@ev_isQ_func,@ev_isQ_tmp,@ev_fidOf,@ev_kClr,@ev_clear,@ev_kClrR,@ev_kClr2_own,@ev_kClr2_sl,@ev_kClr1,@ev_clr,@ev_hand_int,@ev_hand_bool,@ev_hand_str,@ev_hand_pnil,@ev_hand_fnil,@ev_hand_ar,@ev_hand_sl,@ev_hand_ro,@ev_hand_st,@ev_handL_nil,@ev_kHnd,@ev_handL_cons,@ev_hand_own,@ev_kOwnH,@ev_kRoH,@ev_kPtrTH⟩
theorem EV8:type_of% (aI @ev_kPtrXH (aI @ev_kPtrH (aI @ev_hand_ptr (aI @ev_xsOf_own (aI @ev_kXs (aI @ev_xsOf_sl (aI @ev_kAp5 (aI @ev_kAp4_sl (aI @ev_kAp4_own (aI @ev_kAp3 (aI @ev_kAp2 (aI @ev_kAp1 (aI @ev_appd (aI @ev_kApp (aI @ev_append (aI @ev_max (aI @ev_kMax (aI @ev_kFv (aI @ev_field (aI @ev_kBs4 (aI @ev_kBsP (aI @ev_kBs3 (aI @ev_kBs2 (aI @ev_kBs1 (aI @ev_buildSlice (aI @ev_litAll0 (aI @ev_litAll1 (aI @ev_litAll2 (aI @ev_litAll3 (aI @ev_litAll4 (aI @ev_litAll5 (aI @ev_litAll6 (aI @ev_litAll7 (aI @ev_litAll8 (aI @ev_kMkF (aI @ev_makeFunc (aI @ev_kConv2 (aI @ev_kConv1 (aI @ev_kConv (@ev_convert)))))))))))))))))))))))))))))))))))))))):=⟨@ev_kPtrXH,@ev_kPtrH,@ev_hand_ptr,@ev_xsOf_own,@ev_kXs,@ev_xsOf_sl,@ev_kAp5,@ev_kAp4_sl,@ev_kAp4_own,@ev_kAp3,@ev_kAp2,@ev_kAp1,@ev_appd,@ev_kApp,@ev_append,@ev_max,@ev_kMax,@ev_kFv,@ev_field,@ev_kBs4,@ev_kBsP,@ev_kBs3,@ev_kBs2,@ev_kBs1,@ev_buildSlice,@ev_litAll0,@ev_litAll1,@ev_litAll2,@ev_litAll3,@ev_litAll4,@ev_litAll5,@ev_litAll6,@ev_litAll7,@ev_litAll8,@ev_kMkF,@ev_makeFunc,@ev_kConv2,@ev_kConv1,@ev_kConv,@ev_convert⟩
theorem EV9:type_of% (aI @ev_bnd_none (aI @ev_bnd_some (aI @ev_kBnd (aI @ev_kSl2 (aI @ev_kSl1 (aI @ev_kSl (aI @ev_slice (aI @ev_kRowLen (aI @ev_kRowLenO (aI @ev_rowLen_own (aI @ev_rowLen_sl (aI @ev_rowLen_str (aI @ev_kSl2M (aI @ev_kSl1M (aI @ev_kSlM0 (aI @ev_kSlM (aI @ev_sliceM (aI @ev_slcM_own (aI @ev_slcM_sl (aI @ev_slc_own (aI @ev_slc_sl (aI @ev_slc_str (aI @ev_lenAV_own (aI @ev_lenAV_sl (aI @ev_lenAV_str (aI @ev_bin_st (aI @ev_eqSt (aI @ev_eqStK (aI @ev_eqFs_nil (aI @ev_eqFs_cons (aI @ev_eqL_int (aI @ev_eqLI (aI @ev_eqL_bool (aI @ev_eqL_str (aI @ev_eqLS (aI @ev_eqRes_eql (aI @ev_eqRes_neq (aI @ev_kLk2 (aI @ev_kLk1 (@ev_lookup)))))))))))))))))))))))))))))))))))))))):=⟨@ev_bnd_none,@ev_bnd_some,@ev_kBnd,@ev_kSl2,@ev_kSl1,@ev_kSl,@ev_slice,@ev_kRowLen,@ev_kRowLenO,@ev_rowLen_own,@ev_rowLen_sl,@ev_rowLen_str,@ev_kSl2M,@ev_kSl1M,@ev_kSlM0,@ev_kSlM,@ev_sliceM,@ev_slcM_own,@ev_slcM_sl,@ev_slc_own,@ev_slc_sl,@ev_slc_str,@ev_lenAV_own,@ev_lenAV_sl,@ev_lenAV_str,@ev_bin_st,@ev_eqSt,@ev_eqStK,@ev_eqFs_nil,@ev_eqFs_cons,@ev_eqL_int,@ev_eqLI,@ev_eqL_bool,@ev_eqL_str,@ev_eqLS,@ev_eqRes_eql,@ev_eqRes_neq,@ev_kLk2,@ev_kLk1,@ev_lookup⟩
theorem EV10:type_of% (aI @ev_M_lookup (aI @ev_mpRes_t (aI @ev_mpRes_f (aI @ev_mpV_some (aI @ev_mpV_none (aI @ev_ment_mpV (aI @ev_closed_mpV (aI @ev_leafV_mpV (aI @ev_ment_mp (aI @ev_closed_mp (aI @then_norm (aI @then_exit (aI @then_ret (aI @then_none (aI @inBlock_norm (aI @inBlock_exit (aI @inBlock_ret (aI @inBlock_none (aI @finish_ret (aI @finish_norm (aI @finish_none (aI @finishM_ret (aI @finishM_norm (aI @finishM_none (aI @obind_some (@obind_none)))))))))))))))))))))))))):=⟨@ev_M_lookup,@ev_mpRes_t,@ev_mpRes_f,@ev_mpV_some,@ev_mpV_none,@ev_ment_mpV,@ev_closed_mpV,@ev_leafV_mpV,@ev_ment_mp,@ev_closed_mp,@then_norm,@then_exit,@then_ret,@then_none,@inBlock_norm,@inBlock_exit,@inBlock_ret,@inBlock_none,@finish_ret,@finish_norm,@finish_none,@finishM_ret,@finishM_norm,@finishM_none,@obind_some,@obind_none⟩
end Go.Abs
end
section
namespace Go.Abs
open Go Go.RowKit
def isAlloc (Q:FuncId→Bool):Op→Bool
 | .alloc _=>true
 | .box _ _=>true
 | .buildSlice _ _ _=>true
 | .makeSlice _ _ _=>true
 | .call c=>match c.callee with | .builtin b=>isApp b | .value g=>isQ Q g | _=>false
 | _=>false
def isWr (Q:FuncId→Bool):Op→Bool
 | .store _ _ _=>true
 | o=>isAlloc Q o
def Chg (w:List Nat) (s s' t t':List (Nat × Obj)):Prop:=(∀ q,q ∉ w→aget q s'=aget q s∧aget q t'=aget q t)∧∀ q,q ∈ w→aget q s'=aget q t'
section
variable {E:Env} {σ τ:St} {d:Nat}
theorem expo_mono {ty:Tys} {ob ob':List (Nat × Obj)} (ho:∀ o b,aget o ob=some b→aget o ob'=some b):∀ k,(∀ x y,expo ty ob k x=some y→expo ty ob' k x=some y)∧(∀ x y,expo.expoL ty ob k x=some y→expo.expoL ty ob' k x=some y)
 | 0=>⟨fun x y h=>by simp[expo] at h,fun x y h=>by cases x <;> simp[expo.expoL] at h⟩
 | k+1=>by
   obtain⟨ih1,ih2⟩:=expo_mono ho k;refine⟨fun x y h=>?_,fun x y h=>?_⟩
   ·cases x with
    | own o t i n=>
      simp only[expo] at h ⊢;split at h
      ·rename_i u fr es hg;rw[ho _ _ hg];exact h
      ·cases h
    | ptr o r p=>
      simp only[expo] at h ⊢;split at h
      ·rename_i b hg;rw[ho _ _ hg];try dsimp only
       split at h
       ·rename_i e;rw[if_pos e];split at h
        ·rename_i x hx;split at h
         ·rename_i u hu;obtain⟨y',h1,h2⟩:=obind_eq h;rw[ih1 _ _ h1];exact h2
         ·cases h
        ·cases h
       ·cases h
      ·cases h
    | st t fs=>
      simp only[expo] at h ⊢;obtain⟨y',h1,h2⟩:=obind_eq h;rw[ih2 _ _ h1];exact h2
    | fn f cs=>
      simp only[expo] at h ⊢;obtain⟨y',h1,h2⟩:=obind_eq h;rw[ih2 _ _ h1];exact h2
    | _=>simpa only[expo] using h
   ·cases x with
    | nil=>simpa only[expo.expoL] using h
    | cons x r=>
      simp only[expo.expoL] at h ⊢;obtain⟨y',h1,h2⟩:=obind_eq h;obtain⟨y2,h3,h4⟩:=obind_eq h2;rw[ih1 _ _ h1,obind_some,ih2 _ _ h3];exact h4
theorem mkParts_mono {G:Globs}:∀ (l:List (Nat × Operand)),(∀ p ∈ l,∀ v,σ.val G p.2=some v→τ.val G p.2=some v)→∀ y,mkParts G σ l=some y→mkParts G τ l=some y
 | [],_,y,h=>by simpa only[mkParts] using h
 | (i,x)::r,hv,y,h=>by
   simp only[mkParts] at h ⊢;obtain⟨y',h1,h2⟩:=obind_eq h;obtain⟨y2,h3,h4⟩:=obind_eq h2;rw[hv (i,x) (by simp) _ h1,obind_some,mkParts_mono r (fun p hp=>hv p (by simp[hp])) _ h3];exact h4
theorem vals_mono {G:Globs}:∀ (l:List Operand),(∀ p ∈ l,∀ v,σ.val G p=some v→τ.val G p=some v)→∀ y,vals G σ l=some y→vals G τ l=some y
 | [],_,y,h=>by simpa only[vals] using h
 | x::r,hv,y,h=>by
   simp only[vals] at h ⊢;obtain⟨y',h1,h2⟩:=obind_eq h;obtain⟨y2,h3,h4⟩:=obind_eq h2;rw[hv x (by simp) _ h1,obind_some,vals_mono r (fun p hp=>hv p (by simp[hp])) _ h3];exact h4
theorem Chg.same {s t:List (Nat × Obj)}:Chg [] s s t t:=⟨fun _ _=>⟨rfl,rfl⟩,fun q hq=>by cases hq⟩
theorem Chg.new {o:Nat} {b:Obj} {s t:List (Nat × Obj)}:Chg [o] s (aput o b s) t (aput o b t):=
 ⟨fun q hq=>by
   have:o ≠ q:=fun e=>hq (by simp[e])
   simp[aget_aput,this],fun q hq=>by
   have:o=q:=by simp at hq;exact hq.symm
   simp[aget_aput,this]⟩
theorem Chg.append {d o:Nat} {b:Obj} {s t:List (Nat × Obj)}:Chg [d,o] s (aput d b (adel o s)) t (aput d b (adel o t)):=
 ⟨fun q hq=>by
   simp only[List.mem_cons,List.not_mem_nil,or_false,not_or] at hq;simp[aget_aput,aget_adel,Ne.symm hq.1,Ne.symm hq.2],fun q hq=>by
   simp only[List.mem_cons,List.not_mem_nil,or_false] at hq;simp only[aget_aput,aget_adel];split
   ·rfl
   ·rename_i e;rcases hq with hq | hq
    ·exact absurd hq.symm e
    ·rw[if_pos hq.symm,if_pos hq.symm]⟩
theorem xsOf_mono {ob ob':List (Nat × Obj)} {e:TypeId} {x:AV} {r} (ho:∀ o b,aget o ob=some b→aget o ob'=some b) (h:xsOf ob e x=some r):xsOf ob' e x=some r:=by
 unfold xsOf at h ⊢;split at h
 ·split at h
  ·rename_i hb;rw[ho _ _ hb];exact h
  ·cases h
 ·exact h
 ·cases h
def appW (d:Nat):AV→List Nat
 | .own o _ _ _=>[d,o]
 | _=>[d]
theorem appd_mono {t:TypeId} {s x r:AV} {ob:List (Nat × Obj)} (ho:∀ o b,aget o σ.ob=some b→aget o τ.ob=some b) (hf:τ.free d=true) (h:appd E d σ t s x=some (r,ob)) :
 ∃ ob',appd E d τ t s x=some (r,ob')∧Chg (appW d s) σ.ob ob τ.ob ob':=by
 simp only[appd] at h ⊢;cases hD:E.ty t with
 | none=>simp only[hD] at h;cases h
 | some D=>
   obtain⟨k,s1,b1,z1⟩:=D;simp only[hD] at h ⊢;cases k with
   | slice e=>
     dsimp only at h ⊢;cases hE:E.ty e with
     | none=>simp only[hE] at h;cases h
     | some T=>
       simp only[hE] at h ⊢;obtain⟨p,h1,h2⟩:=obind_eq h;rw[xsOf_mono ho h1,obind_some];split at h2
       ·rename_i hc;rw[if_pos ⟨hc.1,hf⟩];split at h2
        ·split at h2
         ·rename_i hc2;injection h2 with h2;injection h2 with h2 h3;subst h2;subst h3
          exact⟨_,by rw[if_pos hc2],.new⟩
         ·cases h2
        ·split at h2
         ·rename_i hb;split at h2
          ·rename_i hc2;injection h2 with h2;injection h2 with h2 h3;subst h2;subst h3
           simp only[ho _ _ hb];exact⟨_,by rw[if_pos hc2],.append⟩
          ·rename_i hc1;split at h2
           ·rename_i hc2;injection h2 with h2;injection h2 with h2 h3;subst h2;subst h3
            simp only[ho _ _ hb];exact⟨_,by rw[if_neg hc1,if_pos hc2],.append⟩
           ·cases h2
         ·cases h2
        ·cases h2
       ·cases h2
   | _=>cases h
theorem appd_free {t:TypeId} {s x:AV} {r} (h:appd E d σ t s x=some r):σ.free d=true:=by
 unfold appd at h;split at h
 ·split at h
  ·obtain⟨p,h1,h2⟩:=obind_eq h;split at h2
   ·rename_i hc;exact hc.2
   ·cases h2
  ·cases h
 ·cases h
theorem wrO_call {Q:FuncId→Bool} {G:Globs} {c:Call} (h:∀ b,c.callee = .builtin b→b ≠ .append) (hq:∀ g,c.callee = .value g→isQ Q g=false):wrO Q G d σ (.call c)=[]:=by
 simp only[wrO,wrCall];split
 ·rename_i g hg;rw[if_neg (by simp[hq g hg])]
 ·rename_i b hb;have:isApp b=false:=by cases b <;> first | rfl | exact absurd rfl (h _ hb)
  rw[if_neg (by simp[this])]
 ·rfl
theorem bnd_mono {G:Globs} {p:Option Operand} {n l:Nat} (hv:∀ y,p=some y→∀ v,σ.val G y=some v→τ.val G y=some v) (h:bnd G σ p n=some l):bnd G τ p n=some l:=by
 unfold bnd at h ⊢;split at h
 ·exact h
 ·rename_i y;obtain⟨v,h1,h2⟩:=obind_eq h;rw[hv y rfl _ h1];exact h2
theorem rowLen_mono {ob ob':List (Nat × Obj)} (ho:∀ o b,aget o ob=some b→aget o ob'=some b) (x:AV):rowLen ob x≤rowLen ob' x:=by
 unfold rowLen;cases x <;> try exact Nat.le_refl _
 rename_i o u _ _;dsimp only;cases hb:aget o ob with
 | none=>exact Nat.zero_le _
 | some b=>rw[ho o b hb];exact Nat.le_refl _
theorem slc_mono {ty:Tys} {t:TypeId} {x:AV} {l h:Nat} {m:Option Nat} {rl rl':Nat} (hr:rl≤rl') {y:AV} (hy:slc ty t x l h m rl=some y):slc ty t x l h m rl'=some y:=by
 unfold slc at hy ⊢;cases x <;> try exact hy
 dsimp only at hy ⊢;split at hy
 ·rename_i hc;rw[if_pos ⟨hc.1,hc.2.1,hc.2.2.1.imp id fun h=>Nat.le_trans h hr,hc.2.2.2⟩];exact hy
 ·cases hy
theorem ares_mono {op:Op} {x:AV} {ob:List (Nat × Obj)} (hv:∀ x ∈ op.operands.toList,∀ v,σ.val E.G x=some v→τ.val E.G x=some v)
 (ho:∀ o b,aget o σ.ob=some b→aget o τ.ob=some b) (hf:isAlloc E.Q op=true→τ.free d=true) (h:ares E d σ op=some (x,ob)) :
 ∃ ob',ares E d τ op=some (x,ob')∧Chg (wrO E.Q E.G d σ op) σ.ob ob τ.ob ob':=by
 cases op with
 | move y=>
   simp only[ares] at h ⊢;obtain⟨v,h1,h2⟩:=obind_eq h;injection h2 with h2;injection h2 with h2 h3;subst h2;subst h3
   exact⟨τ.ob,by rw[hv y (by simp[Op.operands]) _ h1];rfl,.same⟩
 | assign y=>
   simp only[ares] at h ⊢;obtain⟨v,h1,h2⟩:=obind_eq h;injection h2 with h2;injection h2 with h2 h3;subst h2;subst h3
   exact⟨τ.ob,by rw[hv y (by simp[Op.operands]) _ h1];rfl,.same⟩
 | pick c a b=>
   simp only[ares] at h ⊢;obtain⟨v,h1,h2⟩:=obind_eq h;rw[hv c (by simp[Op.operands]) _ h1,obind_some];split at h2
   ·rename_i q;try dsimp only
    split at h2
    ·rename_i e;rw[if_pos e];obtain⟨v,h3,h4⟩:=obind_eq h2;injection h4 with h4;injection h4 with h4 h5;subst h4;subst h5
     exact⟨τ.ob,by rw[hv a (by simp[Op.operands]) _ h3];rfl,.same⟩
    ·rename_i e;rw[if_neg e];obtain⟨v,h3,h4⟩:=obind_eq h2;injection h4 with h4;injection h4 with h4 h5;subst h4;subst h5
     exact⟨τ.ob,by rw[hv b (by simp[Op.operands]) _ h3];rfl,.same⟩
   ·cases h2
 | alloc t=>
   simp only[ares] at h ⊢;split at h
   ·split at h
    ·injection h with h;injection h with h4 h5;subst h4;subst h5
     exact⟨_,by rw[if_pos (hf rfl)],.new⟩
    ·cases h
   ·cases h
 | box t y=>
   simp only[ares] at h ⊢;obtain⟨v,h1,h2⟩:=obind_eq h;rw[hv y (by simp[Op.operands]) _ h1,obind_some];split at h2
   ·rename_i hc;injection h2 with h;injection h with h4 h5;subst h4;subst h5
    exact⟨_,by rw[if_pos ⟨hc.1,hc.2.1,hf rfl,hc.2.2.2⟩],.new⟩
   ·cases h2
 | build t ps=>
   simp only[ares] at h ⊢;have hp:∀ p ∈ ps.toList,∀ v,σ.val E.G p.2=some v→τ.val E.G p.2=some v:=fun p hp=>hv p.2 (by simp only[Op.operands];exact List.mem_map.2 ⟨p,hp,rfl⟩)
   split at h
   ·obtain⟨v,h1,h2⟩:=obind_eq h;obtain⟨v2,h3,h4⟩:=obind_eq h2;injection h4 with h4;injection h4 with h4 h5;subst h4;subst h5
    exact⟨τ.ob,by rw[mkParts_mono _ hp _ h1,obind_some,h3];rfl,.same⟩
   ·obtain⟨v,h1,h2⟩:=obind_eq h;obtain⟨v2,h3,h4⟩:=obind_eq h2;injection h4 with h4;injection h4 with h4 h5;subst h4;subst h5
    exact⟨τ.ob,by rw[mkParts_mono _ hp _ h1,obind_some,h3];rfl,.same⟩
   ·cases h
 | buildSlice t n ps=>
   simp only[ares] at h ⊢;have hp:∀ p ∈ ps.toList,∀ v,σ.val E.G p.2=some v→τ.val E.G p.2=some v:=fun p hp=>hv p.2 (by simp only[Op.operands];exact List.mem_map.2 ⟨p,hp,rfl⟩)
   split at h
   ·split at h
    ·obtain⟨v,h1,h2⟩:=obind_eq h;split at h2;all_goals
      rename_i hptr;obtain⟨v2,h3,h4⟩:=obind_eq h2;split at h4
      ·rename_i hc;injection h4 with h4;injection h4 with h4 h5;subst h4;subst h5
       refine⟨_,?_,.new⟩;rw[mkParts_mono _ hp _ h1,obind_some];simp only[hptr,if_true,if_false,Bool.false_eq_true];rw[h3,obind_some,if_pos ⟨hf rfl,hc.2⟩]
      ·cases h4
    ·cases h
   ·cases h
 | makeSlice t y z=>
   simp only[ares] at h ⊢;split at h
   ·split at h
    ·obtain⟨v,h1,h2⟩:=obind_eq h;obtain⟨v2,h3,h4⟩:=obind_eq h2;rw[hv y (by simp[Op.operands]) _ h1,obind_some,hv z (by simp[Op.operands]) _ h3,obind_some];split at h4
     ·split at h4
      ·rename_i hc;injection h4 with h4;injection h4 with h4 h5;subst h4;subst h5
       refine⟨_,?_,.new⟩;try dsimp only
       rw[if_pos ⟨hc.1,hc.2.1,hc.2.2.1,hc.2.2.2.1,hc.2.2.2.2.1,hf rfl⟩]
      ·cases h4
     ·cases h4
    ·cases h
   ·cases h
 | load t a=>
   simp only[ares] at h ⊢;obtain⟨v,h1,h2⟩:=obind_eq h;rw[hv a (by simp[Op.operands]) _ h1,obind_some];split at h2
   ·rename_i o r p;try dsimp only
    split at h2
    ·rename_i b hb;rw[ho _ _ hb];try dsimp only
     split at h2
     ·rename_i e;rw[if_pos e];obtain⟨v,h3,h4⟩:=obind_eq h2;rw[h3,obind_some];split at h4
      ·rename_i e2;rw[if_pos e2];injection h4 with h4;injection h4 with h4 h5;subst h4;subst h5
       exact⟨τ.ob,rfl,.same⟩
      ·cases h4
     ·cases h2
    ·cases h2
   ·try dsimp only
    split at h2
    ·rename_i e;rw[if_pos e];injection h2 with h4;injection h4 with h4 h5;subst h4;subst h5
     exact⟨τ.ob,rfl,.same⟩
    ·cases h2
   ·cases h2
 | store t a y=>
   simp only[ares] at h ⊢;obtain⟨v,h1,h2⟩:=obind_eq h;obtain⟨v2,h3,h4⟩:=obind_eq h2;rw[hv a (by simp[Op.operands]) _ h1,obind_some,hv y (by simp[Op.operands]) _ h3,obind_some];split at h4
   ·rename_i o r p;try dsimp only
    split at h4
    ·rename_i b hb;rw[ho _ _ hb];try dsimp only
     split at h4
     ·rename_i e;rw[if_pos e];obtain⟨v,h5,h6⟩:=obind_eq h4;rw[h5,obind_some];injection h6 with h4;injection h4 with h4 h5;subst h4;subst h5
      exact⟨_,rfl,by simp only[wrO,h1];exact .new⟩
     ·cases h4
    ·cases h4
   ·cases h4
 | fieldAddr s y f=>
   simp only[ares] at h ⊢;obtain⟨v,h1,h2⟩:=obind_eq h;rw[hv y (by simp[Op.operands]) _ h1,obind_some];split at h2
   ·try dsimp only
    split at h2
    ·rename_i e;rw[if_pos e];split at h2
     ·split at h2
      ·rename_i e2;rw[if_pos e2];injection h2 with h4;injection h4 with h4 h5;subst h4;subst h5
       exact⟨τ.ob,rfl,.same⟩
      ·cases h2
     ·cases h2
    ·cases h2
   ·try dsimp only
    split at h2
    ·rename_i e;rw[if_pos e];split at h2
     ·obtain⟨v,h3,h4⟩:=obind_eq h2;obtain⟨v2,h5,h6⟩:=obind_eq h4;rw[h3,obind_some,h5,obind_some];injection h6 with h4;injection h4 with h4 h5;subst h4;subst h5
      exact⟨τ.ob,rfl,.same⟩
     ·cases h2
    ·cases h2
   ·cases h2
 | field s y f=>
   simp only[ares] at h ⊢;obtain⟨v,h1,h2⟩:=obind_eq h;rw[hv y (by simp[Op.operands]) _ h1,obind_some];split at h2
   ·try dsimp only
    split at h2
    ·rename_i e;rw[if_pos e];obtain⟨v,h3,h4⟩:=obind_eq h2;rw[h3,obind_some];injection h4 with h4;injection h4 with h4 h5;subst h4;subst h5
     exact⟨τ.ob,rfl,.same⟩
    ·cases h2
   ·cases h2
 | binOp op t y z u=>
   simp only[ares] at h ⊢;obtain⟨v,h1,h2⟩:=obind_eq h;obtain⟨v2,h3,h4⟩:=obind_eq h2;obtain⟨v3,h5,h6⟩:=obind_eq h4;injection h6 with h4;injection h4 with h4 h7;subst h4;subst h7
   exact⟨τ.ob,by rw[hv y (by simp[Op.operands]) _ h1,obind_some,hv z (by simp[Op.operands]) _ h3,obind_some,h5];rfl,.same⟩
 | unOp op t y=>
   simp only[ares] at h ⊢;obtain⟨v,h1,h2⟩:=obind_eq h;obtain⟨v3,h5,h6⟩:=obind_eq h2;injection h6 with h4;injection h4 with h4 h7;subst h4;subst h7
   exact⟨τ.ob,by rw[hv y (by simp[Op.operands]) _ h1,obind_some,h5];rfl,.same⟩
 | nilCheck y=>
   simp only[ares] at h ⊢;obtain⟨v,h1,h2⟩:=obind_eq h;rw[hv y (by simp[Op.operands]) _ h1,obind_some];split at h2
   ·injection h2 with h4;injection h4 with h4 h5;subst h4;subst h5
    exact⟨τ.ob,rfl,.same⟩
   ·injection h2 with h4;injection h4 with h4 h5;subst h4;subst h5
    exact⟨τ.ob,rfl,.same⟩
   ·cases h2
 | extract y i=>
   simp only[ares] at h ⊢;obtain⟨v,h1,h2⟩:=obind_eq h;rw[hv y (by simp[Op.operands]) _ h1,obind_some];split at h2
   ·try dsimp only
    split at h2
    ·rename_i hq;injection h2 with h4;injection h4 with h4 h5;subst h4;subst h5
     exact⟨τ.ob,rfl,.same⟩
    ·cases h2
   ·cases h2
 | indexAddr t y z=>
   simp only[ares] at h ⊢;split at h
   ·obtain⟨v,h1,h2⟩:=obind_eq h;obtain⟨v2,h3,h4⟩:=obind_eq h2;rw[hv y (by simp[Op.operands]) _ h1,obind_some,hv z (by simp[Op.operands]) _ h3,obind_some];split at h4
    ·try dsimp only
     split at h4
     ·rename_i e;rw[if_pos e];injection h4 with h4;injection h4 with h4 h5;subst h4;subst h5
      exact⟨τ.ob,rfl,.same⟩
     ·cases h4
    ·try dsimp only
     split at h4
     ·rename_i e;rw[if_pos e];obtain⟨v,h5,h6⟩:=obind_eq h4;rw[h5,obind_some];injection h6 with h4;injection h4 with h4 h5;subst h4;subst h5
      exact⟨τ.ob,rfl,.same⟩
     ·cases h4
    ·cases h4
   ·obtain⟨v,h1,h2⟩:=obind_eq h;obtain⟨v2,h3,h4⟩:=obind_eq h2;rw[hv y (by simp[Op.operands]) _ h1,obind_some,hv z (by simp[Op.operands]) _ h3,obind_some];split at h4
    ·try dsimp only
     split at h4
     ·rename_i e;rw[if_pos e];injection h4 with h4;injection h4 with h4 h5;subst h4;subst h5
      exact⟨τ.ob,rfl,.same⟩
     ·cases h4
    ·try dsimp only
     split at h4
     ·rename_i e;rw[if_pos e];obtain⟨v,h5,h6⟩:=obind_eq h4;rw[h5,obind_some];injection h6 with h4;injection h4 with h4 h5;subst h4;subst h5
      exact⟨τ.ob,rfl,.same⟩
     ·cases h4
    ·cases h4
   ·cases h
 | lookup t y z ok=>
   simp only[ares] at h ⊢;obtain⟨v,h1,h2⟩:=obind_eq h;obtain⟨v2,h3,h4⟩:=obind_eq h2;obtain⟨v3,h5,h6⟩:=obind_eq h4;rw[hv y (by simp[Op.operands]) _ h1,obind_some,hv z (by simp[Op.operands]) _ h3,obind_some,h5,obind_some];injection h6 with h6;injection h6 with h6 h7;subst h6;subst h7
   exact⟨τ.ob,rfl,.same⟩
 | index t y z=>
   simp only[ares] at h ⊢;obtain⟨v,h1,h2⟩:=obind_eq h;obtain⟨v2,h3,h4⟩:=obind_eq h2;rw[hv y (by simp[Op.operands]) _ h1,obind_some,hv z (by simp[Op.operands]) _ h3,obind_some];split at h4
   ·try dsimp only
    split at h4
    ·rename_i e;rw[if_pos e];obtain⟨v,h5,h6⟩:=obind_eq h4;rw[h5,obind_some];injection h6 with h4;injection h4 with h4 h5;subst h4;subst h5
     exact⟨τ.ob,rfl,.same⟩
    ·cases h4
   ·cases h4
 | makeFunc fn first cs=>
   simp only[ares] at h ⊢;split at h
   ·split at h
    ·rename_i e;rw[if_pos e];obtain⟨v,h1,h2⟩:=obind_eq h;rw[vals_mono _ (fun p hp=>hv p (by simp only[Op.operands];simp;exact .inr (by simpa using hp))) _ h1,obind_some];split at h2
     ·rename_i e2;rw[if_pos e2];injection h2 with h4;injection h4 with h4 h5;subst h4;subst h5
      exact⟨τ.ob,rfl,.same⟩
     ·cases h2
    ·cases h
   ·cases h
 | convert s t y=>
   simp only[ares] at h ⊢;obtain⟨v,h1,h2⟩:=obind_eq h;rw[hv y (by simp[Op.operands]) _ h1,obind_some];split at h2
   ·try dsimp only
    split at h2
    ·split at h2
     ·injection h2 with h4;injection h4 with h4 h5;subst h4;subst h5
      exact⟨τ.ob,rfl,.same⟩
     ·cases h2
    ·cases h2
   ·cases h2
 | slice t y lo hi mx=>
   simp only[ares] at h ⊢;obtain⟨v,h1,h2⟩:=obind_eq h;obtain⟨l,h3,h4⟩:=obind_eq h2;obtain⟨hh,h5,h6⟩:=obind_eq h4;rw[hv y (by simp[Op.operands]) _ h1,obind_some,bnd_mono (fun z hz v hq=>hv z (by subst hz;simp[Op.operands]) v hq) h3,obind_some,bnd_mono (fun z hz v hq=>hv z (by subst hz;simp[Op.operands]) v hq) h5,obind_some];split at h6
   ·obtain⟨v2,h7,h8⟩:=obind_eq h6;injection h8 with h4;injection h4 with h4 h5;subst h4;subst h5
    exact⟨τ.ob,by rw[slc_mono (rowLen_mono ho v) h7];rfl,.same⟩
   ·rename_i mm;split at h6
    ·rename_i hi';obtain⟨m,h7,h8⟩:=obind_eq h6;obtain⟨v2,h9,h10⟩:=obind_eq h8;injection h10 with h4;injection h4 with h4 h5;subst h4;subst h5
     exact⟨τ.ob,by rw[if_pos hi',bnd_mono (fun z hz v hq=>hv z (by injection hz with hz;subst hz;simp[Op.operands]) v hq) h7,obind_some,h9];rfl,.same⟩
    ·cases h6
 | call c=>
   simp only[ares] at h ⊢;split at h
   ·rename_i g hc;split at h
    ·rename_i hisq;obtain⟨l,h1,h2⟩:=obind_eq h;rw[if_pos hisq,vals_mono _ (fun p hp=>hv p (by simp only[Op.operands,Call.operands,hc];simp;exact .inr (by simpa using hp))) _ h1,obind_some];unfold qcall at h2 ⊢;split at h2
     ·rename_i hi;rw[if_pos hi];obtain⟨⟨q1,q2⟩,h3,h4⟩:=obind_eq h2;rw[h3,obind_some];unfold qback at h4 ⊢;dsimp only at h4 ⊢;split at h4
      ·rename_i o b;split at h4
       ·rename_i hcc;injection h4 with h4;injection h4 with h4 h5;subst h4;subst h5
        have hfr:=hf (by simp[isAlloc,hc,hisq]);exact⟨_,by rw[if_pos ⟨hfr,hcc.2⟩],by simp only[wrO,wrCall,hc,hisq,if_true];exact .new⟩
       ·cases h4
      ·cases h4
     ·cases h2
    rename_i hisq;rw[if_neg hisq];obtain⟨v,h1,h2⟩:=obind_eq h;obtain⟨v2,h3,h4⟩:=obind_eq h2;rw[hv g (by simp[Op.operands,Call.operands,hc]) _ h1,obind_some,vals_mono _ (fun p hp=>hv p (by simp only[Op.operands,Call.operands,hc];simp;exact .inr (by simpa using hp))) _ h3,obind_some];split at h4
    ·try dsimp only
     obtain⟨v,h5,h6⟩:=obind_eq h4;obtain⟨v2,h7,h8⟩:=obind_eq h6;rw[(expo_mono ho 30).2 _ _ h5,obind_some,h7,obind_some];split at h8;rotate_left
     ·cases h8
     rename_i hbk;injection h8 with h4;injection h4 with h4 h5;subst h4;subst h5
     exact⟨τ.ob,by rw[if_pos hbk],by rw[wrO_call (fun b hb=>by rw[hc] at hb;cases hb) (fun g' hg'=>by rw[hc] at hg';injection hg' with hg';subst hg';simpa using hisq)];exact .same⟩
    ·cases h4
   ·rename_i hc;obtain⟨l,h1,h2⟩:=obind_eq h;rw[vals_mono _ (fun p hp=>hv p (by simp only[Op.operands,Call.operands,hc];simpa using hp)) _ h1,obind_some];split at h2
    ·rename_i s x' t t' hty;split at h2
     ·rename_i e;obtain⟨ob',r1,r2⟩:=appd_mono ho (hf (by simp[isAlloc,hc,isApp])) h2;refine⟨ob',by first | (rw[if_pos e];exact r1) | (simp only[hty];rw[if_pos e];exact r1),?_⟩;simp only[wrO,wrCall,hc,h1,isApp,if_true];cases s <;> exact r2
     ·cases h2
    ·cases h2
   ·rename_i hc;obtain⟨l,h1,h2⟩:=obind_eq h;rw[vals_mono _ (fun p hp=>hv p (by simp only[Op.operands,Call.operands,hc];simpa using hp)) _ h1,obind_some];split at h2
    ·split at h2
     ·rename_i e;injection h2 with h4;injection h4 with h4 h5;subst h4;subst h5
      exact⟨τ.ob,by rw[if_pos e],by rw[wrO_call (fun b hb=>by rw[hc] at hb;injection hb with hb;subst hb;simp) (fun g' hg'=>by rw[hc] at hg';cases hg')];exact .same⟩
     ·cases h2
    ·cases h2
   ·rename_i hc;obtain⟨v,h1,h2⟩:=obind_eq h;obtain⟨v2,h3,h4⟩:=obind_eq h2;rw[vals_mono _ (fun p hp=>hv p (by simp only[Op.operands,Call.operands,hc];simpa using hp)) _ h1,obind_some,h3,obind_some];injection h4 with h4;injection h4 with h4 h5;subst h4;subst h5
    exact⟨τ.ob,rfl,by rw[wrO_call (fun b hb=>by rw[hc] at hb;injection hb with hb;subst hb;simp) (fun g' hg'=>by rw[hc] at hg';cases hg')];exact .same⟩
   ·cases h
 | _=>simp only[ares] at h;cases h
theorem ares_free {op:Op} {r} (h:ares E d σ op=some r) (ha:isAlloc E.Q op=true):σ.free d=true:=by
 cases op with
 | alloc t=>
   simp only[ares] at h;split at h
   ·split at h
    ·assumption
    ·cases h
   ·cases h
 | box t y=>
   simp only[ares] at h;obtain⟨v,h1,h2⟩:=obind_eq h;split at h2
   ·rename_i hc;exact hc.2.2.1
   ·cases h2
 | buildSlice t n ps=>
   simp only[ares] at h;split at h
   ·split at h
    ·obtain⟨v,h1,h2⟩:=obind_eq h;split at h2;all_goals
      obtain⟨v2,h3,h4⟩:=obind_eq h2;split at h4
      ·rename_i hc;exact hc.1
      ·cases h4
    ·cases h
   ·cases h
 | makeSlice t y z=>
   simp only[ares] at h;split at h
   ·split at h
    ·obtain⟨v,h1,h2⟩:=obind_eq h;obtain⟨v2,h3,h4⟩:=obind_eq h2;split at h4
     ·split at h4
      ·rename_i hc;exact hc.2.2.2.2.2
      ·cases h4
     ·cases h4
    ·cases h
   ·cases h
 | call c=>
   simp only[isAlloc] at ha;split at ha
   ·rename_i b hc;cases b <;> first | cases ha | skip
    simp only[ares,hc] at h;obtain⟨l,h1,h2⟩:=obind_eq h;split at h2
    ·split at h2
     ·exact appd_free h2
     ·cases h2
    ·cases h2
   ·rename_i g hc;simp only[ares,hc] at h;rw[if_pos ha] at h;obtain⟨l,h1,h2⟩:=obind_eq h;unfold qcall at h2;split at h2
    ·obtain⟨q,h3,h4⟩:=obind_eq h2;unfold qback at h4;split at h4
     ·split at h4
      ·rename_i hcc;exact hcc.1
      ·cases h4
     ·cases h4
    ·cases h2
   ·cases ha
 | _=>cases ha
end
end Go.Abs
end
