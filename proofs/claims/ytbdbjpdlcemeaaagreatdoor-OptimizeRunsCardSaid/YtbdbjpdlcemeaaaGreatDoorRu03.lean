/- A part of a proof. -/
import Derived.Test.YtbdbjpdlcemeaaaGreatDoorRu00
import Derived.Test.YtbdbjpdlcemeaaaGreatDoorRu02
set_option linter.unusedSimpArgs false
set_option linter.unusedVariables false
section
namespace Go.Abs
section
variable (E:Env) (H:Nat→Hint) (k:Nat) (σ:St)
theorem Mf (a b:Code):a9 E H k (.seq a b) σ=nx (a9 E H k a σ) (a9 E H k b):=rfl
theorem Hn:a9 E H k .skip σ=some (.norm,σ):=rfl
def fin (E:Env) (σ':St):Option (AX × St):=some (.norm,kR E σ')
theorem Mg:fin E σ=some (.norm,⟨kept E.K σ.tm,σ.ob⟩):=rfl
theorem zK (id:Nat) (N:List Oper):a9 E H k (.region id ⟨N⟩ false) σ=av (gS E N N (σ.freeze (E.Z id))) (fin E):=rfl
theorem wx:σ.freeze []=σ:=rfl
theorem wy (o:Nat) (r:List Nat):σ.freeze (o::r)=(σ.lP o).freeze r:=rfl
theorem Ho (id:Nat) (N:List Oper):a9 E H k (.region id ⟨N⟩ true) σ=av (zk E id N σ) (fin E):=rfl
def Hp (E:Env) (L:List Oper) (σ:St):Option (List DH × List Nat)→Option St
 | none=>A6 E L L σ
 | some (hs,kg)=>if kg.all (fun d=>σ.free d)=true then lO E L hs L σ else none
theorem Dk (id:Nat) (L:List Oper):zk E id L σ=Hp E L σ (E.D id):=by
 unfold zk Hp;cases E.D id <;> rfl
theorem zL (L:List Oper):Hp E L σ none=A6 E L L σ:=rfl
theorem zM (L:List Oper) (hs:List DH) (kg:List Nat):Hp E L σ (some (hs,kg))=if kg.all (fun d=>σ.free d)=true then lO E L hs L σ else none:=rfl
def kAd (E:Env) (L:List Oper) (hs:List DH) (o:Oper) (r:List Oper) (σ:St) (σ':St):Option St:=if E8 E L o (hs.headD vP) σ σ'=true then lO E L hs.tail r σ' else none
theorem qR (L:List Oper) (hs:List DH):lO E L hs [] σ=some σ:=by cases hs <;> rfl
theorem pq (L:List Oper) (hs:List DH) (o:Oper) (r:List Oper):lO E L hs (o::r) σ=av (u_ E L o σ) (kAd E L hs o r σ):=by cases hs <;> rfl
theorem Mh (L:List Oper) (h:DH) (hs:List DH) (o:Oper) (r:List Oper) (σ':St):kAd E L (h::hs) o r σ σ'=if E8 E L o h σ σ'=true then lO E L hs r σ' else none:=rfl
def T2 (E:Env) (H:Nat→Hint) (k:Nat) (a b:Code) (σ:St):AV→Option (AX × St)
 | .bool q=>if q=true then a9 E H k a σ else a9 E H k b σ
 | _=>none
theorem Hq (c:Operand) (a b:Code):a9 E H k (.cond c a b) σ=av (σ.val E.G c) (T2 E H k a b σ):=by
 simp only[a9];rfl
theorem Dl (a b:Code) (q:Bool):T2 E H k a b σ (.bool q)=if q=true then a9 E H k a σ else a9 E H k b σ:=rfl
theorem Dm (id:Nat) (c:Code):a9 E H k (.block id c) σ=inBlock id (a9 E H k c σ):=rfl
theorem Hr (id:Nat):a9 E H k (.exit id) σ=some (.exit id,σ):=rfl
theorem Mi:a9 E H k .ret σ=some (.ret,σ):=rfl
theorem Hs (c:Code):a9 E H k (.loop c) σ=post (H (kE c)) (aG E.ty (a9 E H k c) (H (kE c)) k σ):=rfl
theorem tE (N:List Oper):A6 E N [] σ=some σ:=rfl
theorem qS (N:List Oper) (o:Oper) (r:List Oper):A6 E N (o::r) σ=av (u_ E N o σ) (A6 E N r):=rfl
theorem Mj (N:List Oper) (d:Tmp) (op:Op) (t:TypeId) (p:String) (af:Array Edge):u_ E N ⟨some d,op,t,p,af,none⟩ σ=av (aZ E d σ op) (bI E σ (some d)):=rfl
theorem Ht (N:List Oper) (op:Op) (t:TypeId) (p:String) (af:Array Edge):u_ E N ⟨none,op,t,p,af,none⟩ σ=av (aZ E 0 σ op) (bI E σ none):=rfl
def FM (E:Env) (σ:St) (d:Option Tmp) (op:Op) (b:Bool):AV→Option St
 | .bool q=>if q=b then av (aZ E (d.getD 0) σ op) (bI E σ d) else bI E σ d (.cE [],σ.ob)
 | .cE []=>bI E σ d (.cE [],σ.ob)
 | _=>none
theorem Hu (N:List Oper) (d:Option Tmp) (op:Op) (t:TypeId) (p:String) (af:Array Edge) (j:Nat) (b:Bool) :
 u_ E N ⟨d,op,t,p,af,some (j,b)⟩ σ=av (ib N j) fun t=>av (aA t σ.tm) (FM E σ d op b):=by
 simp only[u_];cases ib N j with
 | none=>rfl
 | some t=>
   simp only[av];cases aA t σ.tm with
   | none=>rfl
   | some v=>cases v <;> first | rfl | (rename_i l;cases l <;> rfl)
theorem qT (d:Tmp) (op:Op) (b:Bool):FM E σ (some d) op b (.cE [])=bI E σ (some d) (.cE [],σ.ob):=rfl
theorem zN (d:Tmp) (op:Op) (b q:Bool):FM E σ (some d) op b (.bool q)=if q=b then av (aZ E d σ op) (bI E σ (some d)) else bI E σ (some d) (.cE [],σ.ob):=rfl
theorem qU (N:List Oper):gS E N [] σ=some σ:=rfl
theorem pv (N:List Oper) (o:Oper) (r:List Oper):gS E N (o::r) σ=av (yN E N o σ) (gS E N r):=rfl
theorem Hv (N:List Oper) (d:Tmp) (op:Op) (t:TypeId) (p:String) (af:Array Edge):yN E N ⟨some d,op,t,p,af,none⟩ σ=av (dg E d σ op) (bI E σ (some d)):=rfl
theorem Dn (N:List Oper) (op:Op) (t:TypeId) (p:String) (af:Array Edge):yN E N ⟨none,op,t,p,af,none⟩ σ=av (dg E 0 σ op) (bI E σ none):=rfl
def Bx (E:Env) (σ:St) (d:Option Tmp) (op:Op) (b:Bool):AV→Option St
 | .bool q=>if q=b then av (dg E (d.getD 0) σ op) (bI E σ d) else bI E σ d (.cE [],σ.ob)
 | .cE []=>bI E σ d (.cE [],σ.ob)
 | _=>none
theorem Dp (N:List Oper) (d:Option Tmp) (op:Op) (t:TypeId) (p:String) (af:Array Edge) (j:Nat) (b:Bool) :
 yN E N ⟨d,op,t,p,af,some (j,b)⟩ σ=av (ib N j) fun t=>av (aA t σ.tm) (Bx E σ d op b):=by
 simp only[yN];cases ib N j with
 | none=>rfl
 | some t=>
   simp only[av];cases aA t σ.tm with
   | none=>rfl
   | some v=>cases v <;> first | rfl | (rename_i l;cases l <;> rfl)
theorem pw (d:Tmp) (op:Op) (b:Bool):Bx E σ (some d) op b (.cE [])=bI E σ (some d) (.cE [],σ.ob):=rfl
theorem wz (d:Tmp) (op:Op) (b q:Bool):Bx E σ (some d) op b (.bool q)=if q=b then av (dg E d σ op) (bI E σ (some d)) else bI E σ (some d) (.cE [],σ.ob):=rfl
theorem zO (t:Nat) (v:AV) (ob:List (Nat × Obj)):bI E σ (some t) (v,ob)=if t < E.n then some ⟨(t,v)::cK t σ.tm,ob⟩ else none:=rfl
theorem wA (v:AV) (ob:List (Nat × Obj)):bI E σ none (v,ob)=some ⟨σ.tm,ob⟩:=rfl
theorem Hw {α:Type} (t u:Nat) (v:α) (r:List (Nat × α)):aA t ((u,v)::r)=if u=t then some v else aA t r:=rfl
theorem tF {α:Type} (t:Nat):aA t ([]:List (Nat × α))=none:=rfl
theorem Hx {α:Type} (t u:Nat) (v:α) (r:List (Nat × α)):cK t ((u,v)::r)=if u=t then cK t r else (u,v)::cK t r:=rfl
theorem tG {α:Type} (t:Nat):cK t ([]:List (Nat × α))=[]:=rfl
theorem Hy {α:Type} (t:Nat) (v:α) (l:List (Nat × α)):bE t v l=(t,v)::cK t l:=rfl
theorem Hz {α:Type} (K t:Nat) (v:α) (r:List (Nat × α)):kept K ((t,v)::r)=if inK K t=true then (t,v)::kept K r else kept K r:=rfl
theorem tH {α:Type} (K:Nat):kept K ([]:List (Nat × α))=[]:=rfl
theorem wB (G:cC) (t:Tmp):σ.val G (.tmp t)=aA t σ.tm:=rfl
theorem wC (G:cC) (kk:IntKind) (n:Int):σ.val G (.const (.int kk n))=some (.int kk n):=rfl
theorem tI (G:cC) (b:Bool):σ.val G (.const (.bool b))=some (.bool b):=rfl
theorem wD (G:cC) (s:ByteArray):σ.val G (.const (.string s))=some (.str s):=rfl
theorem qV (G:cC):σ.val G (.const (.slice none 0 0))=some (.sl 0 ⟨true,some true,true⟩ []):=rfl
theorem wE (G:cC):σ.val G (.const (.pointer none))=some .iu:=rfl
theorem tJ (G:cC):σ.val G (.const .nilFunc)=some .dY:=rfl
theorem tK (G:cC) (f:FuncId):σ.val G (.func f)=some (.fn f []):=rfl
def T3:TypeId × AV→Option AV:=fun x=>some (.ro false x.1 x.2)
theorem tL (G:cC) (g:Nat):σ.val G (.global g)=av (G g) T3:=by
 simp only[St.val];cases G g <;> rfl
theorem Dq (t:TypeId) (x:AV):T3 (t,x)=some (.ro false t x):=rfl
def mb (σ:St) (v:AV):Option (AV × List (Nat × Obj)):=some (v,σ.ob)
theorem HA (v:AV):mb σ v=some (v,σ.ob):=rfl
variable (d:Nat)
theorem HB (x:Operand):aZ E d σ (.move x)=av (σ.val E.G x) (mb σ):=rfl
theorem zQ (x:Operand):aZ E d σ (.assign x)=av (σ.val E.G x) (mb σ):=rfl
def T4 (E:Env) (σ:St) (a b:Operand):AV→Option (AV × List (Nat × Obj))
 | .bool q=>if q=true then av (σ.val E.G a) (mb σ) else av (σ.val E.G b) (mb σ)
 | _=>none
theorem HC (c a b:Operand):aZ E d σ (.pick c a b)=av (σ.val E.G c) (T4 E σ a b):=by
 simp only[aZ];rfl
theorem Dr (a b:Operand) (q:Bool):T4 E σ a b (.bool q)=if q=true then av (σ.val E.G a) (mb σ) else av (σ.val E.G b) (mb σ):=rfl
def Ml (d:Nat) (t:TypeId) (σ:St) (T:kD):Option (AV × List (Nat × Obj)):=if σ.free d=true then some (.ptr d (.box t) [],bE d ⟨.box t,true,[T.zero]⟩ σ.ob) else none
theorem Ds (t:TypeId):aZ E d σ (.alloc t)=av (E.ty t) (Ml d t σ):=by
 simp only[aZ];cases E.ty t <;> rfl
theorem zS (t:TypeId) (kk:TK) (s b:Nat) (z:AV):Ml d t σ ⟨kk,s,b,z⟩=if σ.free d=true then some (.ptr d (.box t) [],bE d ⟨.box t,true,[z]⟩ σ.ob) else none:=rfl
def VO (E:Env) (d:Nat) (t:TypeId) (σ:St) (v:AV):Option (AV × List (Nat × Obj)):=
 if (fits E.ty t v&&(kx v&&(σ.free d&& !bA d v)))=true then some (.ptr d (.box t) [],bE d ⟨.box t,fresh v,[v]⟩ σ.ob) else none
theorem Mm (t:TypeId) (x:Operand):aZ E d σ (.box t x)=av (σ.val E.G x) (VO E d t σ):=by
 simp only[aZ];congr 1;funext v;simp only[VO,Bool.and_eq_true,Bool.not_eq_true']
theorem HD (t:TypeId) (v:AV):VO E d t σ v=if (fits E.ty t v&&(kx v&&(σ.free d&& !bA d v)))=true then some (.ptr d (.box t) [],bE d ⟨.box t,fresh v,[v]⟩ σ.ob) else none:=rfl
def FN (E:Env) (σ:St) (t:TypeId) (r:RT) (p:List Nat) (b:Obj):Option (AV × List (Nat × Obj)):=
 if b.r=r then av (b.tree p) fun v=>if fits E.ty t v=true then some (b.seen v,σ.ob) else none else none
def HE (E:Env) (σ:St) (t:TypeId):AV→Option (AV × List (Nat × Obj))
 | .ptr o r p=>av (aA o σ.ob) (FN E σ t r p)
 | .ro fr _ x=>if fits E.ty t x=true then some (cL fr x,σ.ob) else none
 | _=>none
theorem HF (t:TypeId) (x:Operand):aZ E d σ (.load t x)=av (σ.val E.G x) (HE E σ t):=by
 simp only[aZ];congr 1;funext v;cases v <;> try rfl
 rename_i o r p;simp only[HE];cases aA o σ.ob <;> rfl
theorem Dt (t:TypeId) (o:Nat) (r:RT) (p:List Nat):HE E σ t (.ptr o r p)=av (aA o σ.ob) (FN E σ t r p):=rfl
theorem zT (t u:TypeId) (fr:Bool) (x:AV):HE E σ t (.ro fr u x)=if fits E.ty t x=true then some (cL fr x,σ.ob) else none:=rfl
def T5 (E:Env) (σ:St) (t:TypeId) (b:Obj) (v:AV):Option (AV × List (Nat × Obj)):=if fits E.ty t v=true then some (b.seen v,σ.ob) else none
theorem zU (t:TypeId) (r r':RT) (p:List Nat) (fr:Bool) (es:List AV):FN E σ t r p ⟨r',fr,es⟩=if r'=r then av (Obj.tree ⟨r',fr,es⟩ p) (T5 E σ t ⟨r',fr,es⟩) else none:=rfl
theorem Dv (t:TypeId) (b:Obj) (v:AV):T5 E σ t b v=if fits E.ty t v=true then some (b.seen v,σ.ob) else none:=rfl
theorem tM (t:TypeId) (fr:Bool) (es:List AV) (v:AV):Obj.seen ⟨.box t,fr,es⟩ v=v:=rfl
theorem tN (t:TypeId) (fr:Bool) (es:List AV) (v:AV):Obj.seen ⟨.row t,fr,es⟩ v=cL fr v:=rfl
theorem tO (t:TypeId) (fr:Bool) (es:List AV) (v:AV):Obj.seen ⟨.oQ t,fr,es⟩ v=v:=rfl
theorem tP (t:TypeId) (fr:Bool) (x:AV) (p:List Nat):Obj.tree ⟨.box t,fr,[x]⟩ p=tree x p:=rfl
def Dw (p:List Nat) (x:AV):Option AV:=tree x p
theorem Dx (p:List Nat) (x:AV):Dw p x=tree x p:=rfl
theorem tQ (t:TypeId) (fr:Bool) (es:List AV) (i:Nat) (p:List Nat):Obj.tree ⟨.oQ t,fr,es⟩ (i::p)=av es[i]? (Dw p):=by
 simp only[Obj.tree];cases es[i]? <;> rfl
theorem tR (t:TypeId) (fr:Bool) (es:List AV) (i:Nat) (p:List Nat):Obj.tree ⟨.row t,fr,es⟩ (i::p)=av es[i]? (Dw p):=by
 simp only[Obj.tree];cases es[i]? <;> rfl
theorem tS (x:AV):tree x []=some x:=by cases x <;> rfl
theorem wF (t:TypeId) (fs:List AV) (i:Nat) (p:List Nat):tree (.st t fs) (i::p)=av fs[i]? (Dw p):=by
 simp only[tree];cases fs[i]? <;> rfl
theorem wG (t:TypeId) (fs:List AV) (i:Nat) (p:List Nat):tree (.ar t fs) (i::p)=av fs[i]? (Dw p):=by
 simp only[tree];cases fs[i]? <;> rfl
def By (E:Env) (σ:St) (t:TypeId) (o:Nat) (r:RT) (p:List Nat) (v:AV) (b:Obj):Option (AV × List (Nat × Obj)):=
 if b.r=r∧fits E.ty t v=true∧kx v=true∧r.di E.ty p=some t then av (b.cW p v) fun c=>some (.undef,bE o c σ.ob) else none
def vC (E:Env) (σ:St) (t:TypeId) (a v:AV):Option (AV × List (Nat × Obj)):=
 match a with
 | .ptr o r p=>av (aA o σ.ob) (By E σ t o r p v)
 | _=>none
def FO (E:Env) (σ:St) (t:TypeId) (x:Operand) (a:AV):Option (AV × List (Nat × Obj)):=av (σ.val E.G x) (vC E σ t a)
theorem Dy (t:TypeId) (y x:Operand):aZ E d σ (.store t y x)=av (σ.val E.G y) (FO E σ t x):=by
 simp only[aZ];congr 1;funext a;simp only[FO];congr 1;funext v;cases a <;> try rfl
 rename_i o r p;simp only[vC];cases aA o σ.ob <;> rfl
theorem zV (t:TypeId) (x:Operand) (a:AV):FO E σ t x a=av (σ.val E.G x) (vC E σ t a):=rfl
theorem wH (t:TypeId) (o:Nat) (r:RT) (p:List Nat) (v:AV):vC E σ t (.ptr o r p) v=av (aA o σ.ob) (By E σ t o r p v):=rfl
def acE (o:Nat) (σ:St) (c:Obj):Option (AV × List (Nat × Obj)):=some (.undef,bE o c σ.ob)
theorem HG (o:Nat) (c:Obj):acE o σ c=some (.undef,bE o c σ.ob):=rfl
theorem wI (t:TypeId) (o:Nat) (r r':RT) (p:List Nat) (v:AV) (fr:Bool) (es:List AV):By E σ t o r p v ⟨r',fr,es⟩ =
 if r'=r∧fits E.ty t v=true∧kx v=true∧r.di E.ty p=some t then av (Obj.cW ⟨r',fr,es⟩ p v) (acE o σ) else none:=rfl
def kPl (r:RT) (fr:Bool) (z:AV):Option Obj:=some ⟨r,fr,[z]⟩
theorem Mn (r:RT) (fr:Bool) (z:AV):kPl r fr z=some ⟨r,fr,[z]⟩:=rfl
theorem qW (t:TypeId) (fr:Bool) (x:AV) (p:List Nat) (v:AV):Obj.cW ⟨.box t,fr,[x]⟩ p v=if (gC x p&& !flat v)=true then none else av (cW x p v) (kPl (.box t) (fr&&fresh v)):=by
 simp only[Obj.cW];split
 ·rfl
 ·cases cW x p v <;> rfl
def VP (r:RT) (fr:Bool) (es:List AV) (i:Nat) (z:AV):Option Obj:=some ⟨r,fr,es.set i z⟩
theorem HH (r:RT) (fr:Bool) (es:List AV) (i:Nat) (z:AV):VP r fr es i z=some ⟨r,fr,es.set i z⟩:=rfl
def VQ (t:TypeId) (fr:Bool) (es:List AV) (i:Nat) (p:List Nat) (v x:AV):Option Obj:=if (gC x p&& !flat v)=true then none else av (cW x p v) (VP (.row t) (fr&&fresh v) es i)
theorem HI (t:TypeId) (fr:Bool) (es:List AV) (i:Nat) (p:List Nat) (v x:AV):VQ t fr es i p v x=if (gC x p&& !flat v)=true then none else av (cW x p v) (VP (.row t) (fr&&fresh v) es i):=rfl
theorem qX (t:TypeId) (fr:Bool) (es:List AV) (i:Nat) (p:List Nat) (v:AV):Obj.cW ⟨.row t,fr,es⟩ (i::p) v=if closed v=true then av es[i]? (VQ t fr es i p v) else none:=by
 simp only[Obj.cW];split
 ·cases es[i]? with
  | none=>rfl
  | some x=>
    simp only[av,VQ];split
    ·rfl
    ·cases cW x p v <;> rfl
 ·rfl
theorem qY (x v:AV):cW x [] v=some v:=by cases x <;> rfl
def kSt (t:TypeId) (fs:List AV) (i:Nat) (z:AV):Option AV:=some (.st t (fs.set i z))
theorem Mo (t:TypeId) (fs:List AV) (i:Nat) (z:AV):kSt t fs i z=some (.st t (fs.set i z)):=rfl
def kAr (t:TypeId) (fs:List AV) (i:Nat) (z:AV):Option AV:=some (.ar t (fs.set i z))
theorem Mp (t:TypeId) (fs:List AV) (i:Nat) (z:AV):kAr t fs i z=some (.ar t (fs.set i z)):=rfl
def wJ (p:List Nat) (v:AV) (g:AV→Option AV) (y:AV):Option AV:=av (cW y p v) g
theorem zW (p:List Nat) (v:AV) (g:AV→Option AV) (y:AV):wJ p v g y=av (cW y p v) g:=rfl
theorem tT (t:TypeId) (fs:List AV) (i:Nat) (p:List Nat) (v:AV):cW (.st t fs) (i::p) v=av fs[i]? (wJ p v (kSt t fs i)):=by
 simp only[cW];cases fs[i]? with
 | none=>rfl
 | some y=>simp only[av,wJ];cases cW y p v <;> rfl
theorem tU (t:TypeId) (fs:List AV) (i:Nat) (p:List Nat) (v:AV):cW (.ar t fs) (i::p) v=av fs[i]? (wJ p v (kAr t fs i)):=by
 simp only[cW];cases fs[i]? with
 | none=>rfl
 | some y=>simp only[av,wJ];cases cW y p v <;> rfl
theorem nX (x:AV):gC x []=false:=by cases x <;> rfl
theorem px (t:TypeId) (es:List AV) (i:Nat) (p:List Nat):gC (.ar t es) (i::p)=true:=rfl
theorem py (t:TypeId) (fs:List AV) (i:Nat) (p:List Nat):gC (.st t fs) (i::p)=match fs[i]? with | some y=>gC y p | none=>false:=rfl
def VS (σ:St) (o:Nat) (r:RT) (p:List Nat) (f:Nat) (T:kD):Option (AV × List (Nat × Obj)):=
 match T with
 | ⟨.struct ts,_,_,_⟩=>if f < ts.length then some (.ptr o r (p++[f]),σ.ob) else none
 | _=>none
def Mq (σ:St) (fr:Bool) (fs:List AV) (f:Nat) (T:kD):Option (AV × List (Nat × Obj)):=
 match T with
 | ⟨.struct ts,_,_,_⟩=>av ts[f]? fun u=>av fs[f]? fun y=>some (.ro fr u y,σ.ob)
 | _=>none
def wK (E:Env) (σ:St) (s:TypeId) (f:Nat):AV→Option (AV × List (Nat × Obj))
 | .ptr o r p=>if r.di E.ty p=some s then av (E.ty s) (VS σ o r p f) else none
 | .ro fr _ (.st t fs)=>if t=s then av (E.ty s) (Mq σ fr fs f) else none
 | _=>none
theorem qZ (s:TypeId) (x:Operand) (f:Nat):aZ E d σ (.fieldAddr s x f)=av (σ.val E.G x) (wK E σ s f):=by
 simp only[aZ];congr 1;funext v;cases v <;> try rfl
 ·rename_i fr t x;cases x <;> try rfl
  rename_i t fs;simp only[wK];split
  ·cases hD:E.ty s with
   | none=>rfl
   | some T=>obtain⟨kk,_,_,_⟩:=T;cases kk <;> rfl
  ·rfl
 ·rename_i o r p;simp only[wK];split
  ·cases hD:E.ty s with
   | none=>rfl
   | some T=>obtain⟨kk,_,_,_⟩:=T;cases kk <;> rfl
  ·rfl
theorem zX (s:TypeId) (f o:Nat) (r:RT) (p:List Nat):wK E σ s f (.ptr o r p)=if r.di E.ty p=some s then av (E.ty s) (VS σ o r p f) else none:=rfl
theorem wL (s t u:TypeId) (f:Nat) (fr:Bool) (fs:List AV):wK E σ s f (.ro fr u (.st t fs))=if t=s then av (E.ty s) (Mq σ fr fs f) else none:=rfl
theorem HJ (o:Nat) (r:RT) (p:List Nat) (f:Nat) (ts:List TypeId) (s b:Nat) (z:AV):VS σ o r p f ⟨.struct ts,s,b,z⟩=if f < ts.length then some (.ptr o r (p++[f]),σ.ob) else none:=rfl
def VT (σ:St) (fr:Bool) (u:TypeId) (y:AV):Option (AV × List (Nat × Obj)):=some (.ro fr u y,σ.ob)
theorem Mr (fr:Bool) (u:TypeId) (y:AV):VT σ fr u y=some (.ro fr u y,σ.ob):=rfl
def Ms (σ:St) (fr:Bool) (fs:List AV) (f:Nat) (u:TypeId):Option (AV × List (Nat × Obj)):=av fs[f]? (VT σ fr u)
theorem zY (fr:Bool) (fs:List AV) (f:Nat) (u:TypeId):Ms σ fr fs f u=av fs[f]? (VT σ fr u):=rfl
theorem Dz (fr:Bool) (fs:List AV) (f:Nat) (ts:List TypeId) (s b:Nat) (z:AV):Mq σ fr fs f ⟨.struct ts,s,b,z⟩=av ts[f]? (Ms σ fr fs f):=rfl
def Mt (E:Env) (σ:St) (op:BinOp) (t:TypeId) (a b:AV):Option (AV × List (Nat × Obj)):=av (bin E.ty t op a b) (mb σ)
def acF (E:Env) (σ:St) (op:BinOp) (t:TypeId) (y:Operand) (a:AV):Option (AV × List (Nat × Obj)):=av (σ.val E.G y) (Mt E σ op t a)
theorem DA (op:BinOp) (t u:TypeId) (x y:Operand):aZ E d σ (.binOp op t x y u)=av (σ.val E.G x) (acF E σ op t y):=rfl
theorem HK (op:BinOp) (t:TypeId) (y:Operand) (a:AV):acF E σ op t y a=av (σ.val E.G y) (Mt E σ op t a):=rfl
theorem DB (op:BinOp) (t:TypeId) (a b:AV):Mt E σ op t a b=av (bin E.ty t op a b) (mb σ):=rfl
def kUn (σ:St) (op:UnOp) (a:AV):Option (AV × List (Nat × Obj)):=av (U1 op a) (mb σ)
theorem HL (op:UnOp) (t:TypeId) (x:Operand):aZ E d σ (.unOp op t x)=av (σ.val E.G x) (kUn σ op):=rfl
theorem Mu (op:UnOp) (a:AV):kUn σ op a=av (U1 op a) (mb σ):=rfl
theorem Mv (b:Bool):U1 .not (.bool b)=some (.bool (!b)):=rfl
theorem HM (kk:IntKind) (n:Int):U1 .xor (.int kk n)=some (.int kk (bV .xor kk (if kk.signed then -1 else kk.max) n)):=rfl
theorem Mw (kk:IntKind) (n:Int):U1 .neg (.int kk n)=some (.int kk (kk.wrap (-n))):=rfl
def VU (σ:St):AV→Option (AV × List (Nat × Obj))
 | .ptr o r p=>some (.ptr o r p,σ.ob)
 | .ro fr t y=>some (.ro fr t y,σ.ob)
 | _=>none
theorem tV (x:Operand):aZ E d σ (.nilCheck x)=av (σ.val E.G x) (VU σ):=by
 simp only[aZ];congr 1
theorem HN (o:Nat) (r:RT) (p:List Nat):VU σ (.ptr o r p)=some (.ptr o r p,σ.ob):=rfl
theorem DC (fr:Bool) (t:TypeId) (y:AV):VU σ (.ro fr t y)=some (.ro fr t y,σ.ob):=rfl
def VV (σ:St) (i:Nat):AV→Option (AV × List (Nat × Obj))
 | .cE vs=>av vs[i]? (mb σ)
 | _=>none
theorem wM (x:Operand) (i:Nat):aZ E d σ (.extract x i)=av (σ.val E.G x) (VV σ i):=by
 simp only[aZ];congr 1;funext v;cases v <;> try rfl
 rename_i vs;simp only[VV];cases vs[i]? <;> rfl
theorem HO (i:Nat) (vs:List AV):VV σ i (.cE vs)=av vs[i]? (mb σ):=rfl
end
section
variable (ty:bX) (t:TypeId)
theorem Mx (kk:IntKind) (a b:Int):bin ty t .add (.int kk a) (.int kk b)=some (.int kk (kk.wrap (a+b))):=by simp[bin,b2]
theorem My (kk:IntKind) (a b:Int):bin ty t .sub (.int kk a) (.int kk b)=some (.int kk (kk.wrap (a - b))):=by simp[bin,b2]
theorem Mz (kk:IntKind) (a b:Int):bin ty t .mul (.int kk a) (.int kk b)=some (.int kk (kk.wrap (a * b))):=by simp[bin,b2]
theorem MA (kk:IntKind) (a b:Int):bin ty t .eql (.int kk a) (.int kk b)=some (.bool (a==b)):=by simp[bin,b2]
theorem MB (kk:IntKind) (a b:Int):bin ty t .neq (.int kk a) (.int kk b)=some (.bool (!(a==b))):=by simp[bin,b2]
theorem MC (kk:IntKind) (a b:Int):bin ty t .lss (.int kk a) (.int kk b)=some (.bool (decide (a < b))):=by simp[bin,b2]
theorem MD (kk:IntKind) (a b:Int):bin ty t .leq (.int kk a) (.int kk b)=some (.bool (decide (a≤b))):=by simp[bin,b2]
theorem ME (kk:IntKind) (a b:Int):bin ty t .gtr (.int kk a) (.int kk b)=some (.bool (decide (b < a))):=by simp[bin,b2]
theorem MF (kk:IntKind) (a b:Int):bin ty t .geq (.int kk a) (.int kk b)=some (.bool (decide (b≤a))):=by simp[bin,b2]
theorem MG (kk:IntKind) (a b:Int):bin ty t .and (.int kk a) (.int kk b)=some (.int kk (bV .and kk a b)):=by simp[bin,b2]
theorem T6 (kk:IntKind) (a b:Int):bin ty t .or (.int kk a) (.int kk b)=some (.int kk (bV .or kk a b)):=by simp[bin,b2]
theorem MH (kk:IntKind) (a b:Int):bin ty t .xor (.int kk a) (.int kk b)=some (.int kk (bV .xor kk a b)):=by simp[bin,b2]
theorem zZ (kk:IntKind) (a b:Int):bin ty t .andNot (.int kk a) (.int kk b)=some (.int kk (bV .andNot kk a b)):=by simp[bin,b2]
theorem MI (kk:IntKind) (a b:Int):bin ty t .quo (.int kk a) (.int kk b)=if b=0 then none else some (.int kk (kk.wrap (a.tdiv b))):=by simp[bin,b2]
theorem MJ (kk:IntKind) (a b:Int):bin ty t .rem (.int kk a) (.int kk b)=if b=0 then none else some (.int kk (a.tmod b)):=by simp[bin,b2]
theorem ML (kk k':IntKind) (a b:Int):bin ty t .shl (.int kk a) (.int k' b)=if b < 0 then none else some (.int kk (yL kk a b)):=rfl
theorem MM (kk k':IntKind) (a b:Int):bin ty t .shr (.int kk a) (.int k' b)=if b < 0 then none else some (.int kk (su kk a b)):=rfl
theorem MN (a b:Bool):bin ty t .eql (.bool a) (.bool b)=if isBool ty t=true then some (.bool (a==b)) else none:=rfl
theorem MO (a b:Bool):bin ty t .neq (.bool a) (.bool b)=if isBool ty t=true then some (.bool (!(a==b))) else none:=rfl
theorem MP (a b:ByteArray):bin ty t .eql (.str a) (.str b)=some (.bool (a.toList==b.toList)):=rfl
theorem MQ (a b:ByteArray):bin ty t .neq (.str a) (.str b)=some (.bool (!(a.toList==b.toList))):=rfl
theorem MR (u:TypeId) (fr ti f2:Bool) (t2:Bool) (es:List AV) (b:Bool):bin ty t .eql (.sl u ⟨fr,some b,ti⟩ es) (.sl 0 ⟨f2,some true,t2⟩ [])=if isSlice ty t=true then some (.bool b) else none:=rfl
theorem MT (u:TypeId) (fr ti f2:Bool) (t2:Bool) (es:List AV) (b:Bool):bin ty t .neq (.sl u ⟨fr,some b,ti⟩ es) (.sl 0 ⟨f2,some true,t2⟩ [])=if isSlice ty t=true then some (.bool (!b)) else none:=rfl
def jd (ty:bX) (t:TypeId):Bool:=match ty t with | some d=>fv d.k | none=>false
theorem wN (u:TypeId) (fs:List AV):fits ty t (.st u fs)=(u==t):=rfl
theorem wO (u:TypeId) (fs:List AV):fits ty t (.ar u fs)=(u==t):=rfl
theorem tW (k:IntKind) (n:Int):fits ty t (.int k n)=jd ty t:=rfl
theorem q8 (b:Bool):fits ty t (.bool b)=jd ty t:=rfl
theorem tX (b:ByteArray):fits ty t (.str b)=jd ty t:=rfl
theorem wP (u:TypeId) (fl:Fl) (es:List AV):fits ty t (.sl u fl es)=jd ty t:=rfl
theorem tY (o:Nat) (u:TypeId) (i n:Nat):fits ty t (.own o u i n)=jd ty t:=rfl
theorem tZ (o:Nat) (r:RT) (p:List Nat):fits ty t (.ptr o r p)=jd ty t:=rfl
theorem wQ (fr:Bool) (u:TypeId) (x:AV):fits ty t (.ro fr u x)=jd ty t:=rfl
theorem wR (f:FuncId) (cs:List AV):fits ty t (.fn f cs)=jd ty t:=rfl
theorem q9:fits ty t .iu=jd ty t:=rfl
theorem q_:fits ty t .dY=jd ty t:=rfl
theorem z5 (u:TypeId) (p:List Nat):RT.di ty (.box u) p=di ty u p:=rfl
theorem z6 (u:TypeId) (i:Nat) (p:List Nat):RT.di ty (.oQ u) (i::p)=di ty u p:=rfl
theorem z7 (u:TypeId) (i:Nat) (p:List Nat):RT.di ty (.row u) (i::p)=di ty u p:=rfl
theorem z9 (u:TypeId):di ty u []=some u:=rfl
def kTy (ty:bX) (i:Nat) (p:List Nat) (T:kD):Option TypeId:=
 match T with
 | ⟨.struct fs,_,_,_⟩=>av fs[i]? fun u=>di ty u p
 | ⟨.array _ e,_,_,_⟩=>di ty e p
 | _=>none
def acG (ty:bX) (p:List Nat) (u:TypeId):Option TypeId:=di ty u p
theorem HP (p:List Nat) (u:TypeId):acG ty p u=di ty u p:=rfl
theorem wS (u:TypeId) (i:Nat) (p:List Nat):di ty u (i::p)=av (ty u) (kTy ty i p):=by
 simp only[di];cases ty u with
 | none=>rfl
 | some T=>
   obtain⟨kk,_,_,_⟩:=T;cases kk <;> try rfl
   rename_i fs;simp only[av,kTy];cases fs[i]? <;> rfl
theorem z_ (i:Nat) (p:List Nat) (fs:List TypeId) (s b:Nat) (z:AV):kTy ty i p ⟨.struct fs,s,b,z⟩=av fs[i]? (acG ty p):=rfl
theorem Aa (i:Nat) (p:List Nat) (n:Nat) (e:TypeId) (s b:Nat) (z:AV):kTy ty i p ⟨.array n e,s,b,z⟩=di ty e p:=rfl
end
section
variable (E:Env) (σ:St) (d:Nat)
def Q9 (ty:bX) (σ:St) (e:TypeId) (x ix:AV):Option (AV × List (Nat × Obj)):=
 match x,ix with
 | .own o u off n,.int _ i=>if u=e∧0≤i∧i < n then some (.ptr o (Jt ty e) [off+i.toNat],σ.ob) else none
 | .sl u fl es,.int _ i=>if u=e∧0≤i then av es[i.toNat]? (VT σ fl.fr e) else none
 | _,_=>none
def Q_ (E:Env) (σ:St) (t:TypeId) (n:Nat) (e:TypeId) (x ix:AV):Option (AV × List (Nat × Obj)):=
 match x,ix with
 | .ptr o r p,.int _ i=>if r.di E.ty p=some t∧0≤i∧i < n then some (.ptr o r (p++[i.toNat]),σ.ob) else none
 | .ro fr _ (.ar u es),.int _ i=>if u=t∧0≤i then av es[i.toNat]? (VT σ fr e) else none
 | _,_=>none
def MU (E:Env) (σ:St) (e:TypeId) (ix:Operand) (x:AV):Option (AV × List (Nat × Obj)):=av (σ.val E.G ix) (Q9 E.ty σ e x)
def MV (E:Env) (σ:St) (t:TypeId) (n:Nat) (e:TypeId) (ix:Operand) (x:AV):Option (AV × List (Nat × Obj)):=av (σ.val E.G ix) (Q_ E σ t n e x)
def kIx (E:Env) (σ:St) (t:TypeId) (x ix:Operand) (T:kD):Option (AV × List (Nat × Obj)):=
 match T with
 | ⟨.slice e,_,_,_⟩=>av (σ.val E.G x) (MU E σ e ix)
 | ⟨.array n e,_,_,_⟩=>av (σ.val E.G x) (MV E σ t n e ix)
 | _=>none
theorem rf (t:TypeId) (x ix:Operand):aZ E d σ (.indexAddr t x ix)=av (E.ty t) (kIx E σ t x ix):=by
 simp only[aZ];cases hD:E.ty t with
 | none=>rfl
 | some T=>
   obtain⟨kk,_,_,_⟩:=T;cases kk <;> rfl
theorem Ab (t:TypeId) (x ix:Operand) (e:TypeId) (s b:Nat) (z:AV):kIx E σ t x ix ⟨.slice e,s,b,z⟩=av (σ.val E.G x) (MU E σ e ix):=rfl
theorem Ac (t:TypeId) (x ix:Operand) (n:Nat) (e:TypeId) (s b:Nat) (z:AV):kIx E σ t x ix ⟨.array n e,s,b,z⟩=av (σ.val E.G x) (MV E σ t n e ix):=rfl
theorem DD (e:TypeId) (ix:Operand) (x:AV):MU E σ e ix x=av (σ.val E.G ix) (Q9 E.ty σ e x):=rfl
theorem DE (t:TypeId) (n:Nat) (e:TypeId) (ix:Operand) (x:AV):MV E σ t n e ix x=av (σ.val E.G ix) (Q_ E σ t n e x):=rfl
theorem t_ (ty:bX) (e:TypeId) (o:Nat) (u:TypeId) (off n:Nat) (kk:IntKind) (i:Int):Q9 ty σ e (.own o u off n) (.int kk i)=if u=e∧0≤i∧i < n then some (.ptr o (Jt ty e) [off+i.toNat],σ.ob) else none:=rfl
theorem wT (ty:bX) (e u:TypeId) (fl:Fl) (es:List AV) (kk:IntKind) (i:Int):Q9 ty σ e (.sl u fl es) (.int kk i)=if u=e∧0≤i then av es[i.toNat]? (VT σ fl.fr e) else none:=rfl
theorem ua (t:TypeId) (n:Nat) (e:TypeId) (o:Nat) (r:RT) (p:List Nat) (kk:IntKind) (i:Int):Q_ E σ t n e (.ptr o r p) (.int kk i)=if r.di E.ty p=some t∧0≤i∧i < n then some (.ptr o r (p++[i.toNat]),σ.ob) else none:=rfl
theorem wU (t:TypeId) (n:Nat) (e:TypeId) (fr:Bool) (u v:TypeId) (es:List AV) (kk:IntKind) (i:Int):Q_ E σ t n e (.ro fr v (.ar u es)) (.int kk i)=if u=t∧0≤i then av es[i.toNat]? (VT σ fr e) else none:=rfl
def Bz (E:Env) (σ:St) (t:TypeId) (x ix:AV):Option (AV × List (Nat × Obj)):=
 match x,ix with
 | .str s,.int _ i=>if isStr E.ty t=true∧0≤i then av s[i.toNat]? fun y=>some (.int .u8 y.toNat,σ.ob) else none
 | _,_=>none
def MW (E:Env) (σ:St) (t:TypeId) (ix:Operand) (x:AV):Option (AV × List (Nat × Obj)):=av (σ.val E.G ix) (Bz E σ t x)
theorem DF (t:TypeId) (x ix:Operand):aZ E d σ (.index t x ix)=av (σ.val E.G x) (MW E σ t ix):=by
 simp only[aZ];congr 1
theorem Ad (t:TypeId) (ix:Operand) (x:AV):MW E σ t ix x=av (σ.val E.G ix) (Bz E σ t x):=rfl
theorem wV (t:TypeId) (s:ByteArray) (kk:IntKind) (i:Int):Bz E σ t (.str s) (.int kk i)=if isStr E.ty t=true∧0≤i then av s[i.toNat]? fun y=>some (.int .u8 y.toNat,σ.ob) else none:=rfl
theorem uc (G:cC):dZ G σ []=some []:=rfl
def T8 (G:cC) (σ:St) (r:List Operand) (v:AV):Option (List AV):=av (dZ G σ r) fun l=>some (v::l)
def sK (v:AV) (l:List AV):Option (List AV):=some (v::l)
theorem rh (G:cC) (x:Operand) (r:List Operand):dZ G σ (x::r)=av (σ.val G x) (T8 G σ r):=rfl
theorem DG (G:cC) (r:List Operand) (v:AV):T8 G σ r v=av (dZ G σ r) (sK v):=rfl
theorem Ae (v:AV) (l:List AV):sK v l=some (v::l):=rfl
def kBk (σ:St) (az:List AV) (v:AV):Option (AV × List (Nat × Obj)):=if closed.fq az=true∨iw v=true then some (v,σ.ob) else none
theorem MX (az:List AV) (v:AV):kBk σ az v=if closed.fq az=true∨iw v=true then some (v,σ.ob) else none:=rfl
def FP (E:Env) (σ:St) (f:FuncId) (az l:List AV):Option (AV × List (Nat × Obj)):=av (E.C f l) (kBk σ az)
theorem Af (f:FuncId) (az l:List AV):FP E σ f az l=av (E.C f l) (kBk σ az):=rfl
def wW (E:Env) (σ:St) (g:AV) (l:List AV):Option (AV × List (Nat × Obj)):=
 match g with
 | .fn f cs=>av (cH.gQ E.ty σ.ob 30 (l++cs)) (FP E σ f (l++cs))
 | _=>none
theorem Ag (f:FuncId) (cs l:List AV):wW E σ (.fn f cs) l=av (cH.gQ E.ty σ.ob 30 (l++cs)) (FP E σ f (l++cs)):=rfl
def T9 (E:Env) (σ:St) (az:List Operand) (g:AV):Option (AV × List (Nat × Obj)):=av (dZ E.G σ az) (wW E σ g)
theorem DI (az:List Operand) (g:AV):T9 E σ az g=av (dZ E.G σ az) (wW E σ g):=rfl
theorem BA (g:Operand) (az:List Operand) (ts:Array TypeId):aZ E d σ (.call ⟨.value g,⟨az⟩,ts⟩)=if Ld E.Q g=true then av (dZ E.G σ az) (pj E d σ (vR g)) else av (σ.val E.G g) (T9 E σ az):=by
 simp only[aZ];congr 1
def MY (σ:St) (n:Int):Option (AV × List (Nat × Obj)):=some (.int .i64 n,σ.ob)
theorem HQ (n:Int):MY σ n=some (.int .i64 n,σ.ob):=rfl
def acH (E:Env) (σ:St) (ts:List TypeId) (l:List AV):Option (AV × List (Nat × Obj)):=av (lenOf E.ty ts l) (MY σ)
theorem MZ (az:List Operand) (ts:List TypeId):aZ E d σ (.call ⟨.builtin .len,⟨az⟩,⟨ts⟩⟩)=av (dZ E.G σ az) (acH E σ ts):=by
 simp only[aZ];congr 1
theorem HR (ts:List TypeId) (l:List AV):acH E σ ts l=av (lenOf E.ty ts l) (MY σ):=rfl
theorem ud (ty:bX) (t u:TypeId) (fl:Fl) (es:List AV):lenOf ty [t] [.sl u fl es]=if isSlice ty t=true then some (es.length:Int) else none:=rfl
theorem ri (ty:bX) (t u:TypeId) (o i n:Nat):lenOf ty [t] [.own o u i n]=if isSlice ty t=true then some (n:Int) else none:=rfl
theorem rj (ty:bX) (t:TypeId) (s:ByteArray):lenOf ty [t] [.str s]=if isStr ty t=true then some (s.size:Int) else none:=rfl
section
variable (ty:bX) (ob:List (Nat × Obj)) (k:Nat)
theorem rk:cH.gQ ty ob (k+1) []=some []:=rfl
def acI (ty:bX) (ob:List (Nat × Obj)) (k:Nat) (r:List AV) (y:AV):Option (List AV):=av (cH.gQ ty ob k r) (sK y)
theorem HS (r:List AV) (y:AV):acI ty ob k r y=av (cH.gQ ty ob k r) (sK y):=rfl
theorem pz (x:AV) (r:List AV):cH.gQ ty ob (k+1) (x::r)=av (cH ty ob k x) (acI ty ob k r):=rfl
theorem ue (kk:IntKind) (n:Int):cH ty ob (k+1) (.int kk n)=some (.int kk n):=rfl
theorem rp (b:Bool):cH ty ob (k+1) (.bool b)=some (.bool b):=rfl
theorem uf (s:ByteArray):cH ty ob (k+1) (.str s)=some (.str s):=rfl
theorem rq:cH ty ob (k+1) .iu=some .iu:=rfl
theorem ru:cH ty ob (k+1) .dY=some .dY:=rfl
theorem wX (t:TypeId) (es:List AV):cH ty ob (k+1) (.ar t es)=some (.ar t es):=rfl
theorem wY (t:TypeId) (fl:Fl) (es:List AV):cH ty ob (k+1) (.sl t fl es)=some (.sl t ⟨false,none,false⟩ es):=rfl
theorem wZ (fr:Bool) (t:TypeId) (x:AV):cH ty ob (k+1) (.ro fr t x)=some (.ro false t x):=rfl
def VW (t:TypeId) (gs:List AV):Option AV:=some (.st t gs)
theorem HT (t:TypeId) (gs:List AV):VW t gs=some (.st t gs):=rfl
theorem w4 (t:TypeId) (fs:List AV):cH ty ob (k+1) (.st t fs)=av (cH.gQ ty ob k fs) (VW t):=rfl
def acJ (f:FuncId) (gs:List AV):Option AV:=some (.fn f gs)
theorem HU (f:FuncId) (gs:List AV):acJ f gs=some (.fn f gs):=rfl
theorem w5 (f:FuncId) (fs:List AV):cH ty ob (k+1) (.fn f fs)=av (cH.gQ ty ob k fs) (acJ f):=rfl
def T_ (t:TypeId) (i n:Nat):Obj→Option AV
 | ⟨.row u,_,es⟩=>if t=u∧i+n≤es.length then some (.sl t ⟨false,none,false⟩ (if i=0∧n=es.length then es else (es.drop i).take n)) else none
 | _=>none
theorem ug (o:Nat) (t:TypeId) (i n:Nat):cH ty ob (k+1) (.own o t i n)=av (aA o ob) (T_ t i n):=by
 simp only[cH];cases aA o ob with
 | none=>rfl
 | some b=>obtain⟨r,f,es⟩:=b;cases r <;> rfl
theorem DJ (t:TypeId) (i n:Nat) (u:TypeId) (fr:Bool) (es:List AV):T_ t i n ⟨.row u,fr,es⟩=if t=u∧i+n≤es.length then some (.sl t ⟨false,none,false⟩ (if i=0∧n=es.length then es else (es.drop i).take n)) else none:=rfl
def VX (u:TypeId) (y:AV):Option AV:=some (.ro false u y)
theorem HV (u:TypeId) (y:AV):VX u y=some (.ro false u y):=rfl
def M0 (ty:bX) (ob:List (Nat × Obj)) (k:Nat) (x:AV) (u:TypeId):Option AV:=av (cH ty ob k x) (VX u)
theorem DK (x:AV) (u:TypeId):M0 ty ob k x u=av (cH ty ob k x) (VX u):=rfl
def HW (ty:bX) (ob:List (Nat × Obj)) (k:Nat) (r:RT) (p:List Nat) (x:AV):Option AV:=av (r.di ty p) (M0 ty ob k x)
theorem DL (r:RT) (p:List Nat) (x:AV):HW ty ob k r p x=av (r.di ty p) (M0 ty ob k x):=rfl
def M1 (ty:bX) (ob:List (Nat × Obj)) (k:Nat) (r:RT) (p:List Nat) (b:Obj):Option AV:=if b.r=r then av (b.tree p) (HW ty ob k r p) else none
theorem DM (r r':RT) (p:List Nat) (fr:Bool) (es:List AV):M1 ty ob k r p ⟨r',fr,es⟩=if r'=r then av (Obj.tree ⟨r',fr,es⟩ p) (HW ty ob k r p) else none:=rfl
theorem uh (o:Nat) (r:RT) (p:List Nat):cH ty ob (k+1) (.ptr o r p)=av (aA o ob) (M1 ty ob k r p):=by
 simp only[cH];cases aA o ob with
 | none=>rfl
 | some b=>
   simp only[av,M1];split
   ·cases b.tree p with
    | none=>rfl
    | some x=>simp only[HW];cases r.di ty p <;> rfl
   ·rfl
end
def BB (i:Nat) (v:AV) (l:List (Nat × AV)):Option (List (Nat × AV)):=some ((i,v)::l)
theorem w6 (i:Nat) (v:AV) (l:List (Nat × AV)):BB i v l=some ((i,v)::l):=rfl
def M3 (G:cC) (σ:St) (i:Nat) (r:List (Nat × Operand)) (v:AV):Option (List (Nat × AV)):=av (dq G σ r) (BB i v)
theorem Ah (G:cC) (i:Nat) (r:List (Nat × Operand)) (v:AV):M3 G σ i r v=av (dq G σ r) (BB i v):=rfl
theorem rv (G:cC):dq G σ []=some []:=rfl
theorem pA (G:cC) (i:Nat) (x:Operand) (r:List (Nat × Operand)):dq G σ ((i,x)::r)=av (σ.val G x) (M3 G σ i r):=rfl
def M4 (ty:bX) (ts:List TypeId) (fs:List AV) (i:Nat) (v:AV) (r:List (Nat × AV)) (t:TypeId):Option (List AV):=if fits ty t v=true then kf ty ts (fs.set i v) r else none
theorem Ai (ty:bX) (ts:List TypeId) (fs:List AV) (i:Nat) (v:AV) (r:List (Nat × AV)) (t:TypeId):M4 ty ts fs i v r t=if fits ty t v=true then kf ty ts (fs.set i v) r else none:=rfl
theorem pB (ty:bX) (ts:List TypeId) (fs:List AV):kf ty ts fs []=some fs:=rfl
theorem nY (ty:bX) (ts:List TypeId) (fs:List AV) (i:Nat) (v:AV) (r:List (Nat × AV)):kf ty ts fs ((i,v)::r)=av ts[i]? (M4 ty ts fs i v r):=by
 simp only[kf];cases ts[i]? <;> rfl
theorem pC (ty:bX) (t:TypeId) (n:Nat) (f:AV→Bool) (fs:List AV):gY ty t n f fs []=some fs:=rfl
theorem nZ (ty:bX) (t:TypeId) (n:Nat) (f:AV→Bool) (fs:List AV) (i:Nat) (v:AV) (r:List (Nat × AV)):gY ty t n f fs ((i,v)::r)=if i < n∧fits ty t v=true∧f v=true then gY ty t n f (fs.set i v) r else none:=rfl
def VY (σ:St) (t:TypeId) (gs:List AV):Option (AV × List (Nat × Obj)):=some (.st t gs,σ.ob)
theorem HX (t:TypeId) (gs:List AV):VY σ t gs=some (.st t gs,σ.ob):=rfl
def VZ (σ:St) (t:TypeId) (gs:List AV):Option (AV × List (Nat × Obj)):=some (.ar t gs,σ.ob)
theorem HY (t:TypeId) (gs:List AV):VZ σ t gs=some (.ar t gs,σ.ob):=rfl
def M5 (E:Env) (σ:St) (t:TypeId) (ts:List TypeId) (fs:List AV) (l:List (Nat × AV)):Option (AV × List (Nat × Obj)):=av (kf E.ty ts fs l) (VY σ t)
theorem DN (t:TypeId) (ts:List TypeId) (fs:List AV) (l:List (Nat × AV)):M5 E σ t ts fs l=av (kf E.ty ts fs l) (VY σ t):=rfl
def M6 (E:Env) (σ:St) (t:TypeId) (n:Nat) (e:TypeId) (fs:List AV) (l:List (Nat × AV)):Option (AV × List (Nat × Obj)):=av (gY E.ty e n flat fs l) (VZ σ t)
theorem DO (t:TypeId) (n:Nat) (e:TypeId) (fs:List AV) (l:List (Nat × AV)):M6 E σ t n e fs l=av (gY E.ty e n flat fs l) (VZ σ t):=rfl
def V0 (E:Env) (σ:St) (t:TypeId) (ps:List (Nat × Operand)) (T:kD):Option (AV × List (Nat × Obj)):=
 match T with
 | ⟨.struct ts,_,_,.st _ fs⟩=>av (dq E.G σ ps) (M5 E σ t ts fs)
 | ⟨.array n e,_,_,.ar _ fs⟩=>av (dq E.G σ ps) (M6 E σ t n e fs)
 | _=>none
theorem DP (t:TypeId) (ps:List (Nat × Operand)):aZ E d σ (.build t ⟨ps⟩)=av (E.ty t) (V0 E σ t ps):=by
 simp only[aZ];cases hD:E.ty t with
 | none=>rfl
 | some T=>obtain⟨kk,_,_,z⟩:=T;cases kk <;> cases z <;> rfl
theorem w7 (t:TypeId) (ps:List (Nat × Operand)) (ts:List TypeId) (s b:Nat) (u:TypeId) (fs:List AV):V0 E σ t ps ⟨.struct ts,s,b,.st u fs⟩=av (dq E.G σ ps) (M5 E σ t ts fs):=rfl
theorem w8 (t:TypeId) (ps:List (Nat × Operand)) (n:Nat) (e:TypeId) (s b:Nat) (u:TypeId) (fs:List AV):V0 E σ t ps ⟨.array n e,s,b,.ar u fs⟩=av (dq E.G σ ps) (M6 E σ t n e fs):=rfl
def V1 (E:Env) (d:Nat) (σ:St) (e:TypeId) (T:kD) (n m:AV):Option (AV × List (Nat × Obj)):=
 match n,m with
 | .int .i64 n,.int .i64 m=>if n=m∧0≤n∧n * T.bytes≤140737488355328∧0 < T.size∧0 < T.bytes∧σ.free d=true then some (.own d e 0 n.toNat,bE d ⟨.row e,true,List.replicate n.toNat T.zero⟩ σ.ob) else none
 | _,_=>none
def Ra (E:Env) (d:Nat) (σ:St) (e:TypeId) (T:kD) (y:Operand) (n:AV):Option (AV × List (Nat × Obj)):=av (σ.val E.G y) (V1 E d σ e T n)
def Rb (E:Env) (d:Nat) (σ:St) (e:TypeId) (x y:Operand) (T:kD):Option (AV × List (Nat × Obj)):=av (σ.val E.G x) (Ra E d σ e T y)
def kMk (E:Env) (d:Nat) (σ:St) (x y:Operand) (T:kD):Option (AV × List (Nat × Obj)):=
 match T with
 | ⟨.slice e,_,_,_⟩=>av (E.ty e) (Rb E d σ e x y)
 | _=>none
theorem ry (t:TypeId) (x y:Operand):aZ E d σ (.makeSlice t x y)=av (E.ty t) (kMk E d σ x y):=by
 simp only[aZ];cases hD:E.ty t with
 | none=>rfl
 | some T=>
   obtain⟨kk,_,_,z⟩:=T;cases kk <;> try rfl
   rename_i e;simp only[av,kMk];cases E.ty e with
   | none=>rfl
   | some T=>
     simp only[Rb,av];cases σ.val E.G x with
     | none=>rfl
     | some a=>
       simp only[Ra,av];cases σ.val E.G y with
       | none=>rfl
       | some b=>rfl
theorem M7 (x y:Operand) (e:TypeId) (s b:Nat) (z:AV):kMk E d σ x y ⟨.slice e,s,b,z⟩=av (E.ty e) (Rb E d σ e x y):=rfl
theorem HZ (e:TypeId) (x y:Operand) (T:kD):Rb E d σ e x y T=av (σ.val E.G x) (Ra E d σ e T y):=rfl
theorem H2 (e:TypeId) (T:kD) (y:Operand) (n:AV):Ra E d σ e T y n=av (σ.val E.G y) (V1 E d σ e T n):=rfl
theorem H3 (e:TypeId) (kk:TK) (s b:Nat) (z:AV) (n m:Int):V1 E d σ e ⟨kk,s,b,z⟩ (.int .i64 n) (.int .i64 m) =
 if n=m∧0≤n∧n * b≤140737488355328∧0 < s∧0 < b∧σ.free d=true then some (.own d e 0 n.toNat,bE d ⟨.row e,true,List.replicate n.toNat z⟩ σ.ob) else none:=rfl
end
section
variable (E:Env) (d:Nat) (σ:St)
theorem Aj (x:Operand):dg E d σ (.move x)=aZ E d σ (.move x):=rfl
theorem ui (x:Operand):dg E d σ (.assign x)=aZ E d σ (.assign x):=rfl
theorem Ak (c x y:Operand):dg E d σ (.pick c x y)=aZ E d σ (.pick c x y):=rfl
theorem w9 (t:TypeId):dg E d σ (.alloc t)=aZ E d σ (.alloc t):=rfl
theorem DQ (t:TypeId) (x:Operand):dg E d σ (.box t x)=aZ E d σ (.box t x):=rfl
theorem w_ (t:TypeId) (ps:Array (Nat × Operand)):dg E d σ (.build t ps)=aZ E d σ (.build t ps):=rfl
theorem nA (t:TypeId) (n:Nat) (ps:Array (Nat × Operand)):dg E d σ (.buildSlice t n ps)=aZ E d σ (.buildSlice t n ps):=rfl
theorem n5 (t:TypeId) (x y:Operand):dg E d σ (.makeSlice t x y)=aZ E d σ (.makeSlice t x y):=rfl
theorem Al (t:TypeId) (x:Operand):dg E d σ (.load t x)=aZ E d σ (.load t x):=rfl
theorem xa (t:TypeId) (x y:Operand):dg E d σ (.store t x y)=aZ E d σ (.store t x y):=rfl
theorem n6 (s:TypeId) (x:Operand) (f:Nat):dg E d σ (.fieldAddr s x f)=aZ E d σ (.fieldAddr s x f):=rfl
theorem xb (s:TypeId) (x:Operand) (f:Nat):dg E d σ (.field s x f)=aZ E d σ (.field s x f):=rfl
theorem xc (op:BinOp) (t:TypeId) (x y:Operand) (u:TypeId):dg E d σ (.binOp op t x y u)=aZ E d σ (.binOp op t x y u):=rfl
theorem Am (op:UnOp) (t:TypeId) (x:Operand):dg E d σ (.unOp op t x)=aZ E d σ (.unOp op t x):=rfl
theorem pD (x:Operand):dg E d σ (.nilCheck x)=aZ E d σ (.nilCheck x):=rfl
theorem rz (x:Operand) (i:Nat):dg E d σ (.extract x i)=aZ E d σ (.extract x i):=rfl
theorem n7 (t:TypeId) (x y:Operand):dg E d σ (.indexAddr t x y)=aZ E d σ (.indexAddr t x y):=rfl
theorem xd (t:TypeId) (x y:Operand):dg E d σ (.index t x y)=aZ E d σ (.index t x y):=rfl
theorem rA (s t:TypeId) (x:Operand):dg E d σ (.convert s t x)=aZ E d σ (.convert s t x):=rfl
theorem pE (f:Fn) (x c:Array Operand):dg E d σ (.makeFunc f x c)=aZ E d σ (.makeFunc f x c):=rfl
theorem xe (t:TypeId) (x:Operand) (lo hi mx:Option Operand):dg E d σ (.slice t x lo hi mx)=aZ E d σ (.slice t x lo hi mx):=rfl
theorem DR (az ts:_):dg E d σ (.call ⟨.builtin .len,az,ts⟩)=aZ E d σ (.call ⟨.builtin .len,az,ts⟩):=rfl
theorem uj (az ts:_):dg E d σ (.call ⟨.builtin .append,az,ts⟩)=aZ E d σ (.call ⟨.builtin .append,az,ts⟩):=rfl
theorem DS (az ts:_):dg E d σ (.call ⟨.builtin .max,az,ts⟩)=aZ E d σ (.call ⟨.builtin .max,az,ts⟩):=rfl
def FQ (E:Env) (d:Nat) (σ:St) (g:Operand) (az:List Operand):AV→Option (AV × List (Nat × Obj))
 | .fn f cs=>if E.W f=true then av (dZ E.G σ az) fun l=>CM E d σ f (l++cs) else if Ld E.Q g=true then av (dZ E.G σ az) (pj E d σ (vR g)) else av (dZ E.G σ az) (wW E σ (.fn f cs))
 | _=>none
theorem An (g:Operand) (az:List Operand) (f:FuncId) (cs:List AV):FQ E d σ g az (.fn f cs)=if E.W f=true then av (dZ E.G σ az) (fun l=>CM E d σ f (l++cs)) else if Ld E.Q g=true then av (dZ E.G σ az) (pj E d σ (vR g)) else av (dZ E.G σ az) (wW E σ (.fn f cs)):=rfl
theorem DT (g:Operand) (az:List Operand) (ts:Array TypeId):dg E d σ (.call ⟨.value g,⟨az⟩,ts⟩)=av (σ.val E.G g) (FQ E d σ g az):=by
 simp only[dg];cases hg:σ.val E.G g with
 | none=>rfl
 | some v=>
   simp only[av];cases v <;> try rfl
   simp only[FQ];split
   ·rfl
   ·rw[BA,hg];rfl
theorem uk (Q:FuncId→Bool) (f:FuncId):Ld Q (.func f)=Q f:=rfl
theorem xf (Q:FuncId→Bool) (t:Tmp):Ld Q (.tmp t)=false:=rfl
theorem DU (f:FuncId):vR (.func f)=f:=rfl
def acK (E:Env) (σ:St) (ts:List TypeId):List AV→Option (AV × List (Nat × Obj))
 | [x]=>match ts with | [t]=>U2 E σ t x | _=>none
 | _=>none
theorem H4 (t:TypeId) (x:AV):acK E σ [t] [x]=U2 E σ t x:=rfl
theorem DV (az:List Operand) (ts:List TypeId):dg E d σ (.call ⟨.builtin .clear,⟨az⟩,⟨ts⟩⟩)=av (dZ E.G σ az) (acK E σ ts):=by
 simp only[dg];cases dZ E.G σ az with
 | none=>rfl
 | some l=>
   simp only[av]
   match l,ts with
   | [],_=>rfl
   | [_],[]=>rfl
   | [_],[_]=>rfl
   | [_],_::_::_=>rfl
   | _::_::_,_=>rfl
def M8 (o u off n:Nat) (e sz:Nat) (z:AV) (ob:List (Nat × Obj)):Obj→Option (AV × List (Nat × Obj))
 | ⟨.row v,fr,es⟩=>if u=e∧v=e∧off+n≤es.length∧0 < sz then some (.undef,bE o ⟨.row v,fr,es.take off++(List.replicate n z++es.drop (off+n))⟩ ob) else none
 | _=>none
theorem DW (o u off n e sz:Nat) (z:AV) (ob:List (Nat × Obj)) (v:TypeId) (fr:Bool) (es:List AV):M8 o u off n e sz z ob ⟨.row v,fr,es⟩ =
 if u=e∧v=e∧off+n≤es.length∧0 < sz then some (.undef,bE o ⟨.row v,fr,es.take off++(List.replicate n z++es.drop (off+n))⟩ ob) else none:=rfl
def H5 (σ:St) (e:TypeId) (x:AV) (T:kD):Option (AV × List (Nat × Obj)):=match x with
 | .own o u off n=>av (aA o σ.ob) (M8 o u off n e T.size T.zero σ.ob)
 | .sl _ _ []=>some (.undef,σ.ob)
 | _=>none
theorem rB (e:TypeId) (o u off n:Nat) (kk:TK) (sz b:Nat) (z:AV):H5 σ e (.own o u off n) ⟨kk,sz,b,z⟩=av (aA o σ.ob) (M8 o u off n e sz z σ.ob):=rfl
theorem um (e:TypeId) (u:TypeId) (fl:Fl) (T:kD):H5 σ e (.sl u fl []) T=some (.undef,σ.ob):=rfl
def Ua (E:Env) (σ:St) (x:AV):kD→Option (AV × List (Nat × Obj))
 | ⟨.slice e,_,_,_⟩=>av (E.ty e) (H5 σ e x)
 | _=>none
theorem DX (x:AV) (e sz b:Nat) (z:AV):Ua E σ x ⟨.slice e,sz,b,z⟩=av (E.ty e) (H5 σ e x):=rfl
theorem M9 (t:TypeId) (x:AV):U2 E σ t x=av (E.ty t) (Ua E σ x):=by
 simp only[U2];cases E.ty t with
 | none=>rfl
 | some T=>
   obtain⟨kk,_,_,z⟩:=T;cases kk <;> rfl
end
end Go.Abs
end
section
namespace Go.Abs
open Go
section
variable (ty:bX) (ob:List (Nat × Obj)) (k:Nat)
theorem uo (kk:IntKind) (n:Int):hand ty ob (k+1) (.int kk n)=some (.int kk n):=rfl
theorem rC (b:Bool):hand ty ob (k+1) (.bool b)=some (.bool b):=rfl
theorem uq (s:ByteArray):hand ty ob (k+1) (.str s)=some (.str s):=rfl
theorem rD:hand ty ob (k+1) .iu=some .iu:=rfl
theorem rE:hand ty ob (k+1) .dY=some .dY:=rfl
theorem xg (t:TypeId) (es:List AV):hand ty ob (k+1) (.ar t es)=some (.ar t es):=rfl
theorem xh (t:TypeId) (fl:Fl) (es:List AV):hand ty ob (k+1) (.sl t fl es)=some (.sl t fl es):=rfl
theorem xi (fr:Bool) (t:TypeId) (x:AV):hand ty ob (k+1) (.ro fr t x)=some (.ro fr t x):=rfl
theorem xj (t:TypeId) (fs:List AV):hand ty ob (k+1) (.st t fs)=av (hand.gn ty ob k fs) (VW t):=rfl
theorem rF:hand.gn ty ob (k+1) []=some []:=rfl
def acL (ty:bX) (ob:List (Nat × Obj)) (k:Nat) (r:List AV) (y:AV):Option (List AV):=av (hand.gn ty ob k r) (sK y)
theorem H6 (r:List AV) (y:AV):acL ty ob k r y=av (hand.gn ty ob k r) (sK y):=rfl
theorem pF (x:AV) (r:List AV):hand.gn ty ob (k+1) (x::r)=av (hand ty ob k x) (acL ty ob k r):=rfl
def Ub (t:TypeId) (i n:Nat):Obj→Option AV
 | ⟨.row u,fr,es⟩=>if t=u∧i+n≤es.length then some (.sl t ⟨fr,none,false⟩ (if i=0∧n=es.length then es else (es.drop i).take n)) else none
 | _=>none
theorem ur (o:Nat) (t:TypeId) (i n:Nat):hand ty ob (k+1) (.own o t i n)=av (aA o ob) (Ub t i n):=by
 simp only[hand];cases aA o ob with
 | none=>rfl
 | some b=>obtain⟨r,f,es⟩:=b;cases r <;> rfl
theorem DY (t:TypeId) (i n:Nat) (u:TypeId) (fr:Bool) (es:List AV):Ub t i n ⟨.row u,fr,es⟩=if t=u∧i+n≤es.length then some (.sl t ⟨fr,none,false⟩ (if i=0∧n=es.length then es else (es.drop i).take n)) else none:=rfl
def V2 (u:TypeId) (y:AV):Option AV:=some (.ro (iw y) u y)
theorem H7 (u:TypeId) (y:AV):V2 u y=some (.ro (iw y) u y):=rfl
def FT (ty:bX) (ob:List (Nat × Obj)) (k:Nat) (x:AV) (u:TypeId):Option AV:=av (hand ty ob k x) (V2 u)
theorem Ao (x:AV) (u:TypeId):FT ty ob k x u=av (hand ty ob k x) (V2 u):=rfl
def BC (ty:bX) (ob:List (Nat × Obj)) (k:Nat) (r:RT) (p:List Nat) (x:AV):Option AV:=av (r.di ty p) (FT ty ob k x)
theorem Ap (r:RT) (p:List Nat) (x:AV):BC ty ob k r p x=av (r.di ty p) (FT ty ob k x):=rfl
def M_ (ty:bX) (ob:List (Nat × Obj)) (k:Nat) (r:RT) (p:List Nat) (b:Obj):Option AV:=if b.r=r then av (b.tree p) (BC ty ob k r p) else none
theorem DZ (r r':RT) (p:List Nat) (fr:Bool) (es:List AV):M_ ty ob k r p ⟨r',fr,es⟩=if r'=r then av (Obj.tree ⟨r',fr,es⟩ p) (BC ty ob k r p) else none:=rfl
theorem uu (o:Nat) (u0:TypeId) (p:List Nat):hand ty ob (k+1) (.ptr o (.box u0) p)=av (aA o ob) (M_ ty ob k (.box u0) p):=by
 simp only[hand];cases aA o ob with
 | none=>rfl
 | some b=>
   simp only[av,M_];split
   ·cases b.tree p with
    | none=>rfl
    | some x=>simp only[BC];cases (RT.box u0).di ty p <;> rfl
   ·rfl
end
section
variable (E:Env) (d:Nat) (σ:St)
def kXs (e u:TypeId) (i n:Nat):Obj→Option (List AV × Bool)
 | ⟨.row v,fr,es⟩=>if u=e∧v=e∧i+n≤es.length then some (if i=0∧n=es.length then es else (es.drop i).take n,fr) else none
 | _=>none
theorem uv (ob:List (Nat × Obj)) (e:TypeId) (o:Nat) (u:TypeId) (i n:Nat):u6 ob e (.own o u i n)=av (aA o ob) (kXs e u i n):=by
 simp only[u6];cases aA o ob with
 | none=>rfl
 | some b=>obtain⟨r,f,es⟩:=b;cases r <;> rfl
theorem Na (e u:TypeId) (i n:Nat) (v:TypeId) (fr:Bool) (es:List AV):kXs e u i n ⟨.row v,fr,es⟩=if u=e∧v=e∧i+n≤es.length then some (if i=0∧n=es.length then es else (es.drop i).take n,fr) else none:=rfl
theorem xk (ob:List (Nat × Obj)) (e u:TypeId) (fl:Fl) (es:List AV):u6 ob e (.sl u fl es)=if u=e∨es.isEmpty=true then some (es,fl.fr) else none:=rfl
def V3 (d:Nat) (σ:St) (e:TypeId) (b o:Nat) (u:TypeId) (n:Nat) (xs:List AV) (fr:Bool):Obj→Option (AV × List (Nat × Obj))
 | ⟨.row v,fr',es⟩=>if u=e∧v=e∧n=es.length∧o ≠ d∧roomy (n+xs.length) b=true∧n+xs.length≤140737488355328 then some (.own d e 0 (n+xs.length),bE d ⟨.row e,fr'&&fr,es++xs⟩ (cK o σ.ob)) else if u=e∧v=e∧n+xs.length≤es.length∧o ≠ d then some (.own d e 0 (n+xs.length),bE d ⟨.row e,fr'&&fr,es.take n++(xs++es.drop (n+xs.length))⟩ (cK o σ.ob)) else none
 | _=>none
theorem H8 (e:TypeId) (b o:Nat) (u:TypeId) (n:Nat) (xs:List AV) (fr:Bool) (v:TypeId) (fr':Bool) (es:List AV):V3 d σ e b o u n xs fr ⟨.row v,fr',es⟩ =
 if u=e∧v=e∧n=es.length∧o ≠ d∧roomy (n+xs.length) b=true∧n+xs.length≤140737488355328 then some (.own d e 0 (n+xs.length),bE d ⟨.row e,fr'&&fr,es++xs⟩ (cK o σ.ob)) else if u=e∧v=e∧n+xs.length≤es.length∧o ≠ d then some (.own d e 0 (n+xs.length),bE d ⟨.row e,fr'&&fr,es.take n++(xs++es.drop (n+xs.length))⟩ (cK o σ.ob)) else none:=rfl
def Nb (d:Nat) (σ:St) (e:TypeId) (b:Nat) (xs:List AV) (fr:Bool):AV→Option (AV × List (Nat × Obj))
 | .sl _ fl _=>if fl.nil=some true∧roomy xs.length b=true∧xs.length≤140737488355328 then some (.own d e 0 xs.length,bE d ⟨.row e,fr,xs⟩ σ.ob) else none
 | .own o u 0 n=>av (aA o σ.ob) (V3 d σ e b o u n xs fr)
 | _=>none
theorem xl (e:TypeId) (b:Nat) (xs:List AV) (fr:Bool) (u:TypeId) (fl:Fl) (es:List AV):Nb d σ e b xs fr (.sl u fl es)=if fl.nil=some true∧roomy xs.length b=true∧xs.length≤140737488355328 then some (.own d e 0 xs.length,bE d ⟨.row e,fr,xs⟩ σ.ob) else none:=rfl
theorem uw (e:TypeId) (b:Nat) (xs:List AV) (fr:Bool) (o:Nat) (u:TypeId) (n:Nat):Nb d σ e b xs fr (.own o u 0 n)=av (aA o σ.ob) (V3 d σ e b o u n xs fr):=rfl
def Rc (d:Nat) (σ:St) (e:TypeId) (sz b:Nat) (s:AV) (p:List AV × Bool):Option (AV × List (Nat × Obj)):=if 0 < sz∧σ.free d=true then Nb d σ e b p.1 p.2 s else none
theorem H9 (e:TypeId) (sz b:Nat) (s:AV) (xs:List AV) (fr:Bool):Rc d σ e sz b s (xs,fr)=if 0 < sz∧σ.free d=true then Nb d σ e b xs fr s else none:=rfl
def Rd (d:Nat) (σ:St) (e:TypeId) (s x:AV) (T:kD):Option (AV × List (Nat × Obj)):=av (u6 σ.ob e x) (Rc d σ e T.size T.bytes s)
theorem H_ (e:TypeId) (s x:AV) (kk:TK) (sz b:Nat) (z:AV):Rd d σ e s x ⟨kk,sz,b,z⟩=av (u6 σ.ob e x) (Rc d σ e sz b s):=rfl
def V4 (E:Env) (d:Nat) (σ:St) (s x:AV):kD→Option (AV × List (Nat × Obj))
 | ⟨.slice e,_,_,_⟩=>av (E.ty e) (Rd d σ e s x)
 | _=>none
theorem Ia (s x:AV) (e:TypeId) (sz b:Nat) (z:AV):V4 E d σ s x ⟨.slice e,sz,b,z⟩=av (E.ty e) (Rd d σ e s x):=rfl
theorem Ib (t:TypeId) (s x:AV):u7 E d σ t s x=av (E.ty t) (V4 E d σ s x):=by
 simp only[u7];cases E.ty t with
 | none=>rfl
 | some T=>
   obtain⟨kk,_,_,z⟩:=T;cases kk <;> try rfl
   rename_i e;simp only[av,V4];cases E.ty e with
   | none=>rfl
   | some T=>
     simp only[Rd,av];cases u6 σ.ob e x with
     | none=>rfl
     | some p=>
       simp only[Rc];split
       ·cases s <;> try rfl
        rename_i o u i n;cases i with
        | succ i=>rfl
        | zero=>
          simp only[Nb,av];cases aA o σ.ob with
          | none=>rfl
          | some b=>obtain⟨r,f,es⟩:=b;cases r <;> rfl
       ·rfl
def acM (E:Env) (d:Nat) (σ:St) (t t':TypeId):List AV→Option (AV × List (Nat × Obj))
 | [s,x]=>if t=t' then u7 E d σ t s x else none
 | _=>none
theorem Ic (t t':TypeId) (s x:AV):acM E d σ t t' [s,x]=if t=t' then u7 E d σ t s x else none:=rfl
theorem Aq (az:List Operand) (t t':TypeId):aZ E d σ (.call ⟨.builtin .append,⟨az⟩,⟨[t,t']⟩⟩)=av (dZ E.G σ az) (acM E d σ t t'):=by
 simp only[aZ];cases dZ E.G σ az with
 | none=>rfl
 | some l=>
   simp only[av]
   match l with
   | []=>rfl
   | [_]=>rfl
   | [_,_]=>rfl
   | _::_::_::_=>rfl
def acN (σ:St):List AV→Option (AV × List (Nat × Obj))
 | [.int k a,.int k' b]=>if k=k' then some (.int k (if b > a then b else a),σ.ob) else none
 | _=>none
theorem Nc (az:List Operand) (ts:Array TypeId):aZ E d σ (.call ⟨.builtin .max,⟨az⟩,ts⟩)=av (dZ E.G σ az) (acN σ):=by
 simp only[aZ];congr 1
theorem Ie (kk k':IntKind) (a b:Int):acN σ [.int kk a,.int k' b]=if kk=k' then some (.int kk (if b > a then b else a),σ.ob) else none:=rfl
def kFv (σ:St) (s f:Nat):AV→Option (AV × List (Nat × Obj))
 | .st t fs=>if t=s then av fs[f]? (mb σ) else none
 | _=>none
theorem Nd (s f t:Nat) (fs:List AV):kFv σ s f (.st t fs)=if t=s then av fs[f]? (mb σ) else none:=rfl
theorem D1 (s:TypeId) (x:Operand) (f:Nat):aZ E d σ (.field s x f)=av (σ.val E.G x) (kFv σ s f):=by
 simp only[aZ];cases σ.val E.G x with
 | none=>rfl
 | some v=>cases v <;> rfl
def Re (d:Nat) (σ:St) (e n sz:Nat) (gs:List AV):Option (AV × List (Nat × Obj)):=if σ.free d=true∧0 < sz∧n * sz≤16777216 then some (.own d e 0 n,bE d ⟨.row e,fresh.iv gs,gs⟩ σ.ob) else none
theorem Ig (e n sz:Nat) (gs:List AV):Re d σ e n sz gs=if σ.free d=true∧0 < sz∧n * sz≤16777216 then some (.own d e 0 n,bE d ⟨.row e,fresh.iv gs,gs⟩ σ.ob) else none:=rfl
def Rf (d:Nat) (σ:St) (e n sz:Nat) (gs:List AV):Option (AV × List (Nat × Obj)):=if σ.free d=true∧0 < sz∧n * sz≤16777216∧bA.du d gs=false then some (.own d e 0 n,bE d ⟨.oQ e,fresh.iv gs,gs⟩ σ.ob) else none
theorem Ih (e n sz:Nat) (gs:List AV):Rf d σ e n sz gs=if σ.free d=true∧0 < sz∧n * sz≤16777216∧bA.du d gs=false then some (.own d e 0 n,bE d ⟨.oQ e,fresh.iv gs,gs⟩ σ.ob) else none:=rfl
def Rg (E:Env) (d:Nat) (σ:St) (e n sz:Nat) (z:AV) (l:List (Nat × AV)):Option (AV × List (Nat × Obj)):=if vQ E.ty e=true then av (gY E.ty e n Lb (fc z n) l) (Rf d σ e n sz) else av (gY E.ty e n closed (fc z n) l) (Re d σ e n sz)
theorem Ii (e n sz:Nat) (z:AV) (l:List (Nat × AV)):Rg E d σ e n sz z l=if vQ E.ty e=true then av (gY E.ty e n Lb (fc z n) l) (Rf d σ e n sz) else av (gY E.ty e n closed (fc z n) l) (Re d σ e n sz):=rfl
def Rh (E:Env) (d:Nat) (σ:St) (e n:Nat) (ps:List (Nat × Operand)) (T:kD):Option (AV × List (Nat × Obj)):=av (dq E.G σ ps) (Rg E d σ e n T.size T.zero)
theorem Ij (e n:Nat) (ps:List (Nat × Operand)) (kk:TK) (sz b:Nat) (z:AV):Rh E d σ e n ps ⟨kk,sz,b,z⟩=av (dq E.G σ ps) (Rg E d σ e n sz z):=rfl
def V5 (E:Env) (d:Nat) (σ:St) (n:Nat) (ps:List (Nat × Operand)):kD→Option (AV × List (Nat × Obj))
 | ⟨.slice e,_,_,_⟩=>av (E.ty e) (Rh E d σ e n ps)
 | _=>none
theorem Ik (n:Nat) (ps:List (Nat × Operand)) (e sz b:Nat) (z:AV):V5 E d σ n ps ⟨.slice e,sz,b,z⟩=av (E.ty e) (Rh E d σ e n ps):=rfl
theorem pG (t:TypeId) (n:Nat) (ps:List (Nat × Operand)):aZ E d σ (.buildSlice t n ⟨ps⟩)=av (E.ty t) (V5 E d σ n ps):=by
 simp only[aZ];cases E.ty t with
 | none=>rfl
 | some T=>
   obtain⟨kk,_,_,z⟩:=T;cases kk <;> try rfl
   rename_i e;simp only[av,V5];cases E.ty e with
   | none=>rfl
   | some T=>simp only[Rh,av,Rg,Re,Rf]
theorem xm {α:Type} (x:α):fc x 0=[]:=rfl
theorem xn {α:Type} (x:α):fc x 1=[x]:=rfl
theorem xo {α:Type} (x:α):fc x 2=[x,x]:=rfl
theorem xp {α:Type} (x:α):fc x 3=[x,x,x]:=rfl
theorem xq {α:Type} (x:α):fc x 4=[x,x,x,x]:=rfl
theorem xr {α:Type} (x:α):fc x 5=[x,x,x,x,x]:=rfl
theorem xt {α:Type} (x:α):fc x 6=[x,x,x,x,x,x]:=rfl
theorem xu {α:Type} (x:α):fc x 7=[x,x,x,x,x,x,x]:=rfl
theorem xw {α:Type} (x:α):fc x 8=[x,x,x,x,x,x,x,x]:=rfl
def acO (σ:St) (f:FuncId) (l:List AV):Option (AV × List (Nat × Obj)):=if l.all bq=true then some (.fn f l,σ.ob) else none
theorem Il (f:FuncId) (l:List AV):acO σ f l=if l.all bq=true then some (.fn f l,σ.ob) else none:=rfl
theorem ux (f:FuncId) (cs:List Operand):aZ E d σ (.makeFunc (.func f) ⟨[]⟩ ⟨cs⟩)=av (dZ E.G σ cs) (acO σ f):=by
 simp only[aZ];rfl
def Nf (E:Env) (σ:St) (s t:TypeId):AV→Option (AV × List (Nat × Obj))
 | .int _ n=>match E.ty t with
   | some ⟨.int k,_,_,_⟩=>match E.ty s with
     | some _=>some (.int k (k.wrap n),σ.ob)
     | none=>none
   | _=>none
 | _=>none
def FU (σ:St) (k:IntKind) (n:Int):kD→Option (AV × List (Nat × Obj)):=fun _=>some (.int k (k.wrap n),σ.ob)
theorem Ar (k:IntKind) (n:Int) (T:kD):FU σ k n T=some (.int k (k.wrap n),σ.ob):=rfl
def FV (E:Env) (σ:St) (s:TypeId) (n:Int):kD→Option (AV × List (Nat × Obj))
 | ⟨.int k,_,_,_⟩=>av (E.ty s) (FU σ k n)
 | _=>none
theorem As (s:TypeId) (n:Int) (k:IntKind) (sz b:Nat) (z:AV):FV E σ s n ⟨.int k,sz,b,z⟩=av (E.ty s) (FU σ k n):=rfl
theorem D2 (s t:TypeId) (k:IntKind) (n:Int):Nf E σ s t (.int k n)=av (E.ty t) (FV E σ s n):=by
 simp only[Nf];cases E.ty t with
 | none=>rfl
 | some T=>
   obtain⟨kk,_,_,z⟩:=T;cases kk <;> try rfl
   simp only[av,FV];cases E.ty s <;> rfl
theorem xx (s t:TypeId) (x:Operand):aZ E d σ (.convert s t x)=av (σ.val E.G x) (Nf E σ s t):=by
 simp only[aZ];congr 1
theorem uy (G:cC) (n:Nat):yD G σ none n=some n:=rfl
def acP:AV→Option Nat
 | .int _ i=>if 0≤i then some i.toNat else none
 | _=>none
theorem uz (G:cC) (y:Operand) (n:Nat):yD G σ (some y) n=av (σ.val G y) acP:=by
 simp only[yD];congr 1
theorem Im (kk:IntKind) (i:Int):acP (.int kk i)=if 0≤i then some i.toNat else none:=rfl
def V6 (E:Env) (σ:St) (t:TypeId) (x:AV) (l h:Nat):Option (AV × List (Nat × Obj)):=av (pg E.ty t x l h none (iX σ.ob x)) (mb σ)
theorem Io (t:TypeId) (x:AV) (l h:Nat):V6 E σ t x l h=av (pg E.ty t x l h none (iX σ.ob x)) (mb σ):=rfl
def V7 (E:Env) (σ:St) (t:TypeId) (hi:Option Operand) (x:AV) (l:Nat):Option (AV × List (Nat × Obj)):=av (yD E.G σ hi (qt x)) (V6 E σ t x l)
theorem Ip (t:TypeId) (hi:Option Operand) (x:AV) (l:Nat):V7 E σ t hi x l=av (yD E.G σ hi (qt x)) (V6 E σ t x l):=rfl
def kSl (E:Env) (σ:St) (t:TypeId) (lo hi:Option Operand) (x:AV):Option (AV × List (Nat × Obj)):=av (yD E.G σ lo 0) (V7 E σ t hi x)
theorem Ng (t:TypeId) (lo hi:Option Operand) (x:AV):kSl E σ t lo hi x=av (yD E.G σ lo 0) (V7 E σ t hi x):=rfl
theorem D3 (t:TypeId) (x:Operand) (lo hi:Option Operand):aZ E d σ (.slice t x lo hi none)=av (σ.val E.G x) (kSl E σ t lo hi):=by
 simp only[aZ];rfl
def BD (u:TypeId):Obj→Nat
 | ⟨.row v,_,es⟩=>if v=u then es.length else 0
 | _=>0
theorem xy (u v:TypeId) (fr:Bool) (es:List AV):BD u ⟨.row v,fr,es⟩=if v=u then es.length else 0:=rfl
def xz (u:TypeId):Option Obj→Nat
 | some b=>BD u b
 | none=>0
theorem uA (u:TypeId) (b:Obj):xz u (some b)=BD u b:=rfl
theorem pH (ob:List (Nat × Obj)) (o:Nat) (u:TypeId) (off n:Nat):iX ob (.own o u off n)=xz u (aA o ob):=by
 unfold iX xz;dsimp only;cases aA o ob with
 | none=>rfl
 | some b=>obtain⟨r,f,es⟩:=b;cases r <;> rfl
theorem rG (ob:List (Nat × Obj)) (u:TypeId) (fl:Fl) (es:List AV):iX ob (.sl u fl es)=0:=rfl
theorem pI (ob:List (Nat × Obj)) (s:ByteArray):iX ob (.str s)=0:=rfl
def Nh (E:Env) (σ:St) (t:TypeId) (x:AV) (l h m:Nat):Option (AV × List (Nat × Obj)):=av (pg E.ty t x l h (some m) 0) (mb σ)
theorem D4 (t:TypeId) (x:AV) (l h m:Nat):Nh E σ t x l h m=av (pg E.ty t x l h (some m) 0) (mb σ):=rfl
def Ni (E:Env) (σ:St) (t:TypeId) (hi mx:Operand) (x:AV) (l h:Nat):Option (AV × List (Nat × Obj)):=av (yD E.G σ (some mx) 0) (Nh E σ t x l h)
theorem D5 (t:TypeId) (hi mx:Operand) (x:AV) (l h:Nat):Ni E σ t hi mx x l h=av (yD E.G σ (some mx) 0) (Nh E σ t x l h):=rfl
def Nj (E:Env) (σ:St) (t:TypeId) (hi mx:Operand) (x:AV) (l:Nat):Option (AV × List (Nat × Obj)):=av (yD E.G σ (some hi) (qt x)) (Ni E σ t hi mx x l)
theorem D6 (t:TypeId) (hi mx:Operand) (x:AV) (l:Nat):Nj E σ t hi mx x l=av (yD E.G σ (some hi) (qt x)) (Ni E σ t hi mx x l):=rfl
def acQ (E:Env) (σ:St) (t:TypeId) (lo:Option Operand) (hi mx:Operand) (x:AV):Option (AV × List (Nat × Obj)):=av (yD E.G σ lo 0) (Nj E σ t hi mx x)
theorem Iq (t:TypeId) (lo:Option Operand) (hi mx:Operand) (x:AV):acQ E σ t lo hi mx x=av (yD E.G σ lo 0) (Nj E σ t hi mx x):=rfl
theorem At (t:TypeId) (x:Operand) (lo:Option Operand) (hi mx:Operand):aZ E d σ (.slice t x lo (some hi) (some mx))=av (σ.val E.G x) (acQ E σ t lo hi mx):=by
 simp only[aZ];rfl
theorem uB (ty:bX) (t:TypeId) (o:Nat) (u:TypeId) (off n l h m rl:Nat):pg ty t (.own o u off n) l h (some m) rl =
 if isSlice ty t=true∧l≤h∧(h≤n∨off+h≤rl)∧0 < pg.ph ty t∧pg.yM ty t=some u then (if h≤m∧m≤n then some .undef else none) else none:=rfl
theorem xA (ty:bX) (t:TypeId) (u:TypeId) (fl:Fl) (es:List AV) (l h m rl:Nat):pg ty t (.sl u fl es) l h (some m) rl =
 if isSlice ty t=true∧l≤h∧h≤es.length∧0 < pg.ph ty t∧(pg.yM ty t=some u∨es.isEmpty=true) then (if h≤m∧m≤es.length then some .undef else none) else none:=rfl
theorem xB (ty:bX) (t:TypeId) (o:Nat) (u:TypeId) (off n l h rl:Nat):pg ty t (.own o u off n) l h none rl =
 if isSlice ty t=true∧l≤h∧(h≤n∨off+h≤rl)∧0 < pg.ph ty t∧pg.yM ty t=some u then (if l=0 then some (.own o u off h) else if l < h then some (.own o u (off+l) (h - l)) else some (.sl u ⟨true,some false,false⟩ [])) else none:=rfl
theorem Au (ty:bX) (t:TypeId) (u:TypeId) (fl:Fl) (es:List AV) (l h rl:Nat):pg ty t (.sl u fl es) l h none rl =
 if isSlice ty t=true∧l≤h∧h≤es.length∧0 < pg.ph ty t∧(pg.yM ty t=some u∨es.isEmpty=true) then some (.sl u ⟨fl.fr,fl.nil,false⟩ ((es.drop l).take (h - l))) else none:=rfl
theorem xC (ty:bX) (t:TypeId) (s:ByteArray) (l h rl:Nat):pg ty t (.str s) l h none rl=if isStr ty t=true∧l≤h∧h≤s.size then some (.str (s.extract l h)) else none:=rfl
theorem rH (o:Nat) (u:TypeId) (off n:Nat):qt (.own o u off n)=n:=rfl
theorem uC (u:TypeId) (fl:Fl) (es:List AV):qt (.sl u fl es)=es.length:=rfl
theorem rI (s:ByteArray):qt (.str s)=s.size:=rfl
theorem Av (ty:bX) (t t1 t2:TypeId) (op:BinOp) (fs gs:List AV):bin ty t op (.st t1 fs) (.st t2 gs)=av (La ty t t1 fs t2 gs) (CL op):=rfl
def Nk (ty:bX) (fs gs:List AV):Option kD→Option Bool
 | some ⟨.struct ts,_,_,_⟩=>mQ ty ts fs gs
 | _=>none
theorem Ir (ty:bX) (t:TypeId) (fs gs:List AV):La ty t t fs t gs=Nk ty fs gs (ty t):=by
 unfold La Nk;rw[if_pos ⟨rfl,rfl⟩];cases ty t with | none=>rfl | some D=>rfl
theorem D7 (ty:bX) (fs gs:List AV) (ts:List TypeId) (s b:Nat) (z:AV):Nk ty fs gs (some ⟨.struct ts,s,b,z⟩)=mQ ty ts fs gs:=rfl
theorem uD (ty:bX):mQ ty [] [] []=some true:=rfl
theorem rJ (ty:bX) (u:TypeId) (ts:List TypeId) (x y:AV) (r s:List AV):mQ ty (u::ts) (x::r) (y::s)=av (P7 ty u x y) fun b=>av (mQ ty ts r s) fun c=>some (b&&c):=rfl
def V8 (k k':IntKind) (a b:Int):Option kD→Option Bool
 | some ⟨.int _,_,_,_⟩=>if k=k' then some (a==b) else none
 | _=>none
def acR (a b:ByteArray):Option kD→Option Bool
 | some ⟨.str,_,_,_⟩=>some (a.toList==b.toList)
 | _=>none
theorem xD (ty:bX) (u:TypeId) (k k':IntKind) (a b:Int):P7 ty u (.int k a) (.int k' b)=V8 k k' a b (ty u):=rfl
theorem Is (k:IntKind) (a b:Int) (q:IntKind) (s bb:Nat) (z:AV):V8 k k a b (some ⟨.int q,s,bb,z⟩)=some (a==b):=by simp[V8]
theorem uE (ty:bX) (u:TypeId) (a b:Bool):P7 ty u (.bool a) (.bool b)=if isBool ty u=true then some (a==b) else none:=rfl
theorem xE (ty:bX) (u:TypeId) (a b:ByteArray):P7 ty u (.str a) (.str b)=acR a b (ty u):=rfl
theorem It (a b:ByteArray) (s bb:Nat) (z:AV):acR a b (some ⟨.str,s,bb,z⟩)=some (a.toList==b.toList):=rfl
theorem rK (b:Bool):CL .eql b=some (.bool b):=rfl
theorem rM (b:Bool):CL .neq b=some (.bool (!b)):=rfl
def V9 (E:Env) (σ:St) (t:TypeId) (ok:Bool) (m k:AV):Option (AV × List (Nat × Obj)):=av (Ts E.ty t ok k m) (mb σ)
theorem Iu (t:TypeId) (ok:Bool) (m k:AV):V9 E σ t ok m k=av (Ts E.ty t ok k m) (mb σ):=rfl
def acS (E:Env) (σ:St) (t:TypeId) (ok:Bool) (ko:Operand) (m:AV):Option (AV × List (Nat × Obj)):=av (σ.val E.G ko) (V9 E σ t ok m)
theorem Iv (t:TypeId) (ok:Bool) (ko:Operand) (m:AV):acS E σ t ok ko m=av (σ.val E.G ko) (V9 E σ t ok m):=rfl
theorem Aw (t:TypeId) (m k:Operand) (ok:Bool):aZ E d σ (.lookup t m k ok)=av (σ.val E.G m) (acS E σ t ok k):=rfl
theorem uF (t:TypeId) (m k:Operand) (ok:Bool):dg E d σ (.lookup t m k ok)=aZ E d σ (.lookup t m k ok):=rfl
theorem xF (r:Option FuncId):th true r = .cE [P8 r,.bool r.isSome]:=rfl
theorem xG (r:Option FuncId):th false r=P8 r:=rfl
theorem uG (f:FuncId):P8 (some f) = .fn f []:=rfl
theorem uH:P8 none = .dY:=rfl
theorem uI (d:Nat) (r:Option FuncId):bA d (P8 r)=false:=by cases r <;> rfl
theorem pJ (r:Option FuncId):closed (P8 r)=true:=by cases r <;> rfl
theorem rN (r:Option FuncId):bq (P8 r)=true:=by cases r <;> rfl
theorem xH (d:Nat) (t:TypeId) (ks:List AV) (fs:List FuncId):bA d (.mp t ks fs)=false:=rfl
theorem rO (t:TypeId) (ks:List AV) (fs:List FuncId):closed (.mp t ks fs)=true:=rfl
end
end Go.Abs
end
section
namespace Go.Abs
theorem aI {a b:Prop} (x:a) (y:b):a∧b:=⟨x,y⟩
theorem EV1:type_of% (aI @Mf (aI @Hn (aI @Mg (aI @zK (aI @wx (aI @wy (aI @Ho (aI @Dk (aI @zL (aI @zM (aI @qR (aI @pq (aI @Mh (aI @Hq (aI @Dl (aI @Dm (aI @Hr (aI @Mi (aI @Hs (aI @tE (aI @qS (aI @Mj (aI @Ht (aI @Hu (aI @qT (aI @zN (aI @qU (aI @pv (aI @Hv (aI @Dn (aI @Dp (aI @pw (aI @wz (aI @zO (aI @wA (aI @Hw (aI @tF (aI @Hx (aI @tG (@Hy)))))))))))))))))))))))))))))))))))))))):=⟨@Mf,@Hn,@Mg,@zK,@wx,@wy,@Ho,@Dk,@zL,@zM,@qR,@pq,@Mh,@Hq,@Dl,@Dm,@Hr,@Mi,@Hs,@tE,@qS,@Mj,@Ht,@Hu,@qT,@zN,@qU,@pv,@Hv,@Dn,@Dp,@pw,@wz,@zO,@wA,@Hw,@tF,@Hx,@tG,@Hy⟩
theorem EV2:type_of% (aI @Hz (aI @tH (aI @wB (aI @wC (aI @tI (aI @wD (aI @qV (aI @wE (aI @tJ (aI @tK (aI @tL (aI @Dq (aI @HA (aI @HB (aI @zQ (aI @HC (aI @Dr (aI @Ds (aI @zS (aI @Mm (aI @HD (aI @HF (aI @Dt (aI @zT (aI @zU (aI @Dv (aI @tM (aI @tN (aI @tO (aI @tP (aI @Dx (aI @tQ (aI @tR (aI @tS (aI @wF (aI @wG (aI @Dy (aI @zV (aI @wH (@HG)))))))))))))))))))))))))))))))))))))))):=⟨@Hz,@tH,@wB,@wC,@tI,@wD,@qV,@wE,@tJ,@tK,@tL,@Dq,@HA,@HB,@zQ,@HC,@Dr,@Ds,@zS,@Mm,@HD,@HF,@Dt,@zT,@zU,@Dv,@tM,@tN,@tO,@tP,@Dx,@tQ,@tR,@tS,@wF,@wG,@Dy,@zV,@wH,@HG⟩
theorem EV3:type_of% (aI @wI (aI @Mn (aI @qW (aI @HH (aI @HI (aI @qX (aI @qY (aI @Mo (aI @Mp (aI @zW (aI @tT (aI @tU (aI @nX (aI @px (aI @py (aI @qZ (aI @zX (aI @wL (aI @HJ (aI @Mr (aI @zY (aI @Dz (aI @DA (aI @HK (aI @DB (aI @HL (aI @Mu (aI @Mv (aI @HM (aI @Mw (aI @tV (aI @HN (aI @DC (aI @wM (aI @HO (aI @Mx (aI @My (aI @Mz (aI @MA (@MB)))))))))))))))))))))))))))))))))))))))):=⟨@wI,@Mn,@qW,@HH,@HI,@qX,@qY,@Mo,@Mp,@zW,@tT,@tU,@nX,@px,@py,@qZ,@zX,@wL,@HJ,@Mr,@zY,@Dz,@DA,@HK,@DB,@HL,@Mu,@Mv,@HM,@Mw,@tV,@HN,@DC,@wM,@HO,@Mx,@My,@Mz,@MA,@MB⟩
theorem EV4:type_of% (aI @MC (aI @MD (aI @ME (aI @MF (aI @MG (aI @T6 (aI @MH (aI @zZ (aI @MI (aI @MJ (aI @ML (aI @MM (aI @MN (aI @MO (aI @MP (aI @MQ (aI @MR (aI @MT (aI @wN (aI @wO (aI @tW (aI @q8 (aI @tX (aI @wP (aI @tY (aI @tZ (aI @wQ (aI @wR (aI @q9 (aI @q_ (aI @z5 (aI @z6 (aI @z7 (aI @z9 (aI @HP (aI @wS (aI @z_ (aI @Aa (aI @rf (@Ab)))))))))))))))))))))))))))))))))))))))):=⟨@MC,@MD,@ME,@MF,@MG,@T6,@MH,@zZ,@MI,@MJ,@ML,@MM,@MN,@MO,@MP,@MQ,@MR,@MT,@wN,@wO,@tW,@q8,@tX,@wP,@tY,@tZ,@wQ,@wR,@q9,@q_,@z5,@z6,@z7,@z9,@HP,@wS,@z_,@Aa,@rf,@Ab⟩
theorem EV5:type_of% (aI @Ac (aI @DD (aI @DE (aI @t_ (aI @wT (aI @ua (aI @wU (aI @DF (aI @Ad (aI @wV (aI @uc (aI @rh (aI @DG (aI @Ae (aI @MX (aI @Af (aI @Ag (aI @DI (aI @BA (aI @HQ (aI @MZ (aI @HR (aI @ud (aI @ri (aI @rj (aI @rk (aI @HS (aI @pz (aI @ue (aI @rp (aI @uf (aI @rq (aI @ru (aI @wX (aI @wY (aI @wZ (aI @HT (aI @w4 (aI @HU (@w5)))))))))))))))))))))))))))))))))))))))):=⟨@Ac,@DD,@DE,@t_,@wT,@ua,@wU,@DF,@Ad,@wV,@uc,@rh,@DG,@Ae,@MX,@Af,@Ag,@DI,@BA,@HQ,@MZ,@HR,@ud,@ri,@rj,@rk,@HS,@pz,@ue,@rp,@uf,@rq,@ru,@wX,@wY,@wZ,@HT,@w4,@HU,@w5⟩
theorem EV6:type_of% (aI @ug (aI @DJ (aI @HV (aI @DK (aI @DL (aI @DM (aI @uh (aI @w6 (aI @Ah (aI @rv (aI @pA (aI @Ai (aI @pB (aI @nY (aI @pC (aI @nZ (aI @HX (aI @HY (aI @DN (aI @DO (aI @DP (aI @w7 (aI @w8 (aI @ry (aI @M7 (aI @HZ (aI @H2 (aI @H3 (aI @Aj (aI @ui (aI @Ak (aI @w9 (aI @DQ (aI @w_ (aI @nA (aI @n5 (aI @Al (aI @xa (aI @n6 (@xb)))))))))))))))))))))))))))))))))))))))):=⟨@ug,@DJ,@HV,@DK,@DL,@DM,@uh,@w6,@Ah,@rv,@pA,@Ai,@pB,@nY,@pC,@nZ,@HX,@HY,@DN,@DO,@DP,@w7,@w8,@ry,@M7,@HZ,@H2,@H3,@Aj,@ui,@Ak,@w9,@DQ,@w_,@nA,@n5,@Al,@xa,@n6,@xb⟩
theorem EV7:type_of% (aI @xc (aI @Am (aI @pD (aI @rz (aI @n7 (aI @xd (aI @rA (aI @pE (aI @xe (aI @DR (aI @uj (aI @DS (aI @An (aI @DT (aI @uk (aI @xf (aI @DU (aI @H4 (aI @DV (aI @DW (aI @rB (aI @um (aI @DX (aI @M9 (aI @uo (aI @rC (aI @uq (aI @rD (aI @rE (aI @xg (aI @xh (aI @xi (aI @xj (aI @rF (aI @H6 (aI @pF (aI @ur (aI @DY (aI @H7 (@Ao)))))))))))))))))))))))))))))))))))))))):=⟨@xc,@Am,@pD,@rz,@n7,@xd,@rA,@pE,@xe,@DR,@uj,@DS,@An,@DT,@uk,@xf,@DU,@H4,@DV,@DW,@rB,@um,@DX,@M9,@uo,@rC,@uq,@rD,@rE,@xg,@xh,@xi,@xj,@rF,@H6,@pF,@ur,@DY,@H7,@Ao⟩
theorem EV8:type_of% (aI @Ap (aI @DZ (aI @uu (aI @uv (aI @Na (aI @xk (aI @H8 (aI @xl (aI @uw (aI @H9 (aI @H_ (aI @Ia (aI @Ib (aI @Ic (aI @Aq (aI @Nc (aI @Ie (aI @Nd (aI @D1 (aI @Ig (aI @Ih (aI @Ii (aI @Ij (aI @Ik (aI @pG (aI @xm (aI @xn (aI @xo (aI @xp (aI @xq (aI @xr (aI @xt (aI @xu (aI @xw (aI @Il (aI @ux (aI @Ar (aI @As (aI @D2 (@xx)))))))))))))))))))))))))))))))))))))))):=⟨@Ap,@DZ,@uu,@uv,@Na,@xk,@H8,@xl,@uw,@H9,@H_,@Ia,@Ib,@Ic,@Aq,@Nc,@Ie,@Nd,@D1,@Ig,@Ih,@Ii,@Ij,@Ik,@pG,@xm,@xn,@xo,@xp,@xq,@xr,@xt,@xu,@xw,@Il,@ux,@Ar,@As,@D2,@xx⟩
theorem EV9:type_of% (aI @uy (aI @uz (aI @Im (aI @Io (aI @Ip (aI @Ng (aI @D3 (aI @xy (aI @uA (aI @pH (aI @rG (aI @pI (aI @D4 (aI @D5 (aI @D6 (aI @Iq (aI @At (aI @uB (aI @xA (aI @xB (aI @Au (aI @xC (aI @rH (aI @uC (aI @rI (aI @Av (aI @Ir (aI @D7 (aI @uD (aI @rJ (aI @xD (aI @Is (aI @uE (aI @xE (aI @It (aI @rK (aI @rM (aI @Iu (aI @Iv (@Aw)))))))))))))))))))))))))))))))))))))))):=⟨@uy,@uz,@Im,@Io,@Ip,@Ng,@D3,@xy,@uA,@pH,@rG,@pI,@D4,@D5,@D6,@Iq,@At,@uB,@xA,@xB,@Au,@xC,@rH,@uC,@rI,@Av,@Ir,@D7,@uD,@rJ,@xD,@Is,@uE,@xE,@It,@rK,@rM,@Iu,@Iv,@Aw⟩
theorem ajS:type_of% (aI @uF (aI @xF (aI @xG (aI @uG (aI @uH (aI @uI (aI @pJ (aI @rN (aI @xH (aI @rO (aI @zl (aI @zm (aI @CN (aI @zn (aI @qu (aI @qv (aI @tj (aI @qw (aI @vS (aI @tk (aI @tl (aI @tn (aI @qy (aI @qz (aI @aN (@vN)))))))))))))))))))))))))):=⟨@uF,@xF,@xG,@uG,@uH,@uI,@pJ,@rN,@xH,@rO,@zl,@zm,@CN,@zn,@qu,@qv,@tj,@qw,@vS,@tk,@tl,@tn,@qy,@qz,@aN,@vN⟩
end Go.Abs
end
section
namespace Go.Abs
open Go Go.RowKit
def il (Q:FuncId→Bool):Op→Bool
 | .alloc _=>true
 | .box _ _=>true
 | .buildSlice _ _ _=>true
 | .makeSlice _ _ _=>true
 | .call c=>match c.callee with | .builtin b=>isApp b | .value g=>Ld Q g | _=>false
 | _=>false
def Ri (Q:FuncId→Bool):Op→Bool
 | .store _ _ _=>true
 | o=>il Q o
def Qd (w:List Nat) (s s' t t':List (Nat × Obj)):Prop:=(∀ q,q ∉ w→aA q s'=aA q s∧aA q t'=aA q t)∧∀ q,q ∈ w→aA q s'=aA q t'
section
variable {E:Env} {σ τ:St} {d:Nat}
theorem Ax {ty:bX} {ob fP:List (Nat × Obj)} (ho:∀ o b,aA o ob=some b→aA o fP=some b):∀ k,(∀ x y,cH ty ob k x=some y→cH ty fP k x=some y)∧(∀ x y,cH.gQ ty ob k x=some y→cH.gQ ty fP k x=some y)
 | 0=>⟨fun x y h=>by simp[cH] at h,fun x y h=>by cases x <;> simp[cH.gQ] at h⟩
 | k+1=>by
   obtain⟨KX,LQ⟩:=Ax ho k;refine⟨fun x y h=>?_,fun x y h=>?_⟩
   ·cases x with
    | own o t i n=>
      simp only[cH] at h ⊢;split at h
      ·rename_i u fr es hg;rw[ho _ _ hg];exact h
      ·cases h
    | ptr o r p=>
      simp only[cH] at h ⊢;split at h
      ·rename_i b hg;rw[ho _ _ hg];try dsimp only
       split at h
       ·rename_i e;rw[if_pos e];split at h
        ·rename_i x hx;split at h
         ·rename_i u hu;obtain⟨y',h1,h2⟩:=aq h;rw[KX _ _ h1];exact h2
         ·cases h
        ·cases h
       ·cases h
      ·cases h
    | st t fs=>
      simp only[cH] at h ⊢;obtain⟨y',h1,h2⟩:=aq h;rw[LQ _ _ h1];exact h2
    | fn f cs=>
      simp only[cH] at h ⊢;obtain⟨y',h1,h2⟩:=aq h;rw[LQ _ _ h1];exact h2
    | _=>simpa only[cH] using h
   ·cases x with
    | nil=>simpa only[cH.gQ] using h
    | cons x r=>
      simp only[cH.gQ] at h ⊢;obtain⟨y',h1,h2⟩:=aq h;obtain⟨y2,h3,h4⟩:=aq h2;rw[KX _ _ h1,aN,LQ _ _ h3];exact h4
theorem kJ {G:cC}:∀ (l:List (Nat × Operand)),(∀ p ∈ l,∀ v,σ.val G p.2=some v→τ.val G p.2=some v)→∀ y,dq G σ l=some y→dq G τ l=some y
 | [],_,y,h=>by simpa only[dq] using h
 | (i,x)::r,hv,y,h=>by
   simp only[dq] at h ⊢;obtain⟨y',h1,h2⟩:=aq h;obtain⟨y2,h3,h4⟩:=aq h2;rw[hv (i,x) (by simp) _ h1,aN,kJ r (fun p hp=>hv p (by simp[hp])) _ h3];exact h4
theorem jC {G:cC}:∀ (l:List Operand),(∀ p ∈ l,∀ v,σ.val G p=some v→τ.val G p=some v)→∀ y,dZ G σ l=some y→dZ G τ l=some y
 | [],_,y,h=>by simpa only[dZ] using h
 | x::r,hv,y,h=>by
   simp only[dZ] at h ⊢;obtain⟨y',h1,h2⟩:=aq h;obtain⟨y2,h3,h4⟩:=aq h2;rw[hv x (by simp) _ h1,aN,jC r (fun p hp=>hv p (by simp[hp])) _ h3];exact h4
theorem Qd.same {s t:List (Nat × Obj)}:Qd [] s s t t:=⟨fun _ _=>⟨rfl,rfl⟩,fun q hq=>by cases hq⟩
theorem Qd.new {o:Nat} {b:Obj} {s t:List (Nat × Obj)}:Qd [o] s (bE o b s) t (bE o b t):=
 ⟨fun q hq=>by
   have:o ≠ q:=fun e=>hq (by simp[e])
   simp[bn,this],fun q hq=>by
   have:o=q:=by simp at hq;exact hq.symm
   simp[bn,this]⟩
theorem Qd.append {d o:Nat} {b:Obj} {s t:List (Nat × Obj)}:Qd [d,o] s (bE d b (cK o s)) t (bE d b (cK o t)):=
 ⟨fun q hq=>by
   simp only[List.mem_cons,List.not_mem_nil,or_false,not_or] at hq;simp[bn,cZ,Ne.symm hq.1,Ne.symm hq.2],fun q hq=>by
   simp only[List.mem_cons,List.not_mem_nil,or_false] at hq;simp only[bn,cZ];split
   ·rfl
   ·rename_i e;rcases hq with hq | hq
    ·exact absurd hq.symm e
    ·rw[if_pos hq.symm,if_pos hq.symm]⟩
theorem JG {ob fP:List (Nat × Obj)} {e:TypeId} {x:AV} {r} (ho:∀ o b,aA o ob=some b→aA o fP=some b) (h:u6 ob e x=some r):u6 fP e x=some r:=by
 unfold u6 at h ⊢;split at h
 ·split at h
  ·rename_i hb;rw[ho _ _ hb];exact h
  ·cases h
 ·exact h
 ·cases h
def ajT (d:Nat):AV→List Nat
 | .own o _ _ _=>[d,o]
 | _=>[d]
theorem JH {t:TypeId} {s x r:AV} {ob:List (Nat × Obj)} (ho:∀ o b,aA o σ.ob=some b→aA o τ.ob=some b) (hf:τ.free d=true) (h:u7 E d σ t s x=some (r,ob)) :
 ∃ fP,u7 E d τ t s x=some (r,fP)∧Qd (ajT d s) σ.ob ob τ.ob fP:=by
 simp only[u7] at h ⊢;cases hD:E.ty t with
 | none=>simp only[hD] at h;cases h
 | some D=>
   obtain⟨k,s1,b1,z1⟩:=D;simp only[hD] at h ⊢;cases k with
   | slice e=>
     dsimp only at h ⊢;cases hE:E.ty e with
     | none=>simp only[hE] at h;cases h
     | some T=>
       simp only[hE] at h ⊢;obtain⟨p,h1,h2⟩:=aq h;rw[JG ho h1,aN];split at h2
       ·rename_i hc;rw[if_pos ⟨hc.1,hf⟩];split at h2
        ·split at h2
         ·rename_i fp;injection h2 with h2;injection h2 with h2 h3;subst h2;subst h3
          exact⟨_,by rw[if_pos fp],.new⟩
         ·cases h2
        ·split at h2
         ·rename_i hb;split at h2
          ·rename_i fp;injection h2 with h2;injection h2 with h2 h3;subst h2;subst h3
           simp only[ho _ _ hb];exact⟨_,by rw[if_pos fp],.append⟩
          ·rename_i sy;split at h2
           ·rename_i fp;injection h2 with h2;injection h2 with h2 h3;subst h2;subst h3
            simp only[ho _ _ hb];exact⟨_,by rw[if_neg sy,if_pos fp],.append⟩
           ·cases h2
         ·cases h2
        ·cases h2
       ·cases h2
   | _=>cases h
theorem JI {t:TypeId} {s x:AV} {r} (h:u7 E d σ t s x=some r):σ.free d=true:=by
 unfold u7 at h;split at h
 ·split at h
  ·obtain⟨p,h1,h2⟩:=aq h;split at h2
   ·rename_i hc;exact hc.2
   ·cases h2
  ·cases h
 ·cases h
theorem xI {Q:FuncId→Bool} {G:cC} {c:Call} (h:∀ b,c.callee = .builtin b→b ≠ .append) (hq:∀ g,c.callee = .value g→Ld Q g=false):A7 Q G d σ (.call c)=[]:=by
 simp only[A7,pP];split
 ·rename_i g hg;rw[if_neg (by simp[hq g hg])]
 ·rename_i b hb;have:isApp b=false:=by cases b <;> first | rfl | exact absurd rfl (h _ hb)
  rw[if_neg (by simp[this])]
 ·rfl
theorem xJ {G:cC} {p:Option Operand} {n l:Nat} (hv:∀ y,p=some y→∀ v,σ.val G y=some v→τ.val G y=some v) (h:yD G σ p n=some l):yD G τ p n=some l:=by
 unfold yD at h ⊢;split at h
 ·exact h
 ·rename_i y;obtain⟨v,h1,h2⟩:=aq h;rw[hv y rfl _ h1];exact h2
theorem D9 {ob fP:List (Nat × Obj)} (ho:∀ o b,aA o ob=some b→aA o fP=some b) (x:AV):iX ob x≤iX fP x:=by
 unfold iX;cases x <;> try exact Nat.le_refl _
 rename_i o u _ _;dsimp only;cases hb:aA o ob with
 | none=>exact Nat.zero_le _
 | some b=>rw[ho o b hb];exact Nat.le_refl _
theorem Nl {ty:bX} {t:TypeId} {x:AV} {l h:Nat} {m:Option Nat} {rl rl':Nat} (hr:rl≤rl') {y:AV} (hy:pg ty t x l h m rl=some y):pg ty t x l h m rl'=some y:=by
 unfold pg at hy ⊢;cases x <;> try exact hy
 dsimp only at hy ⊢;split at hy
 ·rename_i hc;rw[if_pos ⟨hc.1,hc.2.1,hc.2.2.1.imp id fun h=>Nat.le_trans h hr,hc.2.2.2⟩];exact hy
 ·cases hy
theorem Ay {op:Op} {x:AV} {ob:List (Nat × Obj)} (hv:∀ x ∈ op.operands.toList,∀ v,σ.val E.G x=some v→τ.val E.G x=some v)
 (ho:∀ o b,aA o σ.ob=some b→aA o τ.ob=some b) (hf:il E.Q op=true→τ.free d=true) (h:aZ E d σ op=some (x,ob)) :
 ∃ fP,aZ E d τ op=some (x,fP)∧Qd (A7 E.Q E.G d σ op) σ.ob ob τ.ob fP:=by
 cases op with
 | move y=>
   simp only[aZ] at h ⊢;obtain⟨v,h1,h2⟩:=aq h;injection h2 with h2;injection h2 with h2 h3;subst h2;subst h3
   exact⟨τ.ob,by rw[hv y (by simp[Op.operands]) _ h1];rfl,.same⟩
 | assign y=>
   simp only[aZ] at h ⊢;obtain⟨v,h1,h2⟩:=aq h;injection h2 with h2;injection h2 with h2 h3;subst h2;subst h3
   exact⟨τ.ob,by rw[hv y (by simp[Op.operands]) _ h1];rfl,.same⟩
 | pick c a b=>
   simp only[aZ] at h ⊢;obtain⟨v,h1,h2⟩:=aq h;rw[hv c (by simp[Op.operands]) _ h1,aN];split at h2
   ·rename_i q;try dsimp only
    split at h2
    ·rename_i e;rw[if_pos e];obtain⟨v,h3,h4⟩:=aq h2;injection h4 with h4;injection h4 with h4 h5;subst h4;subst h5
     exact⟨τ.ob,by rw[hv a (by simp[Op.operands]) _ h3];rfl,.same⟩
    ·rename_i e;rw[if_neg e];obtain⟨v,h3,h4⟩:=aq h2;injection h4 with h4;injection h4 with h4 h5;subst h4;subst h5
     exact⟨τ.ob,by rw[hv b (by simp[Op.operands]) _ h3];rfl,.same⟩
   ·cases h2
 | alloc t=>
   simp only[aZ] at h ⊢;split at h
   ·split at h
    ·injection h with h;injection h with h4 h5;subst h4;subst h5
     exact⟨_,by rw[if_pos (hf rfl)],.new⟩
    ·cases h
   ·cases h
 | box t y=>
   simp only[aZ] at h ⊢;obtain⟨v,h1,h2⟩:=aq h;rw[hv y (by simp[Op.operands]) _ h1,aN];split at h2
   ·rename_i hc;injection h2 with h;injection h with h4 h5;subst h4;subst h5
    exact⟨_,by rw[if_pos ⟨hc.1,hc.2.1,hf rfl,hc.2.2.2⟩],.new⟩
   ·cases h2
 | build t ps=>
   simp only[aZ] at h ⊢;have hp:∀ p ∈ ps.toList,∀ v,σ.val E.G p.2=some v→τ.val E.G p.2=some v:=fun p hp=>hv p.2 (by simp only[Op.operands];exact List.mem_map.2 ⟨p,hp,rfl⟩)
   split at h
   ·obtain⟨v,h1,h2⟩:=aq h;obtain⟨v2,h3,h4⟩:=aq h2;injection h4 with h4;injection h4 with h4 h5;subst h4;subst h5
    exact⟨τ.ob,by rw[kJ _ hp _ h1,aN,h3];rfl,.same⟩
   ·obtain⟨v,h1,h2⟩:=aq h;obtain⟨v2,h3,h4⟩:=aq h2;injection h4 with h4;injection h4 with h4 h5;subst h4;subst h5
    exact⟨τ.ob,by rw[kJ _ hp _ h1,aN,h3];rfl,.same⟩
   ·cases h
 | buildSlice t n ps=>
   simp only[aZ] at h ⊢;have hp:∀ p ∈ ps.toList,∀ v,σ.val E.G p.2=some v→τ.val E.G p.2=some v:=fun p hp=>hv p.2 (by simp only[Op.operands];exact List.mem_map.2 ⟨p,hp,rfl⟩)
   split at h
   ·split at h
    ·obtain⟨v,h1,h2⟩:=aq h;split at h2;all_goals
      rename_i Vo;obtain⟨v2,h3,h4⟩:=aq h2;split at h4
      ·rename_i hc;injection h4 with h4;injection h4 with h4 h5;subst h4;subst h5
       refine⟨_,?_,.new⟩;rw[kJ _ hp _ h1,aN];simp only[Vo,if_true,if_false,Bool.false_eq_true];rw[h3,aN,if_pos ⟨hf rfl,hc.2⟩]
      ·cases h4
    ·cases h
   ·cases h
 | makeSlice t y z=>
   simp only[aZ] at h ⊢;split at h
   ·split at h
    ·obtain⟨v,h1,h2⟩:=aq h;obtain⟨v2,h3,h4⟩:=aq h2;rw[hv y (by simp[Op.operands]) _ h1,aN,hv z (by simp[Op.operands]) _ h3,aN];split at h4
     ·split at h4
      ·rename_i hc;injection h4 with h4;injection h4 with h4 h5;subst h4;subst h5
       refine⟨_,?_,.new⟩;try dsimp only
       rw[if_pos ⟨hc.1,hc.2.1,hc.2.2.1,hc.2.2.2.1,hc.2.2.2.2.1,hf rfl⟩]
      ·cases h4
     ·cases h4
    ·cases h
   ·cases h
 | load t a=>
   simp only[aZ] at h ⊢;obtain⟨v,h1,h2⟩:=aq h;rw[hv a (by simp[Op.operands]) _ h1,aN];split at h2
   ·rename_i o r p;try dsimp only
    split at h2
    ·rename_i b hb;rw[ho _ _ hb];try dsimp only
     split at h2
     ·rename_i e;rw[if_pos e];obtain⟨v,h3,h4⟩:=aq h2;rw[h3,aN];split at h4
      ·rename_i e2;rw[if_pos e2];injection h4 with h4;injection h4 with h4 h5;subst h4;subst h5
       exact⟨τ.ob,rfl,.same⟩
      ·cases h4
     ·cases h2
    ·cases h2
   ·try dsimp only
    split at h2
    ·rename_i e;rw[if_pos e];injection h2 with h4;injection h4 with h4 h5;subst h4;subst h5
     exact⟨τ.ob,rfl,.same⟩
    ·cases h2
   ·cases h2
 | store t a y=>
   simp only[aZ] at h ⊢;obtain⟨v,h1,h2⟩:=aq h;obtain⟨v2,h3,h4⟩:=aq h2;rw[hv a (by simp[Op.operands]) _ h1,aN,hv y (by simp[Op.operands]) _ h3,aN];split at h4
   ·rename_i o r p;try dsimp only
    split at h4
    ·rename_i b hb;rw[ho _ _ hb];try dsimp only
     split at h4
     ·rename_i e;rw[if_pos e];obtain⟨v,h5,h6⟩:=aq h4;rw[h5,aN];injection h6 with h4;injection h4 with h4 h5;subst h4;subst h5
      exact⟨_,rfl,by simp only[A7,h1];exact .new⟩
     ·cases h4
    ·cases h4
   ·cases h4
 | fieldAddr s y f=>
   simp only[aZ] at h ⊢;obtain⟨v,h1,h2⟩:=aq h;rw[hv y (by simp[Op.operands]) _ h1,aN];split at h2
   ·try dsimp only
    split at h2
    ·rename_i e;rw[if_pos e];split at h2
     ·split at h2
      ·rename_i e2;rw[if_pos e2];injection h2 with h4;injection h4 with h4 h5;subst h4;subst h5
       exact⟨τ.ob,rfl,.same⟩
      ·cases h2
     ·cases h2
    ·cases h2
   ·try dsimp only
    split at h2
    ·rename_i e;rw[if_pos e];split at h2
     ·obtain⟨v,h3,h4⟩:=aq h2;obtain⟨v2,h5,h6⟩:=aq h4;rw[h3,aN,h5,aN];injection h6 with h4;injection h4 with h4 h5;subst h4;subst h5
      exact⟨τ.ob,rfl,.same⟩
     ·cases h2
    ·cases h2
   ·cases h2
 | field s y f=>
   simp only[aZ] at h ⊢;obtain⟨v,h1,h2⟩:=aq h;rw[hv y (by simp[Op.operands]) _ h1,aN];split at h2
   ·try dsimp only
    split at h2
    ·rename_i e;rw[if_pos e];obtain⟨v,h3,h4⟩:=aq h2;rw[h3,aN];injection h4 with h4;injection h4 with h4 h5;subst h4;subst h5
     exact⟨τ.ob,rfl,.same⟩
    ·cases h2
   ·cases h2
 | binOp op t y z u=>
   simp only[aZ] at h ⊢;obtain⟨v,h1,h2⟩:=aq h;obtain⟨v2,h3,h4⟩:=aq h2;obtain⟨v3,h5,h6⟩:=aq h4;injection h6 with h4;injection h4 with h4 h7;subst h4;subst h7
   exact⟨τ.ob,by rw[hv y (by simp[Op.operands]) _ h1,aN,hv z (by simp[Op.operands]) _ h3,aN,h5];rfl,.same⟩
 | unOp op t y=>
   simp only[aZ] at h ⊢;obtain⟨v,h1,h2⟩:=aq h;obtain⟨v3,h5,h6⟩:=aq h2;injection h6 with h4;injection h4 with h4 h7;subst h4;subst h7
   exact⟨τ.ob,by rw[hv y (by simp[Op.operands]) _ h1,aN,h5];rfl,.same⟩
 | nilCheck y=>
   simp only[aZ] at h ⊢;obtain⟨v,h1,h2⟩:=aq h;rw[hv y (by simp[Op.operands]) _ h1,aN];split at h2
   ·injection h2 with h4;injection h4 with h4 h5;subst h4;subst h5
    exact⟨τ.ob,rfl,.same⟩
   ·injection h2 with h4;injection h4 with h4 h5;subst h4;subst h5
    exact⟨τ.ob,rfl,.same⟩
   ·cases h2
 | extract y i=>
   simp only[aZ] at h ⊢;obtain⟨v,h1,h2⟩:=aq h;rw[hv y (by simp[Op.operands]) _ h1,aN];split at h2
   ·try dsimp only
    split at h2
    ·rename_i hq;injection h2 with h4;injection h4 with h4 h5;subst h4;subst h5
     exact⟨τ.ob,rfl,.same⟩
    ·cases h2
   ·cases h2
 | indexAddr t y z=>
   simp only[aZ] at h ⊢;split at h
   ·obtain⟨v,h1,h2⟩:=aq h;obtain⟨v2,h3,h4⟩:=aq h2;rw[hv y (by simp[Op.operands]) _ h1,aN,hv z (by simp[Op.operands]) _ h3,aN];split at h4
    ·try dsimp only
     split at h4
     ·rename_i e;rw[if_pos e];injection h4 with h4;injection h4 with h4 h5;subst h4;subst h5
      exact⟨τ.ob,rfl,.same⟩
     ·cases h4
    ·try dsimp only
     split at h4
     ·rename_i e;rw[if_pos e];obtain⟨v,h5,h6⟩:=aq h4;rw[h5,aN];injection h6 with h4;injection h4 with h4 h5;subst h4;subst h5
      exact⟨τ.ob,rfl,.same⟩
     ·cases h4
    ·cases h4
   ·obtain⟨v,h1,h2⟩:=aq h;obtain⟨v2,h3,h4⟩:=aq h2;rw[hv y (by simp[Op.operands]) _ h1,aN,hv z (by simp[Op.operands]) _ h3,aN];split at h4
    ·try dsimp only
     split at h4
     ·rename_i e;rw[if_pos e];injection h4 with h4;injection h4 with h4 h5;subst h4;subst h5
      exact⟨τ.ob,rfl,.same⟩
     ·cases h4
    ·try dsimp only
     split at h4
     ·rename_i e;rw[if_pos e];obtain⟨v,h5,h6⟩:=aq h4;rw[h5,aN];injection h6 with h4;injection h4 with h4 h5;subst h4;subst h5
      exact⟨τ.ob,rfl,.same⟩
     ·cases h4
    ·cases h4
   ·cases h
 | lookup t y z ok=>
   simp only[aZ] at h ⊢;obtain⟨v,h1,h2⟩:=aq h;obtain⟨v2,h3,h4⟩:=aq h2;obtain⟨v3,h5,h6⟩:=aq h4;rw[hv y (by simp[Op.operands]) _ h1,aN,hv z (by simp[Op.operands]) _ h3,aN,h5,aN];injection h6 with h6;injection h6 with h6 h7;subst h6;subst h7
   exact⟨τ.ob,rfl,.same⟩
 | index t y z=>
   simp only[aZ] at h ⊢;obtain⟨v,h1,h2⟩:=aq h;obtain⟨v2,h3,h4⟩:=aq h2;rw[hv y (by simp[Op.operands]) _ h1,aN,hv z (by simp[Op.operands]) _ h3,aN];split at h4
   ·try dsimp only
    split at h4
    ·rename_i e;rw[if_pos e];obtain⟨v,h5,h6⟩:=aq h4;rw[h5,aN];injection h6 with h4;injection h4 with h4 h5;subst h4;subst h5
     exact⟨τ.ob,rfl,.same⟩
    ·cases h4
   ·cases h4
 | makeFunc fn first cs=>
   simp only[aZ] at h ⊢;split at h
   ·split at h
    ·rename_i e;rw[if_pos e];obtain⟨v,h1,h2⟩:=aq h;rw[jC _ (fun p hp=>hv p (by simp only[Op.operands];simp;exact .inr (by simpa using hp))) _ h1,aN];split at h2
     ·rename_i e2;rw[if_pos e2];injection h2 with h4;injection h4 with h4 h5;subst h4;subst h5
      exact⟨τ.ob,rfl,.same⟩
     ·cases h2
    ·cases h
   ·cases h
 | convert s t y=>
   simp only[aZ] at h ⊢;obtain⟨v,h1,h2⟩:=aq h;rw[hv y (by simp[Op.operands]) _ h1,aN];split at h2
   ·try dsimp only
    split at h2
    ·split at h2
     ·injection h2 with h4;injection h4 with h4 h5;subst h4;subst h5
      exact⟨τ.ob,rfl,.same⟩
     ·cases h2
    ·cases h2
   ·cases h2
 | slice t y lo hi mx=>
   simp only[aZ] at h ⊢;obtain⟨v,h1,h2⟩:=aq h;obtain⟨l,h3,h4⟩:=aq h2;obtain⟨hh,h5,h6⟩:=aq h4;rw[hv y (by simp[Op.operands]) _ h1,aN,xJ (fun z hz v hq=>hv z (by subst hz;simp[Op.operands]) v hq) h3,aN,xJ (fun z hz v hq=>hv z (by subst hz;simp[Op.operands]) v hq) h5,aN];split at h6
   ·obtain⟨v2,h7,h8⟩:=aq h6;injection h8 with h4;injection h4 with h4 h5;subst h4;subst h5
    exact⟨τ.ob,by rw[Nl (D9 ho v) h7];rfl,.same⟩
   ·rename_i mm;split at h6
    ·rename_i zp;obtain⟨m,h7,h8⟩:=aq h6;obtain⟨v2,h9,dR⟩:=aq h8;injection dR with h4;injection h4 with h4 h5;subst h4;subst h5
     exact⟨τ.ob,by rw[if_pos zp,xJ (fun z hz v hq=>hv z (by injection hz with hz;subst hz;simp[Op.operands]) v hq) h7,aN,h9];rfl,.same⟩
    ·cases h6
 | call c=>
   simp only[aZ] at h ⊢;split at h
   ·rename_i g hc;split at h
    ·rename_i C4;obtain⟨l,h1,h2⟩:=aq h;rw[if_pos C4,jC _ (fun p hp=>hv p (by simp only[Op.operands,Call.operands,hc];simp;exact .inr (by simpa using hp))) _ h1,aN];unfold pj at h2 ⊢;split at h2
     ·rename_i hi;rw[if_pos hi];obtain⟨⟨q1,q2⟩,h3,h4⟩:=aq h2;rw[h3,aN];unfold zj at h4 ⊢;dsimp only at h4 ⊢;split at h4
      ·rename_i o b;split at h4
       ·rename_i mj;injection h4 with h4;injection h4 with h4 h5;subst h4;subst h5
        have KU:=hf (by simp[il,hc,C4]);exact⟨_,by rw[if_pos ⟨KU,mj.2⟩],by simp only[A7,pP,hc,C4,if_true];exact .new⟩
       ·cases h4
      ·cases h4
     ·cases h2
    rename_i C4;rw[if_neg C4];obtain⟨v,h1,h2⟩:=aq h;obtain⟨v2,h3,h4⟩:=aq h2;rw[hv g (by simp[Op.operands,Call.operands,hc]) _ h1,aN,jC _ (fun p hp=>hv p (by simp only[Op.operands,Call.operands,hc];simp;exact .inr (by simpa using hp))) _ h3,aN];split at h4
    ·try dsimp only
     obtain⟨v,h5,h6⟩:=aq h4;obtain⟨v2,h7,h8⟩:=aq h6;rw[(Ax ho 30).2 _ _ h5,aN,h7,aN];split at h8;rotate_left
     ·cases h8
     rename_i hbk;injection h8 with h4;injection h4 with h4 h5;subst h4;subst h5
     exact⟨τ.ob,by rw[if_pos hbk],by rw[xI (fun b hb=>by rw[hc] at hb;cases hb) (fun g' wg=>by rw[hc] at wg;injection wg with wg;subst wg;simpa using C4)];exact .same⟩
    ·cases h4
   ·rename_i hc;obtain⟨l,h1,h2⟩:=aq h;rw[jC _ (fun p hp=>hv p (by simp only[Op.operands,Call.operands,hc];simpa using hp)) _ h1,aN];split at h2
    ·rename_i s x' t t' lH;split at h2
     ·rename_i e;obtain⟨fP,r1,r2⟩:=JH ho (hf (by simp[il,hc,isApp])) h2;refine⟨fP,by first | (rw[if_pos e];exact r1) | (simp only[lH];rw[if_pos e];exact r1),?_⟩;simp only[A7,pP,hc,h1,isApp,if_true];cases s <;> exact r2
     ·cases h2
    ·cases h2
   ·rename_i hc;obtain⟨l,h1,h2⟩:=aq h;rw[jC _ (fun p hp=>hv p (by simp only[Op.operands,Call.operands,hc];simpa using hp)) _ h1,aN];split at h2
    ·split at h2
     ·rename_i e;injection h2 with h4;injection h4 with h4 h5;subst h4;subst h5
      exact⟨τ.ob,by rw[if_pos e],by rw[xI (fun b hb=>by rw[hc] at hb;injection hb with hb;subst hb;simp) (fun g' wg=>by rw[hc] at wg;cases wg)];exact .same⟩
     ·cases h2
    ·cases h2
   ·rename_i hc;obtain⟨v,h1,h2⟩:=aq h;obtain⟨v2,h3,h4⟩:=aq h2;rw[jC _ (fun p hp=>hv p (by simp only[Op.operands,Call.operands,hc];simpa using hp)) _ h1,aN,h3,aN];injection h4 with h4;injection h4 with h4 h5;subst h4;subst h5
    exact⟨τ.ob,rfl,by rw[xI (fun b hb=>by rw[hc] at hb;injection hb with hb;subst hb;simp) (fun g' wg=>by rw[hc] at wg;cases wg)];exact .same⟩
   ·cases h
 | _=>simp only[aZ] at h;cases h
theorem Az {op:Op} {r} (h:aZ E d σ op=some r) (ha:il E.Q op=true):σ.free d=true:=by
 cases op with
 | alloc t=>
   simp only[aZ] at h;split at h
   ·split at h
    ·assumption
    ·cases h
   ·cases h
 | box t y=>
   simp only[aZ] at h;obtain⟨v,h1,h2⟩:=aq h;split at h2
   ·rename_i hc;exact hc.2.2.1
   ·cases h2
 | buildSlice t n ps=>
   simp only[aZ] at h;split at h
   ·split at h
    ·obtain⟨v,h1,h2⟩:=aq h;split at h2;all_goals
      obtain⟨v2,h3,h4⟩:=aq h2;split at h4
      ·rename_i hc;exact hc.1
      ·cases h4
    ·cases h
   ·cases h
 | makeSlice t y z=>
   simp only[aZ] at h;split at h
   ·split at h
    ·obtain⟨v,h1,h2⟩:=aq h;obtain⟨v2,h3,h4⟩:=aq h2;split at h4
     ·split at h4
      ·rename_i hc;exact hc.2.2.2.2.2
      ·cases h4
     ·cases h4
    ·cases h
   ·cases h
 | call c=>
   simp only[il] at ha;split at ha
   ·rename_i b hc;cases b <;> first | cases ha | skip
    simp only[aZ,hc] at h;obtain⟨l,h1,h2⟩:=aq h;split at h2
    ·split at h2
     ·exact JI h2
     ·cases h2
    ·cases h2
   ·rename_i g hc;simp only[aZ,hc] at h;rw[if_pos ha] at h;obtain⟨l,h1,h2⟩:=aq h;unfold pj at h2;split at h2
    ·obtain⟨q,h3,h4⟩:=aq h2;unfold zj at h4;split at h4
     ·split at h4
      ·rename_i mj;exact mj.1
      ·cases h4
     ·cases h4
    ·cases h2
   ·cases ha
 | _=>cases ha
end
end Go.Abs
end
