/- Part of the proof of one statement of this seat: an abstract machine for the program, its contracts, and the statement (no condition of our own). -/
import Derived.MapKept
import Derived.RangeFuncLeaves
import Derived.RangeFuncRecord
import Derived.KernelRfl
import Derived.Test.YtbdbjpdlcemeaaaDoorProg
import Derived.Test.YtbdbjpdlcemeaaaDoorDp01
set_option linter.unusedSimpArgs false
set_option linter.unusedVariables false
section
namespace Go.Abs
open Go Go.RowKit
variable {P:Program} {E:Env} {w0 w:World} {σ:St} {a:Act} {β:Nat→Option Nat} {o:Oper} {x:AV} {ob:List (Nat × Obj)} {d:Nat}
theorem zip_unique {α β:Type}:∀ {l:List α} {m:List β} {a:α} {x y:β},l.Pairwise (·≠ ·)→(a,x) ∈ l.zip m→(a,y) ∈ l.zip m→x=y
 | [],_,_,_,_,_,h,_=>by simp at h
 | _::_,[],_,_,_,_,h,_=>by simp at h
 | b::l,c::m,a,x,y,hp,h1,h2=>by
   obtain⟨p1,p2⟩:=List.pairwise_cons.1 hp;simp only[List.zip_cons_cons,List.mem_cons,Prod.mk.injEq] at h1 h2;have mem:∀ z,(a,z) ∈ l.zip m→a ∈ l:=fun z h=>(List.of_mem_zip h).1
   rcases h1 with ⟨rfl,rfl⟩ | h1
   ·rcases h2 with ⟨_,rfl⟩ | h2
    ·rfl
    ·exact absurd rfl (p1 _ (mem _ h2))
   ·rcases h2 with ⟨rfl,rfl⟩ | h2
    ·exact absurd rfl (p1 _ (mem _ h1))
    ·exact zip_unique p2 h1 h2
theorem keyL_ok {ty:Tys} (hT:TyOk P ty) {u:TypeId} {x y:AV} {b:Bool} (h:keyL ty u x y=some b) :
 (∃ D,ty u=some D∧isLeaf D.k=true)∧(b=true↔kv1 y=kv1 x)∧(∀ (c:Cx) v,OR c x v→v=kv1 x)∧
 (∀ d w,(Op.equalIn (d+1) u (kv1 x) (kv1 y)).run P w = .ok b w)∧∀ e d w,(Instr.checkKey e (d+1) u (kv1 x)).run P w = .ok () w:=by
 unfold keyL at h;split at h
 ·rename_i k a k' b';split at h
  ·rename_i kk s bb z hD;split at h
   ·rename_i hk;obtain⟨q1,q2⟩:=hk;subst q1;subst q2;injection h with h;subst h
    have hkk:=(hT u _ hD).kind;simp only[kindOk] at hkk;refine⟨⟨_,hD,rfl⟩,?_,fun c v hv=>VR.int_inv (c:=c) hv,fun d w=>run_equalIn_int w d u _ _ a b' hkk,fun e d w=>?_⟩
    ·simp only[kv1,Value.int.injEq,true_and,beq_iff_eq];exact eq_comm
    ·simp only[kv1];exact MapKept.run_checkKey hkk (by simp[MapKept.IsKey]) e d
   ·cases h
  ·cases h
 ·rename_i a b';split at h
  ·rename_i hb;injection h with h;subst h
   unfold isBool at hb;split at hb
   ·rename_i s bb z hD;have hkk:=(hT u _ hD).kind;simp only[kindOk] at hkk;refine⟨⟨_,hD,rfl⟩,?_,fun c v hv=>VR.bool_inv (c:=c) hv,fun d w=>run_equalIn_bool' w d u a b' hkk,fun e d w=>?_⟩
    ·simp only[kv1,Value.bool.injEq,beq_iff_eq];exact eq_comm
    ·simp only[kv1];exact MapKept.run_checkKey hkk (by simp[MapKept.IsKey]) e d
   ·cases hb
  ·cases h
 ·cases h
theorem keyL_eqL {ty:Tys} {u:TypeId} {x y:AV} {b:Bool} (h:keyL ty u x y=some b):eqL ty u x y=some b:=by
 unfold keyL at h;split at h
 ·split at h
  ·rename_i hD;split at h
   ·rename_i hc;obtain⟨c1,c2⟩:=hc;subst c1;subst c2;simp only[eqL,hD,if_true];exact h
   ·cases h
  ·cases h
 ·exact h
 ·cases h
theorem keyFs_eqFs {ty:Tys}:∀ (ts:List TypeId) (fs gs:List AV) (b:Bool),keyFs ty ts fs gs=some b→eqFs ty ts fs gs=some b
 | [],[],[],_,h=>h
 | [],[],_::_,_,h=>by simp[keyFs] at h
 | [],_::_,_,_,h=>by simp[keyFs] at h
 | _::_,[],_,_,h=>by simp[keyFs] at h
 | _::_,_::_,[],_,h=>by simp[keyFs] at h
 | u::ts,x::r,y::s,b,h=>by
   simp only[keyFs] at h;obtain⟨b1,q1,q2⟩:=obind_eq h;obtain⟨b2,q3,q4⟩:=obind_eq q2;simp only[eqFs,keyL_eqL q1,keyFs_eqFs ts r s b2 q3,obind_some,q4]
theorem keyFs_ok {ty:Tys} (hT:TyOk P ty):∀ (ts:List TypeId) (fs gs:List AV) (b:Bool),keyFs ty ts fs gs=some b→
 ts.length=fs.length∧ts.length=gs.length∧(b=true↔gs.map kv1=fs.map kv1)∧
 ∀ (i:Nat) (u:TypeId) (x y:AV),ts[i]? = some u→fs[i]? = some x→gs[i]? = some y→∃ b,keyL ty u x y=some b
 | [],[],[],b,h=>by simp[keyFs] at h;subst h;simp
 | [],[],_::_,_,h=>by simp[keyFs] at h
 | [],_::_,_,_,h=>by simp[keyFs] at h
 | _::_,[],_,_,h=>by simp[keyFs] at h
 | _::_,_::_,[],_,h=>by simp[keyFs] at h
 | u::ts,x::r,y::s,b,h=>by
   simp only[keyFs] at h;obtain⟨b1,q1,q2⟩:=obind_eq h;obtain⟨b2,q3,q4⟩:=obind_eq q2;injection q4 with q4;subst q4
   obtain⟨i1,i2,i3,i4⟩:=keyFs_ok hT ts r s b2 q3;obtain⟨_,j2,_,_,_⟩:=keyL_ok (P:=P) hT q1;refine⟨by simp[i1],by simp[i2],?_,fun i v x' y' h1 h2 h3=>?_⟩
   ·simp only[Bool.and_eq_true,List.map_cons,List.cons.injEq,j2,i3]
   ·cases i with
    | zero=>simp at h1 h2 h3;subst h1;subst h2;subst h3;exact⟨_,q1⟩
    | succ i=>exact i4 i v x' y' (by simpa using h1) (by simpa using h2) (by simpa using h3)
structure KeyOk (P:Program) (u:TypeId) (k y:AV) (b:Bool):Prop where
 iff:b=true↔kv y=kv k
 val:∀ (c:Cx) v,VR c k v→v=kv k
 eq:∀ w,(Op.equal u (kv k) (kv y)).run P w = .ok b w
 check:∀ e w,(Instr.checkKey e 10000 u (kv k)).run P w = .ok () w
 kind:(∃ d,P.underlying u=some d∧MapKept.IsKey d (kv k)∧MapKept.IsKey d (kv y))∨∃ d,P.underlying u=some d∧∀ z,Instr.sameNow d (kv k) z=none
theorem checkFs {ty:Tys} (hT:TyOk P ty) (e:Bool) (w:World) (xs:Array Value):∀ (Fs:List Field) (ts:List TypeId) (fs gs:List AV) (i:Nat),Fs.length=ts.length→
 (∀ (j:Nat) (f:Field),Fs[j]? = some f→ts[j]? = some f.type∧f.offset=i+j)→
 (∀ (j:Nat) (x:AV),fs[j]? = some x→xs[i+j]? = some (kv1 x))→(∃ b,keyFs ty ts fs gs=some b)→
 ((forIn Fs PUnit.unit fun f _=>
   if f.name ≠ "_" then do
    let p ← part f.type xs f.offset
    Instr.checkKey e 9999 f.type p
    pure (ForInStep.yield PUnit.unit)
   else pure (ForInStep.yield PUnit.unit)):Sem PUnit).run P w = .ok PUnit.unit w
 | [],ts,fs,gs,i,hl,hf,hx,h=>by simp
 | f::Fs,[],fs,gs,i,hl,hf,hx,h=>by simp at hl
 | f::Fs,u::ts,fs,gs,i,hl,hf,hx,⟨b,h⟩=>by
   cases fs with
   | nil=>simp[keyFs] at h
   | cons x r=>
     cases gs with
     | nil=>simp[keyFs] at h
     | cons y s=>
       simp only[keyFs] at h;obtain⟨b1,q1,q2⟩:=obind_eq h;obtain⟨b2,q3,q4⟩:=obind_eq q2;obtain⟨hu,ho⟩:=hf 0 f rfl;simp at hu;subst hu;obtain⟨⟨D,d1,d2⟩,_,_,_,hc⟩:=keyL_ok (P:=P) hT q1;have pt:(part f.type xs f.offset).run P w = .ok (kv1 x) w:=by
        unfold part;simp only[Sem.run_bind,run_isAgg_ty hT d1,Result.andThen_ok,d2,Bool.not_true,Bool.false_eq_true,if_false];rw[ho,hx 0 x rfl];rfl
       have ih:=checkFs hT e w xs Fs ts r s (i+1) (by simpa using hl) (fun j f' hf'=>by
        have:=hf (j+1) f' (by simpa using hf');exact⟨by simpa using this.1,by rw[this.2];omega⟩)
        (fun j z hz=>by rw[← hx (j+1) z (by simpa using hz)];congr 1;omega) ⟨b2,q3⟩
       rw[List.forIn_cons];by_cases hn:f.name = "_"
       ·simp only[hn,ne_eq,not_true_eq_false,if_false,Sem.run_bind,Sem.run_pure,Result.andThen_ok];exact ih
       ·simp only[hn,ne_eq,not_false_eq_true,if_true,Sem.run_bind,pt,hc e 9998 w,Sem.run_pure,Result.andThen_ok];exact ih
theorem keyEq_ok {ty:Tys} (hT:Tabs P ty) {u:TypeId} {k y:AV} {b:Bool} (h:keyEq ty u k y=some b):KeyOk P u k y b:=by
 have hI:(∀ t fs,k ≠ .st t fs)∧keyL ty u k y=some b∧(∃ q s bb z,ty u=some ⟨.int q,s,bb,z⟩)→KeyOk P u k y b:=by
  rintro⟨hns,h,q,s,bb,z,hD⟩;have hkk:=(hT.ok u _ hD).kind;simp only[kindOk] at hkk;obtain⟨_,j2,j3,j4,j5⟩:=keyL_ok (P:=P) hT.ok h;have hy:kv k=kv1 k∧kv y=kv1 y∧leafV k=true∧MapKept.IsKey (.int q) (kv1 k)∧MapKept.IsKey (.int q) (kv1 y):=by
   unfold keyL at h;split at h
   ·rw[hD] at h;simp only at h;split at h
    ·rename_i hc;obtain⟨c1,c2⟩:=hc;subst c1;subst c2;exact⟨rfl,rfl,rfl,by simp[kv1,MapKept.IsKey],by simp[kv1,MapKept.IsKey]⟩
    ·cases h
   ·unfold isBool at h;rw[hD] at h;simp at h
   ·cases h
  obtain⟨e1,e2,e3,e4,e5⟩:=hy;refine⟨by rw[e1,e2];exact j2,fun c v hv=>by rw[e1];exact j3 c v (VR.leafO hv e3),fun w=>by rw[e1,e2];exact j4 9999 w,fun e w=>by rw[e1];exact j5 e 9999 w,.inl ⟨_,hkk,by rw[e1];exact e4,by rw[e2];exact e5⟩⟩
 unfold keyEq at h;split at h
 ·rename_i t1 fs t2 gs;split at h
  ·rename_i hc;obtain⟨c1,c2⟩:=hc;subst c1;subst c2;split at h
   ·rename_i ts sz bb zz hD;have heq:=hT.eq _ ts sz bb zz hD;simp only[eqOkT,Bool.and_eq_true,Bool.not_eq_true',List.all_eq_true,bne_iff_ne] at heq;obtain⟨⟨g1,g2⟩,g3⟩:=heq;have hk:=(hT.ok _ _ hD).kind;simp only[kindOk] at hk;obtain⟨Fs,k1,k2,k3⟩:=hk;have hFs:P.fieldsOf t2=Fs:=by simp[Program.fieldsOf,k1]
    obtain⟨l1,l2,l3,l4⟩:=keyFs_ok (P:=P) hT.ok ts fs gs b h;have sz1:∀ u ∈ ts,szOf ty u=1:=fun u hu=>by
     obtain⟨i,hi⟩:=List.getElem?_of_mem hu;have hi':=(List.getElem?_eq_some_iff.1 hi).1;obtain⟨b',hb'⟩:=l4 i u _ _ hi (List.getElem?_eq_getElem (by omega)) (List.getElem?_eq_getElem (by omega));obtain⟨⟨D,d1,d2⟩,_⟩:=keyL_ok (P:=P) hT.ok hb';have hcf:=(hT.ok u D d1).conf;generalize D.zero=zz at hcf;cases hcf with
     | leaf f1 f2 f3 f4=>
       rw[d1] at f1;injection f1 with f1;subst f1
       simp[szOf,d1,f3]
     | st f1=>rw[d1] at f1;injection f1 with f1;subst f1;cases d2
     | ar f1=>rw[d1] at f1;injection f1 with f1;subst f1;cases d2
    have sum1:∀ (l:List TypeId),(∀ u ∈ l,szOf ty u=1)→(l.map (szOf ty)).sum=l.length:=fun l=>by
     induction l with
     | nil=>intro _;rfl
     | cons q r ih=>intro h;simp[h q (by simp),ih fun z hz=>h z (by simp[hz])];omega
    have off:∀ (j:Nat) (f:Field),Fs.toList[j]? = some f→ts[j]? = some f.type∧f.offset=0+j:=fun j f hf=>by
     obtain⟨a1,a2⟩:=k3 j f (by simpa using hf);refine⟨a1,?_⟩;rw[a2,sum1 _ fun u hu=>sz1 u (List.mem_of_mem_take hu),List.length_take];have:j < ts.length:=by rw[← k2];have:=(List.getElem?_eq_some_iff.1 hf).1;simpa using this
     omega
    have get:∀ (l:List AV) (j:Nat) (x:AV),l[j]? = some x→(l.map kv1).toArray[0+j]? = some (kv1 x):=fun l j x hx=>by simp[hx]
    let c0:Cx:=⟨ty,0,default,fun _=>none,fun _=>False,fun _=>True⟩
    have or1:∀ (l m:List AV),(∀ (i:Nat) (u:TypeId) (x y:AV),ts[i]? = some u→l[i]? = some x→m[i]? = some y→(∃ b,keyL ty u x y=some b))→ts.length=l.length→ts.length=m.length→
     (∀ (j:Nat) (x:AV),l[j]? = some x→OR c0 x (kv1 x))∧∀ (j:Nat) (x:AV),m[j]? = some x→OR c0 x (kv1 x):=fun l m hl h1 h2=>by
     have key:∀ {u x y b},keyL ty u x y=some b→OR c0 x (kv1 x)∧OR c0 y (kv1 y):=fun h=>by
      unfold keyL at h;split at h
      ·exact⟨.cl (.int _ _),.cl (.int _ _)⟩
      ·exact⟨.cl (.bool _),.cl (.bool _)⟩
      ·cases h
     constructor
     ·intro j x hx;have hj:=(List.getElem?_eq_some_iff.1 hx).1;obtain⟨b,hb⟩:=hl j _ x _ (List.getElem?_eq_getElem (by omega)) hx (List.getElem?_eq_getElem (by omega));exact (key hb).1
     ·intro j x hx;have hj:=(List.getElem?_eq_some_iff.1 hx).1;obtain⟨b,hb⟩:=hl j _ _ x (List.getElem?_eq_getElem (by omega)) (List.getElem?_eq_getElem (by omega)) hx;exact (key hb).2
    obtain⟨or2,or3⟩:=or1 fs gs l4 l1 l2
    let E0:Env:=⟨ty,fun _=>none,0,0,fun _ _=>none,fun _=>none,fun _=>True,none,fun _=>False,fun _=>false,fun _ _ _=>none,fun _=>false,fun _=>[]⟩
    refine⟨?_,fun c v hv=>?_,fun w=>?_,fun e w=>?_,.inr ⟨_,k1,fun z=>rfl⟩⟩
    ·simp only[kv,Value.agg.injEq];rw[l3];exact⟨fun h=>by rw[h],fun h=>by simpa using h⟩
    ·obtain⟨vs,e1,_,hF⟩:=hv;have lv:∀ (l:List AV),(∀ x ∈ l,leafV x=true)→leavesL l=l:=fun l=>by
      induction l with
      | nil=>intro _;rfl
      | cons q r ih=>intro h;simp only[leavesL];rw[leaves_leaf (h q (by simp)),ih fun z hz=>h z (by simp[hz])];rfl
     have hall:∀ x ∈ fs,leafV x=true∧∀ v,OR c x v→v=kv1 x:=fun x hx=>by
      obtain⟨i,hi⟩:=List.getElem?_of_mem hx;have hi':=(List.getElem?_eq_some_iff.1 hi).1;obtain⟨b',hb'⟩:=l4 i _ x _ (List.getElem?_eq_getElem (by omega)) hi (List.getElem?_eq_getElem (by omega));obtain⟨_,_,hv,_⟩:=keyL_ok (P:=P) hT.ok hb';refine⟨?_,fun v h=>hv c v h⟩;unfold keyL at hb';split at hb'
      ·rfl
      ·rfl
      ·cases hb'
     have e3:leaves (.st t2 fs)=fs:=lv fs fun x hx=>(hall x hx).1
     rw[e3] at hF;subst e1;simp only[kv,Value.agg.injEq];apply Array.toList_inj.1;apply List.ext_getElem?;intro i;rw[List.getElem?_map];by_cases hi:i < fs.length
     ·have h1:=List.getElem?_eq_getElem hi;have h2:i < vs.toList.length:=by rw[← hF.1];exact hi
      have h3:=List.getElem?_eq_getElem h2;rw[h1,h3,Option.map_some];congr 1
      exact (hall _ (List.getElem_mem hi)).2 _ (hF.2 i _ _ h1 h3)
     ·have h2:¬ i < vs.toList.length:=by rw[← hF.1];exact hi
      rw[List.getElem?_eq_none (by omega),List.getElem?_eq_none (by omega)];rfl
    ·have hrun:=eq_fields (P:=P) (E:=E0) hT.ok (c:=c0) 9998 w (fs.map kv1).toArray (gs.map kv1).toArray Fs.toList ts fs gs 0 b (by simpa using k2) (fun j f hf=>by
      obtain⟨a1,a2⟩:=off j f hf;exact⟨a1,a2,g3 f (by rw[hFs];exact List.mem_of_getElem? hf)⟩) (fun j x hx=>⟨_,get fs j x hx,or2 j x hx⟩) (fun j x hx=>⟨_,get gs j x hx,or3 j x hx⟩) (keyFs_eqFs _ _ _ _ h)
     show (Op.equalIn 10000 t2 (.agg _) (.agg _)).run P w = .ok b w;rw[run_equalIn_struct w 9999 t2 _ _ (by rw[hFs];exact k1) g1,hFs];exact hrun
    ·show (Instr.checkKey e 10000 t2 (.agg _)).run P w = .ok () w;rw[show (10000:Nat)=9999+1 from rfl,Instr.checkKey];simp only[Sem.run_bind,run_underlying k1,Result.andThen_ok];rw[← Array.forIn_toList];rw[checkFs hT.ok e w (fs.map kv1).toArray Fs.toList ts fs gs 0 (by simpa using k2) off (fun j x hx=>get fs j x hx) ⟨b,h⟩];rfl
   ·cases h
  ·cases h
 ·rename_i hns;split at h
  ·rename_i hD;refine hI ⟨fun t fs e=>?_,h,_,_,_,_,hD⟩;subst e;unfold keyL at h;simp at h
  ·cases h
theorem find_ok {u:TypeId} {k:AV} {w:World}:∀ (l:List MapEntry) (i:Nat),(∀ e ∈ l,∃ y b,KeyOk P u k y b∧e.key=kv y)→
 ∃ r,(Instr.findAsking u (kv k) l i).run P w = .ok r w∧((r=none∧∀ e ∈ l,e.key ≠ kv k)∨∃ j e,r=some (j,e.val)∧e ∈ l∧e.key=kv k)
 | [],i,h=>⟨none,rfl,.inl ⟨rfl,by simp⟩⟩
 | e::l,i,h=>by
   obtain⟨y,b,hy,he⟩:=h e (by simp);obtain⟨r,h1,h2⟩:=find_ok l (i+1) fun e he=>h e (by simp[he])
   cases b with
   | true=>
     refine⟨some (i,e.val),?_,.inr ⟨i,e,rfl,by simp,by rw[he];exact hy.iff.1 rfl⟩⟩;unfold Instr.findAsking;simp only[Sem.run_bind,he,hy.eq,Result.andThen_ok,if_true,Sem.run_pure]
   | false=>
     refine⟨r,?_,?_⟩
     ·unfold Instr.findAsking;simp only[Sem.run_bind,he,hy.eq,Result.andThen_ok,Bool.false_eq_true,if_false];exact h1
     ·rcases h2 with ⟨e1,e2⟩ | ⟨j,e',e1,e2,e3⟩
      ·refine .inl ⟨e1,fun x hx=>?_⟩;rcases List.mem_cons.1 hx with rfl | hx
       ·rw[he];intro hq;have:=hy.iff.2 hq;cases this
       ·exact e2 x hx
      ·exact .inr ⟨j,e',e1,by simp[e2],e3⟩
theorem mpGet_ok {ty:Tys} (hT:Tabs P ty) {u:TypeId} {k:AV}:∀ (ks:List AV) (fs:List FuncId) (r:Option FuncId),mpGet ty u k ks fs=some r→ks.length=fs.length→
 (∀ y ∈ ks,∃ b,KeyOk P u k y b)∧(r=none→∀ y ∈ ks,kv y ≠ kv k)∧∀ f,r=some f→(kv k,Value.func (.func f) #[] #[]) ∈ mpE ks fs
 | [],_,r,h,_=>by simp[mpGet] at h;subst h;exact⟨by simp,by simp,by simp⟩
 | _::_,[],r,h,hl=>by simp at hl
 | x::ks,f::fs,r,h,hl=>by
   simp only[mpGet] at h;obtain⟨b,h1,h2⟩:=obind_eq h;obtain⟨r',h3,h4⟩:=obind_eq h2;injection h4 with h4
   have hk:=keyEq_ok hT h1;obtain⟨i1,i2,i3⟩:=mpGet_ok hT ks fs r' h3 (by simpa using hl);refine⟨fun y hy=>?_,fun hr y hy=>?_,fun g hg=>?_⟩
   ·rcases List.mem_cons.1 hy with rfl | hy
    ·exact⟨b,hk⟩
    ·exact i1 y hy
   ·subst hr;cases b with
    | true=>cases h4
    | false=>
      simp only[Bool.false_eq_true,if_false] at h4;rcases List.mem_cons.1 hy with rfl | hy
      ·intro hq;have:=hk.iff.2 hq;cases this
      ·exact i2 h4 y hy
   ·subst hg;cases b with
    | true=>
      simp only[if_true] at h4;injection h4 with h4;subst h4
      simp only[mpE,List.map_cons,List.zip_cons_cons,hk.iff.1 rfl];exact List.mem_cons_self
    | false=>
      simp only[Bool.false_eq_true,if_false] at h4;simp only[mpE,List.map_cons,List.zip_cons_cons];exact List.mem_cons_of_mem _ (i3 g h4)
def fnV:Option FuncId→Value
 | some f=> .func (.func f) #[] #[]
 | none=> .nilFunc
theorem mpRes_ok {c:Cx} (ok:Bool) (r:Option FuncId):VR c (mpRes ok r) (if ok=true then .tuple #[fnV r,.bool r.isSome] else fnV r):=by
 have h2:VR1 c (mpV r) (fnV r):=by
  cases r with
  | none=>exact OR.cl .fnil
  | some f=>exact OR.fn f [] #[] rfl (fun i x hx=>by simp at hx)
 cases ok with
 | true=>
   simp only[mpRes,if_true];refine⟨_,rfl,?_,fun i x v hx hv=>?_⟩
   ·rfl
   ·match i with
    | 0=>simp at hx hv;subst hx;subst hv;exact h2
    | 1=>simp at hx hv;subst hx;subst hv;exact OR.cl (.bool _)
    | i+2=>simp at hx
 | false=>
   simp only[mpRes,Bool.false_eq_true,if_false];exact VR_one h2
theorem ok_lookup (hT:Tabs P E.ty) (h:Sim E w0 σ a w β) (hG:GlobOk E w0) {t:TypeId} {y z:Operand} {ok:Bool} (ho:o.op = .lookup t y z ok) (hr:ares E d σ (.lookup t y z ok)=some (x,ob)) :
 Post E w0 σ a ob x ((execOp a.eval o).run P w):=by
 simp only[ares] at hr;obtain⟨p,h1,h2⟩:=obind_eq hr;obtain⟨q,h3,h4⟩:=obind_eq h2;obtain⟨r,h5,h6⟩:=obind_eq h4;injection h6 with h6;injection h6 with h6 h7;subst h6;subst h7
 have hp:=val_sound h hG h1;have hq:=val_sound h hG h3;have hexec:(execOp a.eval o)=(do pure (Next.value (← Instr.lookup t (a.eval y) (a.eval z) ok))):=by simp[execOp,ho]
 unfold lkp at h5;split at h5
 ·rename_i u k0 ks fs;split at h5
  ·rename_i hu;subst hu;split at h5
   ·rename_i kt et s b zz hD;split at h5
    ·rename_i s' b' hE;obtain⟨g,h8,h9⟩:=obind_eq h5;injection h9 with h9;subst h9
     have hk:=(hT.ok _ _ hD).kind;simp only[kindOk] at hk;have hz:∀ w,(zeroValue et).run P w = .ok .nilFunc w:=fun w=>by
      obtain⟨i,z,e1,e2,e3,e4,e5,e6⟩:=(hT.ok _ _ hE).info;have e7:=(hT.ok _ _ hE).leafz rfl i z e1 e4;have e8:z.cells = #[z]:=by cases z <;> first | rfl | exact absurd rfl (e7 _)
      rw[e8] at e5;have:=e5.2 0 .fnil z rfl rfl default (fun _=>True);cases this;simp[zeroValue,typeInfo,e1,e4]
     have hp':=VR.leafO hp rfl;refine Post.same h (v:=if ok=true then .tuple #[fnV g,.bool g.isSome] else fnV g) ?_ (mpRes_ok ok g);rw[hexec];refine run_v ?_;cases hp' with
     | cl hp'=>
       generalize hy:a.eval y=vy at hp';cases hp' with
       | mp t ks' fs' blk es cl q1 q2 q3 q4 q5 q6 q7=>
         obtain⟨g1,g2,g3⟩:=mpGet_ok hT (k0::ks) fs g h8 q4;have hent:∀ e ∈ es.toList,(e.key,e.val) ∈ mpE (k0::ks) fs:=fun e he=>q6.mem_iff.1 (List.mem_map_of_mem he)
         have hkeys:∀ e ∈ es.toList,∃ y b,KeyOk P kt q y b∧e.key=kv y:=fun e he=>by
          obtain⟨m1,_⟩:=List.of_mem_zip (hent e he);obtain⟨y,m2,m3⟩:=List.mem_map.1 m1;obtain⟨b,hb⟩:=g1 y m2;exact⟨y,b,hb,m3.symm⟩
         obtain⟨b0,hb0⟩:=g1 k0 (by simp);have hval:=hb0.val _ _ hq;have hget:(getObj blk).run P w = .ok (.map es cl) w:=MapKept.run_getObj_map q5;have main:∃ rr,(Instr.findKey kt (kv q) es.toList).run P w = .ok rr w∧((rr=none∧∀ e ∈ es.toList,e.key ≠ kv q)∨∃ j e,rr=some (j,e.val)∧e ∈ es.toList∧e.key=kv q):=by
          rcases hb0.kind with ⟨dd,hu,hi,_⟩ | ⟨dd,hu,hs⟩
          ·have hik:∀ x ∈ es.toList,MapKept.IsKey dd x.key:=fun e he=>by
            obtain⟨y,b,hb,he⟩:=hkeys e he;rcases hb.kind with ⟨dd',hu',_,hi'⟩ | ⟨dd',hu',hs'⟩
            ·rw[hu] at hu';injection hu' with hu';subst hu';rw[he];exact hi'
            ·rw[hu] at hu';injection hu' with hu';subst hu'
             obtain⟨r,hr,_⟩:=MapKept.sameNow_of_keys hi hi;rw[hs'] at hr;cases hr
           rcases MapKept.findNow_spec hi es.toList 0 hik with ⟨f1,f2⟩ | ⟨j,e,f1,f2,f3⟩
           ·exact⟨none,MapKept.run_findKey hu f1,.inl ⟨rfl,f2⟩⟩
           ·exact⟨_,MapKept.run_findKey hu f1,.inr ⟨_,e,rfl,List.mem_of_getElem? f2,f3⟩⟩
          ·cases hl:es.toList with
           | nil=>
             refine⟨none,?_,.inl ⟨rfl,by simp⟩⟩;exact MapKept.run_findKey hu rfl
           | cons e l=>
             obtain⟨r,r1,r2⟩:=find_ok (P:=P) (u:=kt) (k:=q) (w:=w) (e::l) 0 (by rw[← hl];exact hkeys);refine⟨r,?_,r2⟩;simp only[Instr.findKey,Sem.run_bind,run_underlying hu,Result.andThen_ok,Instr.findNow,hs];exact r1
         obtain⟨rr,m1,m2⟩:=main;unfold Instr.lookup;simp only[Sem.run_bind,run_underlying hk,Result.andThen_ok,hget,Sem.run_pure,hval,hb0.check,m1];rcases m2 with ⟨rfl,m3⟩ | ⟨j,e,rfl,m3,m4⟩
         ·have hg:g=none:=by
           cases g with
           | none=>rfl
           | some f=>
             have:=g3 f rfl;obtain⟨e,he,h⟩:=List.mem_map.1 (q6.mem_iff.2 this);exact absurd (Prod.mk.inj h).1 (m3 e he)
          subst hg;simp only[Sem.run_bind,hz,Result.andThen_ok,Sem.run_pure];cases ok <;> rfl
         ·have hm:=hent e m3;rw[m4] at hm;have hg:e.val=fnV g∧g.isSome=true:=by
           cases g with
           | none=>
             obtain⟨z1,_⟩:=List.of_mem_zip hm;obtain⟨y,z2,z3⟩:=List.mem_map.1 z1;exact absurd z3 (g2 rfl y z2)
           | some f=>exact⟨zip_unique q7 hm (g3 f rfl),rfl⟩
          simp only[Sem.run_pure,Result.andThen_ok,hg.1,hg.2];cases ok <;> rfl
    ·cases h5
   ·cases h5
  ·cases h5
 ·cases h5
end Go.Abs
end
section
namespace Go.Abs
open Go Go.RowKit
section
variable {P:Program} {E:Env} {w0 w:World} {σ:St} {a:Act} {β:Nat→Option Nat} {x:AV} {ob:List (Nat × Obj)} {d:Nat} {o:Oper}
theorem litAll_eq {α:Type} (x:α):∀ n,litAll x n=List.replicate n x
 | 0=>rfl
 | n+1=>by simp[litAll,litAll_eq x n,List.replicate_succ]
theorem zero_cells (hT:Tabs P E.ty) {e:TypeId} {T:TyD} (hDe:E.ty e=some T) (c4:0 < T.size) {zv:Value} (i5:F2 (fun x v=>∀ (w:World) (okb:Nat→Prop),LR E.ty w okb x v) (leaves T.zero) zv.cells.toList) (n:Nat) :
 (∀ (j:Nat) (q:AV),(leavesL (List.replicate n T.zero))[j]? = some q→∃ u,((Array.range (n * T.size)).map fun j=>zv.cells[j % zv.cells.size]!)[j]? = some u∧∀ (w:World) (okb:Nat→Prop),LR E.ty w okb q u)∧
 (leavesL (List.replicate n T.zero)).length=n * T.size:=by
 have hsz:szOf E.ty e=T.size:=by simp[szOf,hDe]
 have hzc:zv.cells.size=T.size:=by
  have:=i5.1;rw[(hT.ok e T hDe).conf.len,hsz] at this;simpa using this.symm
 have hlen:(leavesL (List.replicate n T.zero)).length=n * T.size:=by
  rw[leavesL_len_const T.size _ (fun x hx=>by rw[List.eq_of_mem_replicate hx,(hT.ok e T hDe).conf.len,hsz])];simp
 refine⟨fun j q hq=>?_,hlen⟩;have hj:j < n * T.size:=by rw[← hlen];exact (List.getElem?_eq_some_iff.1 hq).1
 have hdiv:j / T.size < n:=(Nat.div_lt_iff_lt_mul c4).2 hj;have hmod:j % T.size < T.size:=Nat.mod_lt _ c4;have hat:=leavesL_at T.size (List.replicate n T.zero) (fun x hx=>by rw[List.eq_of_mem_replicate hx,(hT.ok e T hDe).conf.len,hsz]) (j / T.size) T.zero
  (by rw[List.getElem?_replicate,if_pos hdiv]) (j % T.size) hmod
 rw[Nat.div_add_mod' j T.size,hq] at hat;obtain⟨u,r1,r2⟩:=i5.get hat.symm;refine⟨u,?_,r2⟩;have hc:((Array.range (n * T.size)).map fun j=>zv.cells[j % zv.cells.size]!)[j]? = some (zv.cells[j % zv.cells.size]!):=by simp[hj]
 rw[hc,hzc];have r1':zv.cells[j % T.size]? = some u:=by simpa using r1
 simp[getElem!_def,r1']
theorem ok_buildSlice (hT:Tabs P E.ty) (h:Sim E w0 σ a w β) (hG:GlobOk E w0) {t:TypeId} {n:Nat} {ps:Array (Nat × Operand)} (ho:o.op = .buildSlice t n ps) (hr:ares E d σ (.buildSlice t n ps)=some (x,ob)) :
 Post E w0 σ a ob x ((execOp a.eval o).run P w):=by
 simp only[ares] at hr;have hexec:(execOp a.eval o)=(do pure (Next.value (← Instr.buildSlice t n (ps.map fun (i,x)=>(i,a.eval x))))):=by simp[execOp,ho]
 split at hr
 ·rename_i e s b zz hD;split at hr
  ·rename_i T hDe;obtain⟨l,h1,h2⟩:=obind_eq hr;split at h2
   ·rename_i hptr;obtain⟨gs,h3,h4⟩:=obind_eq h2;split at h4
    ·rename_i hc;obtain⟨c1,c2,c3,c4⟩:=hc;injection h4 with h4;injection h4 with h4 h5;subst h4;subst h5
     have hk:=(hT.ok t _ hD).kind;simp only[kindOk] at hk;obtain⟨zv,hz,hF,_⟩:=run_zero_ty hT.ok hDe w;obtain⟨hcl,hfr,hm⟩:=(hT.ok e T hDe).flatz;have hsz:szOf E.ty e=T.size:=by simp[szOf,hDe]
     obtain⟨z1,z2⟩:=zero_cells hT hDe c2 hF n;obtain⟨e1,e2⟩:=mkParts_sound h hG ps.toList l h1;rw[litAll_eq] at h3;have hF0:F2 (OR (cxOf E w0 σ w β)) (leavesL (List.replicate n T.zero)) ((Array.range (n * T.size)).map fun j=>zv.cells[j % zv.cells.size]!).toList:=by
      refine⟨by rw[z2];simp,fun i y v hy hv=>?_⟩;obtain⟨u,q1,q2⟩:=z1 i y hy;rw[← Array.getElem?_toList,hv] at q1;injection q1 with q1;subst q1
      exact .cl (q2 _ _)
     obtain⟨cells',f1,f2,f3,f4⟩:=fill_ar hT.ok (c:=cxOf E w0 σ w β) rfl (t:=e) (okE:=anyV) (place:=fun i=>some (i * szOf E.ty e,szOf E.ty e)) (fun _=>rfl) l ((ps.map fun (i,x)=>(i,a.eval x)).toList)
      (List.replicate n T.zero) gs _ (by rw[e1];simp[Function.comp_def]) (fun i q p hq hp=>by
        simp only[Array.toList_map,List.getElem?_map,Option.map_eq_some_iff] at hp;obtain⟨p',hp',e3⟩:=hp;subst e3;exact e2 i q p' hq hp') h3 (by simp) (fun x hx=>by rw[List.eq_of_mem_replicate hx];exact⟨(hT.ok e T hDe).conf,rfl⟩) hF0
     obtain⟨hS,_⟩:=h.new c1 (b:=⟨.rop e,fresh.freshL gs,gs⟩) (arr:=cells') (e:=e) ⟨fun x hx=>(f3 x hx).1,by rw[hsz];exact c2⟩ c4
      (fun j q hq=>by
        obtain⟨u,q1,q2⟩:=f4.get hq;refine⟨u,by rw[← Array.getElem?_toList];exact q1,?_⟩;exact q2)
     have hcs:cells'.size=n * T.size:=by
      have h6:=f4.1;rw[leavesL_len_const T.size _ (fun x hx=>by rw[(f3 x hx).1.len,hsz]),f2] at h6;simpa using h6.symm
     refine⟨.slice (some ⟨w.heap.size,0,none⟩) n n,_,_,.inl ?_,hS,?_⟩
     ·rw[hexec];refine run_v ?_;unfold Instr.buildSlice;simp only[Sem.run_bind,run_underlying hk.1,Result.andThen_ok,run_sizeOf_ty hT.ok hDe,hsz];rw[if_neg (by simp;omega)];rw[hsz] at f1;by_cases hn0:n * T.size=0
      ·rw[if_pos hn0];rw[Sem.run_bind,Sem.run_pure,Result.andThen_ok];have e0:(Array.map (fun x=>(#[]:Array Value)[x % (#[]:Array Value).size]!) (Array.range (n * T.size)))=(Array.range (n * T.size)).map fun j=>zv.cells[j % zv.cells.size]! :=by
        rw[hn0];simp
       rw[e0];simp only[f1];rfl
      ·rw[if_neg hn0];simp only[Sem.run_bind,hz,Sem.run_pure,Result.andThen_ok];simp only[f1];rfl
     ·have:=OR.own (c:=cxOf E w0 ⟨σ.tm,aput d ⟨.rop e,fresh.freshL gs,gs⟩ σ.ob⟩ (w.alloc (.cells cells' e)) (fun o=>if o=d then some w.heap.size else β o))
       d e 0 n w.heap.size n cells' e (by simp[cxOf]) (by show (w.heap.push _)[w.heap.size]? = _;simp) (by simp[cxOf,hsz,hcs]) (Nat.le_refl _)
      rw[Nat.zero_mul] at this;exact this
    ·cases h4
   ·rename_i hptr;obtain⟨gs,h3,h4⟩:=obind_eq h2;split at h4
    ·rename_i hc;obtain⟨c1,c2,c3⟩:=hc;injection h4 with h4;injection h4 with h4 h5;subst h4;subst h5
     have hk:=(hT.ok t _ hD).kind;simp only[kindOk] at hk;obtain⟨zv,hz,hF,_⟩:=run_zero_ty hT.ok hDe w;obtain⟨hcl,hfr,hm⟩:=(hT.ok e T hDe).flatz;have hsz:szOf E.ty e=T.size:=by simp[szOf,hDe]
     obtain⟨z1,z2⟩:=zero_cells hT hDe c2 hF n;obtain⟨e1,e2⟩:=mkParts_sound h hG ps.toList l h1;rw[litAll_eq] at h3;have hF0:F2 (OR (cxOf E w0 σ w β)) (leavesL (List.replicate n T.zero)) ((Array.range (n * T.size)).map fun j=>zv.cells[j % zv.cells.size]!).toList:=by
      refine⟨by rw[z2];simp,fun i y v hy hv=>?_⟩;obtain⟨u,q1,q2⟩:=z1 i y hy;rw[← Array.getElem?_toList,hv] at q1;injection q1 with q1;subst q1
      exact .cl (q2 _ _)
     obtain⟨cells',f1,f2,f3,f4⟩:=fill_ar hT.ok (c:=cxOf E w0 σ w β) rfl (t:=e) (okE:=closed) (place:=fun i=>some (i * szOf E.ty e,szOf E.ty e)) (fun _=>rfl) l ((ps.map fun (i,x)=>(i,a.eval x)).toList)
      (List.replicate n T.zero) gs _ (by rw[e1];simp[Function.comp_def]) (fun i q p hq hp=>by
        simp only[Array.toList_map,List.getElem?_map,Option.map_eq_some_iff] at hp;obtain⟨p',hp',e3⟩:=hp;subst e3;exact e2 i q p' hq hp') h3 (by simp) (fun x hx=>by rw[List.eq_of_mem_replicate hx];exact⟨(hT.ok e T hDe).conf,hcl⟩) hF0
     obtain⟨hS,_⟩:=h.new c1 (b:=⟨.row e,fresh.freshL gs,gs⟩) (arr:=cells') (e:=e) ⟨fun x hx=>(f3 x hx).1,by rw[hsz];exact c2⟩ rfl
      (fun j q hq=>by
        obtain⟨u,q1,q2⟩:=f4.get hq;refine⟨u,by rw[← Array.getElem?_toList];exact q1,?_⟩;obtain⟨y,y1,y2⟩:=mem_leavesL (List.mem_of_getElem? hq);have hlc:=leaf_closed (f3 y y1).1;exact q2.lr (hlc.1 (f3 y y1).2 q y2) fun hf=>hlc.2 (f3 y y1).2 (freshL_mem hf y y1) q y2)
     have hcs:cells'.size=n * T.size:=by
      have h6:=f4.1;rw[leavesL_len_const T.size _ (fun x hx=>by rw[(f3 x hx).1.len,hsz]),f2] at h6;simpa using h6.symm
     refine⟨.slice (some ⟨w.heap.size,0,none⟩) n n,_,_,.inl ?_,hS,?_⟩
     ·rw[hexec];refine run_v ?_;unfold Instr.buildSlice;simp only[Sem.run_bind,run_underlying hk.1,Result.andThen_ok,run_sizeOf_ty hT.ok hDe,hsz];rw[if_neg (by simp;omega)];rw[hsz] at f1;by_cases hn0:n * T.size=0
      ·rw[if_pos hn0];rw[Sem.run_bind,Sem.run_pure,Result.andThen_ok];have e0:(Array.map (fun x=>(#[]:Array Value)[x % (#[]:Array Value).size]!) (Array.range (n * T.size)))=(Array.range (n * T.size)).map fun j=>zv.cells[j % zv.cells.size]! :=by
        rw[hn0];simp
       rw[e0];simp only[f1];rfl
      ·rw[if_neg hn0];simp only[Sem.run_bind,hz,Sem.run_pure,Result.andThen_ok];simp only[f1];rfl
     ·have:=OR.own (c:=cxOf E w0 ⟨σ.tm,aput d ⟨.row e,fresh.freshL gs,gs⟩ σ.ob⟩ (w.alloc (.cells cells' e)) (fun o=>if o=d then some w.heap.size else β o))
       d e 0 n w.heap.size n cells' e (by simp[cxOf]) (by show (w.heap.push _)[w.heap.size]? = _;simp) (by simp[cxOf,hsz,hcs]) (Nat.le_refl _)
      rw[Nat.zero_mul] at this;exact this
    ·cases h4
  ·cases hr
 ·cases hr
theorem ares_goes (hT:Tabs P E.ty) (hC:CSound P E) (h:Sim E w0 σ a w β) (hG:GlobOk E w0) (hr:ares E d σ o.op=some (x,ob)):Goes P E w0 σ a ob x o w:=by
 cases ho:o.op with
 | move y=>rw[ho] at hr;exact (ok_move h hG (.inl ho) hr).goes
 | assign y=>rw[ho] at hr;exact (ok_move h hG (.inr ho) hr).goes
 | pick c y z=>rw[ho] at hr;exact (ok_pick h hG ho hr).goes
 | alloc t=>rw[ho] at hr;exact (ok_alloc hT.ok h ho hr).goes
 | box t y=>rw[ho] at hr;exact (ok_box hT.ok h hG ho hr).goes
 | build t ps=>rw[ho] at hr;exact (ok_build hT.ok hT.st hT.ar h hG ho hr).goes
 | load t y=>rw[ho] at hr;exact (ok_load hT.ok h hG ho hr).goes
 | store t y z=>rw[ho] at hr;exact (ok_store hT.ok h hG ho hr).goes
 | fieldAddr s y f=>rw[ho] at hr;exact (ok_fieldAddr hT h hG ho hr).goes
 | field s y f=>rw[ho] at hr;exact (ok_field hT h hG ho hr).goes
 | binOp op t y z u=>rw[ho] at hr;exact (ok_binOp hT h hG ho hr).goes
 | unOp op t y=>rw[ho] at hr;exact (ok_unOp h hG ho hr).goes
 | nilCheck y=>rw[ho] at hr;exact (ok_nilCheck h hG ho hr).goes
 | extract y i=>rw[ho] at hr;exact (ok_extract h hG ho hr).goes
 | indexAddr t y z=>rw[ho] at hr;exact (ok_indexAddr hT h hG ho hr).goes
 | index t y z=>rw[ho] at hr;exact (ok_index hT h hG ho hr).goes
 | lookup t y z ok=>rw[ho] at hr;exact (ok_lookup hT h hG ho hr).goes
 | convert s t y=>rw[ho] at hr;exact (ok_convert hT h hG ho hr).goes
 | makeSlice t y z=>rw[ho] at hr;exact (ok_makeSlice hT h hG ho hr).goes
 | makeFunc fn f c=>rw[ho] at hr;exact (ok_makeFunc h hG ho hr).goes
 | buildSlice t n ps=>rw[ho] at hr;exact (ok_buildSlice hT h hG ho hr).goes
 | slice t y lo hi mx=>rw[ho] at hr;exact (ok_slice hT h hG ho hr).goes
 | call c=>rw[ho] at hr;exact goes_call hT hC h hG ho hr fun g l h1 h2 h3 h4=>goes_qcall hC h hG ho h1 h2 h3 h4
 | _=>rw[ho] at hr;cases hr
theorem ok_clear (hT:Tabs P E.ty) (h:Sim E w0 σ a w β) {t ty:TypeId} {x r:AV} {ob:List (Nat × Obj)} (hr:clr E σ t x=some (r,ob)) {vx:Value} (hx:VR (cxOf E w0 σ w β) x vx) :
 ∃ v w',(Builtin.clear_ #[t] ty #[vx]).run P w = .ok v w'∧Sim E w0 ⟨σ.tm,ob⟩ a w' β∧VR (cxOf E w0 ⟨σ.tm,ob⟩ w' β) r v:=by
 unfold clr at hr;split at hr
 ·rename_i e sz by_ zz hD;obtain⟨T,hDe,h2⟩:=obind_eq hr;have hk:=(hT.ok t _ hD).kind;simp only[kindOk] at hk;split at h2
  ·rename_i o u off n;obtain⟨b,hb,h3⟩:=obind_eq h2;split at h3
   ·rename_i v fr es;split at h3
    ·rename_i hc;obtain⟨c1,c2,c3,c4⟩:=hc;subst c1;subst c2;injection h3 with h3;injection h3 with h3 h4;subst h3;subst h4
     obtain⟨i,zv,i1,i2,i3,i4,i5,i6⟩:=(hT.ok v T hDe).info;have hsz:szOf E.ty v=T.size:=by simp[szOf,hDe]
     have hzc:zv.cells.size=T.size:=by
      have:=i5.1;rw[(hT.ok v T hDe).conf.len,hsz] at this;simpa using this.symm
     have hcf:∀ y ∈ es,Conf E.ty v y:=(h.obs o _ hb).conf.1;have hes:∀ x ∈ es,(leaves x).length=T.size:=fun y hy=>by rw[(hcf y hy).len,hsz]
     by_cases hn:n=0
     ·subst hn;have he:es.take off++(List.replicate 0 T.zero++es.drop (off+0))=es:=by simp
      have hS:Sim E w0 ⟨σ.tm,aput o ⟨.row v,fr,es⟩ σ.ob⟩ a w β:=by
       have hg:∀ q,aget q (aput o (⟨.row v,fr,es⟩:Obj) σ.ob)=aget q σ.ob:=fun q=>by
        rw[aget_aput];split
        ·rename_i e;subst e;exact hb.symm
        ·rfl
       have hcx:cxOf E w0 ⟨σ.tm,aput o ⟨.row v,fr,es⟩ σ.ob⟩ w β=cxOf E w0 σ w β:=by
        simp only[cxOf,hg]
       exact {
        below:=h.below,size:=h.size,defers:=h.defers
        tms:=fun t x hx=>by rw[hcx];exact h.tms t x hx
        obs:=fun q b hq=>by rw[hcx];rw[hg] at hq;exact h.obs q b hq
        inj:=fun q q' b b' k h1 h2=>by rw[hg] at h1 h2;exact h.inj q q' b b' k h1 h2 }
      rw[he];refine⟨.tuple #[],w,?_,hS,.undef _⟩;rcases VR.own_inv hx with ⟨_,_,_,q3⟩ | ⟨k,cp,arr,ee,_,_,_,_,q5⟩
      ·subst q3;simp[Builtin.clear_,run_underlying hk.1]
      ·subst q5;simp[Builtin.clear_,run_underlying hk.1]
     ·rcases VR.own_inv hx with ⟨_,_,q2,_⟩ | ⟨k,cp,arr,ee,g1,g2,g3,g4,g5⟩
      ·exact absurd q2 hn
      ·subst g5;obtain⟨arr2,e2,k1,k2,k3⟩:=row_cells h hb rfl g1;have g2':w.heap[k]? = some (.cells arr ee (0,0)):=g2;rw[k1] at g2';injection g2' with g2';injection g2' with q1 q2 q3;subst q1;subst q2
       have g3':(off+cp) * T.size=arr2.size:=by rw[← hsz];exact g3
       have hz:=zero_cells hT hDe c4 i5 n;obtain⟨zs,hzs⟩:∃ zs,zs=(Builtin.zeroCells zv.cells n).toList:=⟨_,rfl⟩
       have hzl:zs.length=n * T.size:=by rw[hzs];simp[Builtin.zeroCells,hzc]
       have hzget:∀ (j:Nat) (q:AV),(leavesL (List.replicate n T.zero))[j]? = some q→∃ u,zs[j]? = some u∧∀ (w:World) (okb:Nat→Prop),LR E.ty w okb q u:=fun j q hq=>by
        obtain⟨u,r1,r2⟩:=hz.1 j q hq;refine⟨u,?_,r2⟩;have hj:j < n * T.size:=by rw[← hz.2];exact (List.getElem?_eq_some_iff.1 hq).1
        rw[hzs,Array.getElem?_toList,← r1];simp[Builtin.zeroCells,hj,hzc]
       have hin:off * T.size+zs.length≤arr2.size:=by
        rw[hzl,← g3',← Nat.add_mul];exact Nat.mul_le_mul_right _ (by omega)
       have hone:∀ v ∈ zs,oneCell v:=fun v hv=>by
        obtain⟨j,hj,e⟩:=List.getElem_of_mem hv;have hj':j < (leavesL (List.replicate n T.zero)).length:=by rw[hz.2,← hzl];exact hj
        obtain⟨u,r1,r2⟩:=hzget j _ (List.getElem?_eq_getElem hj');rw[List.getElem?_eq_getElem hj] at r1;injection r1 with r1
        rw[← e,r1];exact (r2 w fun _=>True).one
       have hst:=run_storeCells_blk P k (off * T.size) e2 zs 0 w arr2 k1 (by omega) hone;have hcl:(Builtin.clear_ #[t] ty #[.slice (some ⟨k,off * szOf (cxOf E w0 σ w β).ty v,none⟩) n cp]).run P w = .ok (.tuple #[]) (setBlk w k (.cells (spl arr2 (off * T.size) zs) e2 (0,0))):=by
        obtain⟨m,rfl⟩:∃ m,n=m+1:=⟨n - 1,by omega⟩
        have hzv:(zeroValue v).run P w = .ok zv w:=by simp[zeroValue,typeInfo,i1,i4]
        have hst':(storeCells ⟨k,off * szOf (cxOf E w0 σ w β).ty v,none⟩ (Builtin.zeroCells zv.cells (m+1)).toList).run P w = .ok () (setBlk w k (.cells (spl arr2 (off * T.size) zs) e2 (0,0))):=by
         rw[← hzs,show szOf (cxOf E w0 σ w β).ty v=T.size from hsz];exact hst
        simp[Builtin.clear_,run_underlying hk.1,hzv,hst']
       have htl:(leavesL (es.take off)).length=off * T.size:=by
        rw[leavesL_len_const T.size _ fun y hy=>hes y (List.mem_of_mem_take hy),List.length_take];congr 1;omega
       obtain⟨hW,_⟩:=h.write (b':=⟨.row v,fr,es.take off++(List.replicate n T.zero++es.drop (off+n))⟩) (arr':=spl arr2 (off * T.size) zs) hb g1 k1 (by simp)
        ⟨fun y hy=>by
          rcases List.mem_append.1 hy with hy | hy
          ·exact hcf y (List.mem_of_mem_take hy)
          ·rcases List.mem_append.1 hy with hy | hy
           ·rw[List.eq_of_mem_replicate hy];exact (hT.ok v T hDe).conf
           ·exact hcf y (List.mem_of_mem_drop hy),by rw[hsz];exact c4⟩ (fun j y hy=>by
        show ∃ v,_∧LR E.ty w ((cxOf E w0 σ w β).okb fr) y v;rw[leavesL_append,leavesL_append] at hy;rw[spl_get _ _ _ _ hin];by_cases hj:j < off * T.size
        ·rw[List.getElem?_append_left (by omega)] at hy;obtain⟨v,r1,r2⟩:=k3 j y (leavesL_take_of off j hy);rw[if_neg (by omega)];exact⟨v,r1,r2⟩
        ·rw[List.getElem?_append_right (by omega),htl] at hy;by_cases hj2:j - off * T.size < zs.length
         ·rw[List.getElem?_append_left (by rw[hz.2,← hzl];exact hj2)] at hy;rw[if_pos (by omega)];obtain⟨u,r1,r2⟩:=hzget _ y hy;exact⟨u,r1,r2 _ _⟩
         ·rw[List.getElem?_append_right (by rw[hz.2,← hzl];omega),leavesL_drop hes] at hy;have e3:(off+n) * T.size+(j - off * T.size - (leavesL (List.replicate n T.zero)).length)=j:=by
           rw[hz.2,Nat.add_mul];rw[hzl] at hj2;omega
          rw[e3] at hy;obtain⟨v,r1,r2⟩:=k3 j y hy;rw[if_neg (by omega)];exact⟨v,r1,r2⟩)
       exact⟨_,_,hcl,hW,.undef _⟩
    ·cases h3
   ·cases h3
  ·rename_i t0 fl;injection h2 with h2;injection h2 with h2 h3;subst h2;subst h3
   refine⟨.tuple #[],w,?_,h,.undef _⟩;rcases VR.sl_inv hx with ⟨_,_,q3⟩ | ⟨k,off,cp,q1,_⟩
   ·subst q3;simp[Builtin.clear_,run_underlying hk.1]
   ·subst q1;simp[Builtin.clear_,run_underlying hk.1]
  ·cases h2
 ·cases hr
theorem aresM_goes (hT:Tabs P E.ty) (hC:CSound P E) (h:Sim E w0 σ a w β) (hG:GlobOk E w0) (hr:aresM E d σ o.op=some (x,ob)):Goes P E w0 σ a ob x o w:=by
 by_cases hcall:∃ c,o.op = .call c
 ·obtain⟨c,ho⟩:=hcall;rw[ho] at hr;simp only[aresM] at hr;split at hr
  ·rename_i g hcal;obtain⟨gv,h1,h2⟩:=obind_eq hr;split at h2
   ·rename_i f cs;split at h2
    ·obtain⟨l,h3,h4⟩:=obind_eq h2;exact goes_mcall hC h hG ho hcal h1 h3 h4
    ·exact goes_call hT hC h hG ho h2 fun g l h1 h2 h3 h4=>goes_qcall hC h hG ho h1 h2 h3 h4
   ·cases h2
  ·rename_i hcal;obtain⟨l,h3,h4⟩:=obind_eq hr;have hl:=vals_sound h hG c.args.toList l h3;refine Post.goes ?_;split at h4
   ·rename_i y t hty;have h2:c.args.toList.length=1:=by have:=hl.1;simpa using this.symm
    obtain⟨a0,ha⟩:∃ a0,c.args.toList=[a0]:=by
     cases hq:c.args.toList with
     | nil=>rw[hq] at h2;cases h2
     | cons p r=>
       cases r with
       | nil=>exact⟨p,rfl⟩
       | cons q r=>rw[hq] at h2;simp at h2
    rw[ha] at hl;obtain⟨v,w',r1,r2,r3⟩:=ok_clear (ty:=o.type) hT h h4 (hl.2 0 _ _ rfl rfl);refine⟨v,w',β,.inl ?_,r2,r3⟩;have e1:c.args.map a.eval = #[a.eval a0]:=by
     apply Array.ext';simp[ha]
    have e2:c.argTypes = #[t]:=by
     apply Array.ext';simp[hty]
    have:execOp a.eval o=(do pure (Next.value (← Builtin.clear_ #[t] o.type #[a.eval a0]))):=by
     simp[execOp,ho,resolve,hcal,invoke,builtin,e1,e2]
    rw[this];exact run_v r1
   ·cases h4
  ·exact goes_call hT hC h hG ho hr fun g l h1 h2 h3 h4=>goes_qcall hC h hG ho h1 h2 h3 h4
 ·have:aresM E d σ o.op=ares E d σ o.op:=by
   cases ho:o.op <;> first | rfl | exact absurd ⟨_,ho⟩ hcall
  rw[this] at hr;exact ares_goes hT hC h hG hr
theorem aop_sound (hT:Tabs P E.ty) (hC:CSound P E) (h:Sim E w0 σ a w β) (hG:GlobOk E w0) {ops:Array Oper} {σ':St} (hr:aop E ops.toList o σ=some σ') {K:Act→World→Prop} {Q:Exit→Act→World→Prop}
 (hK:∀ a' w' β',Sim E w0 σ' a' w' β'→K a' w') :
 if Region.wanted o (yielded ops a.tmps) then o.wp P a w K Q else K (a.put o.dst undef) w:=by
 have run:obind (ares E (o.dst.getD 0) σ o.op) (setRes E σ o.dst)=some σ'→o.wp P a w K Q:=fun hr=>by
  obtain⟨⟨x,ob⟩,h1,h2⟩:=obind_eq hr;refine ares_goes hT hC h hG h1 K Q fun v w' β' hS hV=>?_
  unfold setRes at h2;split at h2
  ·rename_i t ht;split at h2
   ·rename_i hlt;injection h2 with h2;subst h2
    rw[ht];exact hK _ _ _ (hS.put hlt hV)
   ·cases h2
  ·rename_i ht;injection h2 with h2;subst h2
   rw[ht];exact hK _ _ _ hS
 unfold aop at hr;split at hr
 ·rename_i hg;rw[if_pos (by simp[Region.wanted,hg])];exact run hr
 ·rename_i j b hg;split at hr
  ·rename_i t ht;split at hr
   ·rename_i q hq;have hy:yielded ops a.tmps j=some q:=by
     obtain⟨h1,h2⟩:=h.tms t _ hq;have h3:=VR.bool_inv h2;have h4:a.tmps[t]? = some (.bool q):=by
      have:t < a.tmps.size:=by rw[h.size];exact h1
      rw[Array.getD_eq_getD_getElem?] at h3;rw[Array.getElem?_eq_getElem this] at h3 ⊢;simpa using h3
     have h5:(ops[j]?).bind (·.dst)=some t:=by
      unfold dstOf at ht;rw[Array.getElem?_toList] at ht;split at ht
      ·rename_i o' ho';rw[ho'];exact ht
      ·cases ht
     simp[yielded,h5,h4]
    have hw:Region.wanted o (yielded ops a.tmps)=(q==b):=by
     simp[Region.wanted,hg,hy]
    rw[hw];split at hr
    ·rename_i e;subst e;rw[if_pos (by simp)];exact run hr
    ·rename_i e;rw[if_neg (by simpa using e)];unfold setRes at hr;split at hr
     ·rename_i t' ht';split at hr
      ·rename_i hlt;injection hr with hr;subst hr
       rw[ht'];exact hK _ _ _ (h.put hlt ⟨#[],rfl,rfl,fun i x v hx=>by simp at hx⟩)
      ·cases hr
     ·rename_i ht';injection hr with hr;subst hr
      rw[ht'];exact hK _ _ _ h
   ·rename_i hq;have hy:yielded ops a.tmps j=none:=by
     obtain⟨h1,h2⟩:=h.tms t _ hq;obtain⟨vs,h3,h3'⟩:=h2;have h4:a.tmps[t]? = some (.tuple vs):=by
      have:t < a.tmps.size:=by rw[h.size];exact h1
      rw[Array.getD_eq_getD_getElem?] at h3;rw[Array.getElem?_eq_getElem this] at h3 ⊢;simpa using h3
     have h5:(ops[j]?).bind (·.dst)=some t:=by
      unfold dstOf at ht;rw[Array.getElem?_toList] at ht;split at ht
      ·rename_i o' ho';rw[ho'];exact ht
      ·cases ht
     simp[yielded,h5,h4]
    have hw:Region.wanted o (yielded ops a.tmps)=false:=by
     simp[Region.wanted,hg,hy]
    rw[hw,if_neg (by simp)];unfold setRes at hr;split at hr
    ·rename_i t' ht';split at hr
     ·rename_i hlt;injection hr with hr;subst hr
      rw[ht'];exact hK _ _ _ (h.put hlt ⟨#[],rfl,rfl,fun i x v hx=>by simp at hx⟩)
     ·cases hr
    ·rename_i ht';injection hr with hr;subst hr
     rw[ht'];exact hK _ _ _ h
   ·cases hr
  ·cases hr
theorem aopM_sound (hT:Tabs P E.ty) (hC:CSound P E) (h:Sim E w0 σ a w β) (hG:GlobOk E w0) {ops:Array Oper} {σ':St} (hr:aopM E ops.toList o σ=some σ') {K:Act→World→Prop} {Q:Exit→Act→World→Prop}
 (hK:∀ a' w' β',Sim E w0 σ' a' w' β'→K a' w') :
 if Region.wanted o (yielded ops a.tmps) then o.wp P a w K Q else K (a.put o.dst undef) w:=by
 have run:obind (aresM E (o.dst.getD 0) σ o.op) (setRes E σ o.dst)=some σ'→o.wp P a w K Q:=fun hr=>by
  obtain⟨⟨x,ob⟩,h1,h2⟩:=obind_eq hr;refine aresM_goes hT hC h hG h1 K Q fun v w' β' hS hV=>?_
  unfold setRes at h2;split at h2
  ·rename_i t ht;split at h2
   ·rename_i hlt;injection h2 with h2;subst h2
    rw[ht];exact hK _ _ _ (hS.put hlt hV)
   ·cases h2
  ·rename_i ht;injection h2 with h2;subst h2
   rw[ht];exact hK _ _ _ hS
 unfold aopM at hr;split at hr
 ·rename_i hg;rw[if_pos (by simp[Region.wanted,hg])];exact run hr
 ·rename_i j b hg;split at hr
  ·rename_i t ht;split at hr
   ·rename_i q hq;have hy:yielded ops a.tmps j=some q:=by
     obtain⟨h1,h2⟩:=h.tms t _ hq;have h3:=VR.bool_inv h2;have h4:a.tmps[t]? = some (.bool q):=by
      have:t < a.tmps.size:=by rw[h.size];exact h1
      rw[Array.getD_eq_getD_getElem?] at h3;rw[Array.getElem?_eq_getElem this] at h3 ⊢;simpa using h3
     have h5:(ops[j]?).bind (·.dst)=some t:=by
      unfold dstOf at ht;rw[Array.getElem?_toList] at ht;split at ht
      ·rename_i o' ho';rw[ho'];exact ht
      ·cases ht
     simp[yielded,h5,h4]
    have hw:Region.wanted o (yielded ops a.tmps)=(q==b):=by
     simp[Region.wanted,hg,hy]
    rw[hw];split at hr
    ·rename_i e;subst e;rw[if_pos (by simp)];exact run hr
    ·rename_i e;rw[if_neg (by simpa using e)];unfold setRes at hr;split at hr
     ·rename_i t' ht';split at hr
      ·rename_i hlt;injection hr with hr;subst hr
       rw[ht'];exact hK _ _ _ (h.put hlt ⟨#[],rfl,rfl,fun i x v hx=>by simp at hx⟩)
      ·cases hr
     ·rename_i ht';injection hr with hr;subst hr
      rw[ht'];exact hK _ _ _ h
   ·rename_i hq;have hy:yielded ops a.tmps j=none:=by
     obtain⟨h1,h2⟩:=h.tms t _ hq;obtain⟨vs,h3,h3'⟩:=h2;have h4:a.tmps[t]? = some (.tuple vs):=by
      have:t < a.tmps.size:=by rw[h.size];exact h1
      rw[Array.getD_eq_getD_getElem?] at h3;rw[Array.getElem?_eq_getElem this] at h3 ⊢;simpa using h3
     have h5:(ops[j]?).bind (·.dst)=some t:=by
      unfold dstOf at ht;rw[Array.getElem?_toList] at ht;split at ht
      ·rename_i o' ho';rw[ho'];exact ht
      ·cases ht
     simp[yielded,h5,h4]
    have hw:Region.wanted o (yielded ops a.tmps)=false:=by
     simp[Region.wanted,hg,hy]
    rw[hw,if_neg (by simp)];unfold setRes at hr;split at hr
    ·rename_i t' ht';split at hr
     ·rename_i hlt;injection hr with hr;subst hr
      rw[ht'];exact hK _ _ _ (h.put hlt ⟨#[],rfl,rfl,fun i x v hx=>by simp at hx⟩)
     ·cases hr
    ·rename_i ht';injection hr with hr;subst hr
     rw[ht'];exact hK _ _ _ h
   ·cases hr
  ·cases hr
theorem aopsM_sound (hT:Tabs P E.ty) (hC:CSound P E) (hG:GlobOk E w0) {ops:Array Oper} {Q:Exit→Act→World→Prop} {σ':St}:∀ (rest:List Oper) (k:Nat) (σ:St) (a:Act) (w:World) (β:Nat→Option Nat),
 (∀ j,rest[j]? = ops[k+j]?)→aopsM E ops.toList rest σ=some σ'→Sim E w0 σ a w β→(∀ a' w' β',Sim E w0 σ' a' w' β'→Q .normal a' w')→wpOps P ops Q (List.range' k rest.length) a w
 | [],k,σ,a,w,β,_,hr,h,hQ=>by
   simp[aopsM] at hr;subst hr;simp[wpOps];exact hQ _ _ _ h
 | o::rest,k,σ,a,w,β,hl,hr,h,hQ=>by
   simp only[aopsM] at hr;obtain⟨σ1,h1,h2⟩:=obind_eq hr;have h0:ops[k]? = some o:=by have:=hl 0;simpa using this.symm
   simp only[List.length_cons,List.range'_succ,wpOps,h0];have key:=aopM_sound (Q:=Q) hT hC h hG (ops:=ops) h1 (K:=wpOps P ops Q (List.range' (k+1) rest.length)) fun a' w' β' hS=>
    aopsM_sound hT hC hG rest (k+1) σ1 a' w' β' (fun j=>by have:=hl (j+1);rw[List.getElem?_cons_succ] at this;rw[this];congr 1;omega) h2 hS hQ
   split
   ·rename_i hw;rw[if_pos hw] at key;exact .inl key
   ·rename_i hw;rw[if_neg hw] at key;exact key
theorem wp_region_abs (hT:Tabs P E.ty) (hC:CSound P E) (hG:GlobOk E w0) {id:Nat} {ops:Array Oper} {Q:Exit→Act→World→Prop} {σ':St} (hr:aopsM E ops.toList ops.toList σ=some σ') (h:Sim E w0 σ a w β)
 (hQ:∀ a' w' β',Sim E w0 σ' a' w' β'→Q .normal a' w'):(Code.region id ops false).wp P Q a w:=by
 refine wp_region ?_;have:=aopsM_sound (Q:=Q) hT hC hG (ops:=ops) ops.toList 0 σ a w β (fun j=>by simp) hr h hQ;rw[List.range_eq_range'];simpa using this
def DrawOk (P:Program) (E:Env) (id:Nat) (ops:Array Oper):Prop:=
 ∀ (w0:World) (σ σ':St) (a:Act) (w:World) (β:Nat→Option Nat) (Q:Exit→Act→World→Prop),GlobOk E w0→adraw E id ops.toList σ=some σ'→Sim E w0 σ a w β→
   (∀ a' w' β',Sim E w0 σ' a' w' β'→Q .normal a' w')→(Code.region id ops true).wp P Q a w
def exOf:AX→Exit
 | .norm=> .normal
 | .exit i=> .exit i
 | .ret=> .ret
theorem aget_frzL (o t:Nat) (y:AV):∀ (l:List (Nat × AV)) (u:Nat),aget u (frzL o t y l)=(aget u l).map (frz o t y)
 | [],_=>rfl
 | (v,x)::r,u=>by
   simp only[frzL,aget];split
   ·rfl
   ·exact aget_frzL o t y r u
theorem aget_frzM (o t:Nat) (fr:Bool) (es:List AV):∀ (l:List (Nat × Obj)) (q:Nat),aget q (frzM o t fr es l)=(aget q l).map (frzB o t fr es)
 | [],_=>rfl
 | (v,x)::r,u=>by
   simp only[frzM,aget];split
   ·rfl
   ·exact aget_frzM o t fr es r u
theorem frzVL_map (o t:Nat) (fr:Bool) (es:List AV):∀ l:List AV,frzVL o t fr es l=l.map (frzV o t fr es)
 | []=>rfl
 | x::r=>by simp[frzVL,frzVL_map o t fr es r]
theorem frzV_leaf {o t:Nat} {fr:Bool} {es:List AV} {x:AV} (h:leafV x=true):leafV (frzV o t fr es x)=true:=by
 unfold frzV;split
 ·split <;> rfl
 ·exact h
theorem leavesL_mapF {F:AV→AV} (hF:∀ x,leafV x=true→leafV (F x)=true) (hN:∀ x,leafV x=false→F x=x):∀ (fs:List AV) (j:Nat) (y:AV),(leavesL (fs.map F))[j]? = some y→∃ x,(leavesL fs)[j]? = some x∧(y=F x∨y=x)
 | [],j,y,h=>by simp[leavesL] at h
 | a::r,j,y,h=>by
   simp only[List.map_cons,leavesL] at h ⊢;cases hl:leafV a with
   | true=>
     rw[leaves_leaf (hF a hl)] at h;rw[leaves_leaf hl];cases j with
     | zero=>simp at h;exact⟨a,by simp,.inl h.symm⟩
     | succ j=>obtain⟨x,h1,h2⟩:=leavesL_mapF hF hN r j y (by simpa using h);exact⟨x,by simpa using h1,h2⟩
   | false=>
     rw[hN a hl] at h;by_cases hj:j < (leaves a).length
     ·rw[List.getElem?_append_left hj] at h ⊢;exact⟨y,h,.inr rfl⟩
     ·rw[List.getElem?_append_right (by omega)] at h ⊢;exact leavesL_mapF hF hN r _ y h
theorem obR_map {c c':Cx} {q:Nat} {u:TypeId} {f:Bool} {v:TypeId} {fs:List AV} {F:AV→AV} (h0:ObR c q ⟨.box u,f,[.st v fs]⟩) (e1:c'.ty=c.ty) (e2:c'.β q=c.β q) (e3:c'.new=c.new) (e4:c'.w=c.w)
 (hF:∀ x,leafV x=true→leafV (F x)=true) (hN:∀ x,leafV x=false→F x=x) (key:∀ x z,OR c x z→OR c' (F x) z∧OR c' x z):ObR c' q ⟨.box u,f,[.st v (fs.map F)]⟩:=by
 obtain⟨x,hx,hc⟩:=h0.conf;injection hx with hx;subst hx
 have hc2:Conf c.ty u (.st v (fs.map F)):=by
  cases hc with
  | leaf _ _ _ h4=>cases h4
  | st h4 h5 h6 h7=>
    refine .st h4 (by rw[List.length_map];exact h5) h6 fun i x z hx hz=>?_
    rw[List.getElem?_map] at hx;cases hy:fs[i]? with
    | none=>rw[hy] at hx;cases hx
    | some y=>
      rw[hy] at hx;injection hx with hx;subst hx
      have hcy:=h7 i y z hy hz;cases hcy with
      | leaf q1 q2 q3 q4=>exact .leaf q1 q2 q3 (hF _ q4)
      | st=>rw[hN _ rfl];exact h7 i _ z hy hz
      | ar=>rw[hN _ rfl];exact h7 i _ z hy hz
 refine⟨⟨_,rfl,by rw[e1];exact hc2⟩,?_⟩;have hb0:=h0.blk;rw[e2];cases hβ:c.β q with
 | none=>
   simp only[hβ] at hb0;obtain⟨⟨t2,ht2⟩,_⟩:=hb0;cases ht2
 | some k=>
   simp only[hβ] at hb0 ⊢;obtain⟨hnew,arr,e,g1,g2⟩:=hb0;refine⟨by rw[e3];exact hnew,arr,e,by rw[e4];exact g1,fun j x hx=>?_⟩;have e1:leavesL [AV.st v (fs.map F)]=leavesL (fs.map F):=by simp only[leavesL,leaves,List.append_nil]
   have e2:leavesL [AV.st v fs]=leavesL fs:=by simp only[leavesL,leaves,List.append_nil]
   rw[e1] at hx;obtain⟨y,h1,h2⟩:=leavesL_mapF hF hN fs j x hx;obtain⟨v',r1,r2⟩:=g2 j y (by rw[e2];exact h1);rcases h2 with rfl | rfl
   ·exact⟨v',r1,(key y v' r2).1⟩
   ·exact⟨v',r1,(key x v' r2).2⟩
theorem frzV_non {o t:Nat} {fr:Bool} {es:List AV} {x:AV} (h:leafV x=false):frzV o t fr es x=x:=by
 unfold frzV;split
 ·cases h
 ·rfl
theorem Sim.frzRow (hL:∀ k,¬ E.lent k) (h:Sim E w0 σ a w β) {o t:Nat} {fr:Bool} {es:List AV} (hb:aget o σ.ob=some ⟨.row t,fr,es⟩) :
 Sim E w0 ⟨σ.tm,frzM o t fr es (adel o σ.ob)⟩ a w β:=by
 have hget:∀ q b,aget q (frzM o t fr es (adel o σ.ob))=some b→q ≠ o∧∃ b0,aget q σ.ob=some b0∧b=frzB o t fr es b0:=fun q b hq=>by
  rw[aget_frzM,aget_adel] at hq;split at hq
  ·cases hq
  ·rename_i e;cases hq0:aget q σ.ob with
   | none=>rw[hq0] at hq;cases hq
   | some b0=>rw[hq0] at hq;injection hq with hq;exact⟨Ne.symm e,b0,rfl,hq.symm⟩
 have m:Mono (cxOf E w0 σ w β) (cxOf E w0 ⟨σ.tm,frzM o t fr es (adel o σ.ob)⟩ w β):={
  ty:=rfl,base:=rfl,new:=rfl,size:=Nat.le_refl _
  keep:=fun k hk hl=>⟨fun hmu=>hmu.elim (fun q=>hk (.inl q)) fun⟨q,b',h1,h2⟩=>by
   obtain⟨_,b0,h3,_⟩:=hget q b' h1;exact hk (.inr ⟨q,b0,h3,h2⟩),rfl⟩
  rows:=fun k arr' e' hk=>⟨arr',hk,rfl⟩ }
 have hO:=h.obs o _ hb;have hconf:∀ x ∈ es,Conf E.ty t x:=hO.conf.1;have key:∀ x v,OR (cxOf E w0 σ w β) x v→OR (cxOf E w0 ⟨σ.tm,frzM o t fr es (adel o σ.ob)⟩ w β) (frzV o t fr es x) v:=fun x v hx=>by
  have hm:=m.or hx fun _ _=>rfl
  unfold frzV;split;rotate_left
  ·exact hm
  rename_i o' t' i n;split;rotate_left
  ·exact hm
  rename_i e;obtain⟨rfl,rfl,e3,e4⟩:=e;cases hx with
  | cl hl=>cases hl
  | ownN _ _ hn=>
    have:es=[]:=List.eq_nil_of_length_eq_zero e4.symm;subst this;exact OR.cl (.slN t' _ _ (by simp) rfl)
  | own _ _ _ _ k cp arr e hk hh hs hle=>
    subst e3 e4;have hblk:=hO.blk;have hk':β o'=some k:=hk;simp only[cxOf,hk'] at hblk;obtain⟨hnew,arr2,e2,g1,g2⟩:=hblk;have hh':w.heap[k]? = some (.cells arr e (0,0)):=hh;rw[hh'] at g1;injection g1 with g1
    injection g1 with g1 _ _
    subst g1;have hk0:w0.heap.size≤k:=hnew.elim id fun hl=>absurd hl.1 (hL k)
    have hnm:¬ (cxOf E w0 ⟨σ.tm,frzM o' t' fr es (adel o' σ.ob)⟩ w β).mu k:=fun hmu=>by
     rcases hmu with z | ⟨q,b',q1,q2⟩
     ·have:=z.1;omega
     ·obtain⟨hne,b0,h3,_⟩:=hget q b' q1;exact hne (h.inj q o' b0 _ k h3 hb q2 hk')
    have hokb:(cxOf E w0 ⟨σ.tm,frzM o' t' fr es (adel o' σ.ob)⟩ w β).okb fr k:=⟨hnm,fun _=>Nat.le_trans (lowOf_le _ _) hk0⟩
    have hcell:∀ (j:Nat) (z:AV),(leavesL es)[j]? = some z→∃ v,w.cell? ⟨k,0 * szOf E.ty t'+j,none⟩=some v∧LR E.ty w ((cxOf E w0 ⟨σ.tm,frzM o' t' fr es (adel o' σ.ob)⟩ w β).okb fr) z v:=fun j z hz=>by
     obtain⟨v,r1,r2⟩:=g2 j z hz;exact⟨v,by rw[Nat.zero_mul,Nat.zero_add,cell_blk w k j _ _ _ hh'];exact r1,m.lr r2⟩
    obtain⟨us,f1,f2⟩:=list_choice (leavesL es) (fun j z v=>w.cell? ⟨k,0 * szOf E.ty t'+j,none⟩=some v∧LR E.ty w ((cxOf E w0 ⟨σ.tm,frzM o' t' fr es (adel o' σ.ob)⟩ w β).okb fr) z v) hcell;have hus:∀ (j:Nat) (z:AV),(leavesL es)[j]? = some z→us[j]? = some (us.getD j undef):=fun j z hz=>by
     have:j < us.length:=by rw[f1];exact (List.getElem?_eq_some_iff.1 hz).1
     simp[this]
    exact OR.cl (.sl t' ⟨fr,none,false⟩ es k (0 * szOf E.ty t') cp (fun j=>us.getD j undef) hle (by simp) (by simp) (fun _=>⟨hokb,(Array.getElem?_eq_some_iff.1 hh').1⟩) hconf (fun j z hz=>(f2 j z _ hz (hus j z hz)).1) (fun j z hz=>(f2 j z _ hz (hus j z hz)).2))
 exact {
  below:=h.below,size:=h.size,defers:=h.defers
  tms:=fun u x hx=>⟨(h.tms u x hx).1,m.vr (h.tms u x hx).2 fun _ _=>rfl⟩
  obs:=fun q b hq=>by
   obtain⟨hne,b0,h3,rfl⟩:=hget q b hq;have h0:=h.obs q b0 h3;have hm:=m.obR h0 (fun _ _=>rfl) rfl fun _ _=>rfl
   unfold frzB;split;rotate_left
   ·exact hm
   rename_i u f v fs;split;rotate_left
   ·exact hm
   rename_i hal;rw[frzVL_map];exact obR_map h0 rfl rfl rfl rfl (fun x hx=>frzV_leaf hx) (fun x hx=>frzV_non hx) fun x z hx=>⟨key x z hx,m.or hx fun _ _=>rfl⟩
  inj:=fun q q' b b' k h1 h2=>by
   obtain⟨_,b0,h3,_⟩:=hget q b h1;obtain⟨_,b0',h3',_⟩:=hget q' b' h2;exact h.inj q q' b0 b0' k h3 h3' }
theorem Sim.freeze1 (hL:∀ k,¬ E.lent k) (h:Sim E w0 σ a w β) (o:Nat):Sim E w0 (σ.freeze1 o) a w β:=by
 unfold St.freeze1;split;rotate_left
 ·exact h
 rename_i b hb;unfold frzO;split;rotate_left
 ·rename_i hb;exact h.frzRow hL hb
 ·exact h
 rename_i t fr y;split;rotate_left
 ·exact h
 rename_i hcl;have hget:∀ q b,aget q (adel o σ.ob)=some b→q ≠ o∧aget q σ.ob=some b:=fun q b hq=>by
  rw[aget_adel] at hq;split at hq
  ·cases hq
  ·rename_i e;exact⟨Ne.symm e,hq⟩
 have m:Mono (cxOf E w0 σ w β) (cxOf E w0 ⟨frzL o t y σ.tm,adel o σ.ob⟩ w β):={
  ty:=rfl,base:=rfl,new:=rfl,size:=Nat.le_refl _
  keep:=fun k hk hl=>⟨fun hmu=>hmu.elim (fun q=>hk (.inl q)) fun⟨q,b',h1,h2⟩=>hk (.inr ⟨q,b',(hget q b' h1).2,h2⟩),rfl⟩
  rows:=fun k arr' e' hk=>⟨arr',hk,rfl⟩ }
 have hO:=h.obs o _ hb;have hconf:Conf E.ty t y:=by
  obtain⟨x,e1,e2⟩:=hO.conf;injection e1 with e1;subst e1;exact e2
 exact {
  below:=h.below,size:=h.size,defers:=h.defers
  tms:=fun u x hx=>by
   rw[aget_frzL] at hx;cases hx0:aget u σ.tm with
   | none=>rw[hx0] at hx;cases hx
   | some x0=>
     rw[hx0] at hx;injection hx with hx
     obtain⟨h1,h2⟩:=h.tms u x0 hx0;refine⟨h1,?_⟩;unfold frz at hx;split at hx
     ·rename_i o' u';split at hx
      ·rename_i e;subst e;subst hx;obtain⟨k,d,e1,e2,e3⟩:=VR.ptr_inv h2;have hd:d=0:=by simp[offRT,offTy] at e3;exact e3.symm
       subst hd;have e2':β o'=some k:=e2;have hblk:=hO.blk;simp only[cxOf,e2'] at hblk;obtain⟨hnew,arr,e,g1,g2⟩:=hblk;have hk0:w0.heap.size≤k:=hnew.elim id fun hl=>absurd hl.1 (hL k)
       have hnm:¬ (cxOf E w0 ⟨frzL o' t y σ.tm,adel o' σ.ob⟩ w β).mu k:=fun hmu=>by
        rcases hmu with z | ⟨q,b',q1,q2⟩
        ·have:=z.1;omega
        ·have:=hget q b' q1;exact this.1 (h.inj q o' b' _ k this.2 hb q2 e2')
       have hokb:(cxOf E w0 ⟨frzL o' t y σ.tm,adel o' σ.ob⟩ w β).okb (newR y) k:=⟨hnm,fun _=>Nat.le_trans (lowOf_le _ _) hk0⟩
       have hcell:∀ (j:Nat) (z:AV),(leaves y)[j]? = some z→∃ v,w.cell? ⟨k,0+j,none⟩=some v∧LR E.ty w ((cxOf E w0 ⟨frzL o' t y σ.tm,adel o' σ.ob⟩ w β).okb (newR y)) z v:=fun j z hz=>by
        obtain⟨v,r1,r2⟩:=g2 j z (by simpa[leavesL] using hz);refine⟨v,by rw[Nat.zero_add,cell_blk w k j _ _ _ g1];exact r1,?_⟩;have hzc:=(leaf_closed hconf).1 hcl z (List.mem_of_getElem? hz);unfold cellR at r2;dsimp only at r2;have hfz:newR y=true→frOf z=true:=fun hn=>newR_leaf hconf hn z (List.mem_of_getElem? hz)
        have hl2:leafV z=true:=by rcases r2 with _ | _ | _ | _ | _ | _ <;> first | rfl | exact LR.leaf ‹_›
        have r3:=r2.lr hzc (fr:=newR y) (fun hn=>by
         have hf:=hfz hn;cases z <;> first | rfl | exact hf | cases hl2 | (simp[closed] at hzc))
        exact m.lr r3
       obtain⟨us,f1,f2⟩:=list_choice (leaves y) (fun j z v=>w.cell? ⟨k,0+j,none⟩=some v∧LR E.ty w ((cxOf E w0 ⟨frzL o' t y σ.tm,adel o' σ.ob⟩ w β).okb (newR y)) z v) hcell;have hus:∀ (j:Nat) (z:AV),(leaves y)[j]? = some z→us[j]? = some (us.getD j undef):=fun j z hz=>by
        have:j < us.length:=by rw[f1];exact (List.getElem?_eq_some_iff.1 hz).1
        simp[this]
       rw[e1];exact OR.cl (.ro (newR y) t y k 0 (fun j=>us.getD j undef) hokb (Array.getElem?_eq_some_iff.1 g1).1 hconf (fun j z hz=>(f2 j z _ hz (hus j z hz)).1) (fun j z hz=>(f2 j z _ hz (hus j z hz)).2))
      ·subst hx;exact m.vr h2 fun _ _=>rfl
     ·subst hx;exact m.vr h2 fun _ _=>rfl
  obs:=fun q b' hq=>m.obR (h.obs q b' (hget q b' hq).2) (fun _ _=>rfl) rfl fun _ _=>rfl
  inj:=fun q q' b b' k h1 h2=>h.inj q q' b b' k (hget q b h1).2 (hget q' b' h2).2 }
theorem Sim.freeze:∀ (l:List Nat) {σ:St},(l ≠ []→∀ k,¬ E.lent k)→Sim E w0 σ a w β→Sim E w0 (σ.freeze l) a w β
 | [],_,_,h=>h
 | o::r,_,hL,h=>Sim.freeze r (fun _=>hL (by simp)) (h.freeze1 (hL (by simp)) o)
def Draws (P:Program) (E:Env):Code→Prop
 | .region id ops true=>DrawOk P E id ops
 | .seq a b=>Draws P E a∧Draws P E b
 | .cond _ a b=>Draws P E a∧Draws P E b
 | .block _ c=>Draws P E c
 | .loop c=>Draws P E c
 | _=>True
def APost (E:Env) (w0:World) (e:AX) (σ':St):Exit→Act→World→Prop:=fun e' a' w'=>e'=exOf e∧∃ β',Sim E w0 σ' a' w' β'
theorem keepL_get {α:Type} (l:List (Nat × α)):∀ (ts:List Nat) (t:Nat) (v:α),aget t (keepL l ts)=some v→aget t l=some v
 | [],t,v,h=>by simp[keepL,aget] at h
 | u::r,t,v,h=>by
   simp only[keepL] at h;split at h
   ·rename_i y hy;simp only[aget] at h;split at h
    ·rename_i e;subst e;injection h with h;subst h;exact hy
    ·exact keepL_get l r t v h
   ·exact keepL_get l r t v h
theorem kept_get {α:Type} (K:Nat):∀ (l:List (Nat × α)) (t:Nat) (v:α),(∀ u x,(u,x) ∈ l→True)→aget t (kept K l)=some v→(inK K t=true∧aget t l=some v)
 | [],t,v,_,h=>by simp[kept,aget] at h
 | (u,x)::r,t,v,hh,h=>by
   simp only[kept] at h;split at h
   ·rename_i hk;simp only[aget] at h ⊢;split at h
    ·rename_i e;subst e;exact⟨hk,by simpa using h⟩
    ·rename_i e;obtain⟨a,b⟩:=kept_get K r t v (fun _ _ _=>trivial) h;exact⟨a,by rw[if_neg e];exact b⟩
   ·rename_i hk;obtain⟨a,b⟩:=kept_get K r t v (fun _ _ _=>trivial) h;refine⟨a,?_⟩;simp only[aget];rw[if_neg]
    ·exact b
    ·rintro rfl;exact hk a
theorem then_eq {r:Option (AX × St)} {f:St→Option (AX × St)} {e:AX} {σ':St} (h:then_ r f=some (e,σ')):(∃ σ1,r=some (.norm,σ1)∧f σ1=some (e,σ'))∨(r=some (e,σ')∧e ≠ .norm):=by
 unfold then_ at h;split at h
 ·rename_i σ1;exact .inl ⟨σ1,rfl,h⟩
 ·rename_i hne;refine .inr ⟨h,?_⟩;rintro rfl;exact hne _ h
theorem Sim.retag {E:Env} {w0 w:World} {σ:St} {a:Act} {β:Nat→Option Nat} (h:Sim E w0 σ a w β) {t:Nat} {y:AV} (ht:t < E.n) (hy:VR (cxOf E w0 σ w β) y (a.tmps.getD t undef)):Sim E w0 ⟨aput t y σ.tm,σ.ob⟩ a w β where
 below:=h.below
 size:=h.size
 defers:=h.defers
 tms:=fun u z hz=>by
  simp only[aget_aput] at hz;split at hz
  ·rename_i e;subst e;injection hz with hz;subst hz
   exact⟨ht,hy⟩
  ·exact h.tms u z hz
 obs:=h.obs
 inj:=h.inj
theorem Sim.retagB {E:Env} {w0 w:World} {σ:St} {a:Act} {β:Nat→Option Nat} (h:Sim E w0 σ a w β) {o:Nat} {u:TypeId} {f:Bool} {v:TypeId} {fs:List AV} {F:AV→AV} (hb:aget o σ.ob=some ⟨.box u,f,[.st v fs]⟩)
 (hF:∀ x,leafV x=true→leafV (F x)=true) (hN:∀ x,leafV x=false→F x=x) (key:∀ x z,OR (cxOf E w0 σ w β) x z→OR (cxOf E w0 σ w β) (F x) z):Sim E w0 ⟨σ.tm,aput o ⟨.box u,f,[.st v (fs.map F)]⟩ σ.ob⟩ a w β:=by
 have hget:∀ q b,aget q (aput o ⟨.box u,f,[.st v (fs.map F)]⟩ σ.ob)=some b→∃ b0,aget q σ.ob=some b0∧((q=o∧b0=⟨.box u,f,[.st v fs]⟩∧b=⟨.box u,f,[.st v (fs.map F)]⟩)∨b=b0):=fun q b hq=>by
  rw[aget_aput] at hq;split at hq
  ·rename_i e;subst e;injection hq with hq;exact⟨_,hb,.inl ⟨rfl,rfl,hq.symm⟩⟩
  ·exact⟨b,hq,.inr rfl⟩
 have m:Mono (cxOf E w0 σ w β) (cxOf E w0 ⟨σ.tm,aput o ⟨.box u,f,[.st v (fs.map F)]⟩ σ.ob⟩ w β):={
  ty:=rfl,base:=rfl,new:=rfl,size:=Nat.le_refl _
  keep:=fun k hk hl=>⟨fun hmu=>hmu.elim (fun q=>hk (.inl q)) fun⟨q,b',h1,h2⟩=>by
   obtain⟨b0,h3,_⟩:=hget q b' h1;exact hk (.inr ⟨q,b0,h3,h2⟩),rfl⟩
  rows:=fun k arr' e' hk=>⟨arr',hk,rfl⟩ }
 exact {
  below:=h.below,size:=h.size,defers:=h.defers
  tms:=fun u x hx=>⟨(h.tms u x hx).1,m.vr (h.tms u x hx).2 fun _ _=>rfl⟩
  obs:=fun q b hq=>by
   obtain⟨b0,h3,⟨rfl,rfl,rfl⟩ | rfl⟩:=hget q b hq
   ·exact obR_map (h.obs q _ h3) rfl rfl rfl rfl hF hN fun x z hx=>⟨m.or (key x z hx) fun _ _=>rfl,m.or hx fun _ _=>rfl⟩
   ·exact m.obR (h.obs q b h3) (fun _ _=>rfl) rfl fun _ _=>rfl
  inj:=fun q q' b b' k h1 h2=>by
   obtain⟨b0,h3,_⟩:=hget q b h1;obtain⟨b0',h3',_⟩:=hget q' b' h2;exact h.inj q q' b0 b0' k h3 h3' }
theorem Sim.move' (h:Sim E w0 σ a w β) {c o:Nat} {b:Obj} {t:TypeId} (hr:b.r = .row t) (ho:aget o σ.ob=some b) (hc:o=c∨σ.free c=true):∃ β',Sim E w0 ⟨σ.tm,aput c b (adel o σ.ob)⟩ a w β'∧β' c=β o∧β' o=β o:=by
 by_cases e:o=c
 ·subst e;refine⟨β,h.less (fun t x hx=>hx) (fun q b' hq=>?_),rfl,rfl⟩;rw[aget_aput,aget_adel] at hq;split at hq
  ·rename_i e;subst e;injection hq with hq;rw[ho,hq]
  ·rename_i e;exact hq
 ·exact⟨_,h.move (hc.resolve_left e) hr ho e,if_pos rfl,if_neg e⟩
theorem Sim.slot (h:Sim E w0 σ a w β) (t c:Nat) (e:TypeId):∃ β',Sim E w0 (σ.slot E.ty t c e) a w β':=by
 unfold St.slot;split
 ·rename_i o u n ht;split
  ·rename_i v fr es hb;split
   ·rename_i hc;obtain⟨β',hM,hβ,_⟩:=h.move' (b:=⟨.row v,fr,es⟩) rfl hb hc;obtain⟨h1,h2⟩:=h.tms t _ ht;refine⟨β',hM.retag h1 ?_⟩;rcases VR.own_inv h2 with ⟨q0,_,q2,q3⟩ | ⟨k,cp,arr,e',g1,g2,g3,g4,g5⟩
    ·subst q2;rw[q3];exact .ownN c u (by simp[cxOf,hβ];exact q0)
    ·rw[g5];exact .own c u 0 n k cp arr e' (by simp[cxOf,hβ];exact g1) g2 g3 g4
   ·exact⟨β,h⟩
  ·exact⟨β,h⟩
 ·rename_i u fl es ht;split
  ·rename_i T hT';split
   ·rename_i hc;have hN:=h.newNone (d:=c) hc.2.2 (t:=e) (fr:=true) (by simp[szOf,hT'];exact hc.2.1);obtain⟨h1,h2⟩:=h.tms t _ ht;refine⟨_,hN.retag h1 ?_⟩;rcases VR.sl_inv h2 with ⟨_,_,q⟩ | ⟨_,_,_,_,_,q,_⟩
    ·rw[q];exact .ownN c e (by simp[cxOf])
    ·exact absurd hc.1 q
   ·exact⟨β,h⟩
  ·exact⟨β,h⟩
 ·rename_i o ub ht;split;rotate_left
  ·exact⟨β,h⟩
  rename_i u f v fs hb;split
  ·rename_i q hq;split;rotate_left
   ·exact⟨β,h⟩
   rename_i v' fr es hrow;split;rotate_left
   ·exact⟨β,h⟩
   rename_i hc;have hoq:o ≠ q:=by rintro rfl;rw[hb] at hrow;injection hrow with hrow;cases hrow
   have hoc:o ≠ c:=by
    rintro rfl;rcases hc with hc | hc
    ·exact hoq hc.symm
    ·simp only[St.free,Bool.and_eq_true] at hc;have:=freeT_get hc.1 t _ ht;simp[ment] at this
   obtain⟨β',hM,h1,h2⟩:=h.move' (b:=⟨.row v',fr,es⟩) rfl hrow hc;refine⟨β',hM.retagB (F:=slotF q c) (by rw[aget_aput,if_neg (Ne.symm hoc),aget_adel,if_neg (Ne.symm hoq)];exact hb) (fun x hx=>?_) (fun x hx=>?_) fun x z hx=>?_⟩
   ·unfold slotF;split
    ·split <;> rfl
    ·exact hx
   ·unfold slotF;split
    ·cases hx
    ·rfl
   ·unfold slotF;split;rotate_left
    ·exact hx
    split;rotate_left
    ·exact hx
    rename_i e;subst e;cases hx with
    | cl hl=>cases hl
    | ownN _ _ hn=>exact .ownN c _ (by simp only[cxOf] at hn ⊢;rw[h1,← h2];exact hn)
    | own _ _ _ _ k cp arr e2 hk hh hs hle=>exact .own c _ _ _ k cp arr e2 (by simp only[cxOf] at hk ⊢;rw[h1,← h2];exact hk) hh hs hle
  ·split;rotate_left
   ·exact⟨β,h⟩
   rename_i T hT';split;rotate_left
   ·exact⟨β,h⟩
   rename_i hc;have hoc:o ≠ c:=by
    rintro rfl;have hc:=hc.2;simp only[St.free,Bool.and_eq_true] at hc;have:=freeT_get hc.1 t _ ht;simp[ment] at this
   have hN:=h.newNone (d:=c) hc.2 (t:=e) (fr:=true) (by simp[szOf,hT'];exact hc.1);refine⟨_,hN.retagB (F:=slotN c e) (by rw[aget_aput,if_neg (Ne.symm hoc)];exact hb) (fun x hx=>?_) (fun x hx=>?_) fun x z hx=>?_⟩
   ·unfold slotN;split
    ·split <;> rfl
    ·exact hx
   ·unfold slotN;split
    ·cases hx
    ·rfl
   ·unfold slotN;split;rotate_left
    ·exact hx
    split;rotate_left
    ·exact hx
    rename_i e2;cases hx with
    | cl hl=>
      cases hl with
      | slN _ _ _ q1 q2=>subst q2;exact .ownN c _ (by simp[cxOf])
      | sl _ _ _ _ _ _ _ _ q1=>exact absurd e2.2 q1
 ·exact⟨β,h⟩
theorem Sim.slots:∀ (l:List (Nat × Nat × TypeId)) {σ:St} {β:Nat→Option Nat},Sim E w0 σ a w β→∃ β',Sim E w0 (σ.slots E.ty l) a w β'
 | [],σ,β,h=>⟨β,h⟩
 | s::r,σ,β,h=>by
   obtain⟨β1,h1⟩:=h.slot s.1 s.2.1 s.2.2;exact Sim.slots r h1
theorem arun_sound (hZ:(∃ id,E.Z id ≠ [])→∀ k,¬ E.lent k) (hT:Tabs P E.ty) (hC:CSound P E) (hG:GlobOk E w0) {H:Nat→Hint} {k:Nat}:∀ (c:Code) (σ σ':St) (e:AX),Draws P E c→arun E H k c σ=some (e,σ')→∀ (a:Act) (w:World) (β:Nat→Option Nat),Sim E w0 σ a w β→
 c.wp P (APost E w0 e σ') a w:=by
 intro c
 induction c with
 | skip=>
   intro σ σ' e _ hr a w β h;simp only[arun] at hr;injection hr with hr;injection hr with h1 h2;subst h1;subst h2
   exact wp_skip ⟨rfl,β,h⟩
 | region id ops dr=>
   intro σ σ' e hd hr a w β h;have less:∀ {σ1:St} {a':Act} {w':World} {β':Nat→Option Nat},Sim E w0 σ1 a' w' β'→Sim E w0 (endRegion E σ1) a' w' β':=fun hS=>
    hS.less (fun t x hx=>(kept_get _ _ t x (fun _ _ _=>trivial) hx).2) (fun o b hb=>hb)
   cases dr with
   | false=>
     simp only[arun] at hr;obtain⟨σ1,h1,h2⟩:=obind_eq hr;injection h2 with h2;injection h2 with h2 h3;subst h2;subst h3
     exact wp_region_abs hT hC hG h1 (h.freeze _ fun hne=>hZ ⟨id,hne⟩) fun a' w' β' hS=>⟨rfl,β',less hS⟩
   | true=>
     simp only[arun] at hr;obtain⟨σ1,h1,h2⟩:=obind_eq hr;injection h2 with h2;injection h2 with h2 h3;subst h2;subst h3
     exact hd w0 σ σ1 a w β _ hG h1 h fun a' w' β' hS=>⟨rfl,β',less hS⟩
 | seq c1 c2 ih1 ih2=>
   intro σ σ' e hd hr a w β h;simp only[arun] at hr;refine wp_seq ?_;rcases then_eq hr with ⟨σ1,h1,h2⟩ | ⟨h1,h2⟩
   ·refine wp_mono (ih1 σ σ1 .norm hd.1 h1 a w β h) fun e' a' w' hp=>?_
    obtain⟨he,β',hS⟩:=hp;subst he;exact ih2 σ1 σ' e hd.2 h2 a' w' β' hS
   ·refine wp_mono (ih1 σ σ' e hd.1 h1 a w β h) fun e' a' w' hp=>?_
    obtain⟨he,β',hS⟩:=hp;subst he;cases e with
    | norm=>exact absurd rfl h2
    | exit i=>exact⟨rfl,β',hS⟩
    | ret=>exact⟨rfl,β',hS⟩
 | cond cc c1 c2 ih1 ih2=>
   intro σ σ' e hd hr a w β h;simp only[arun] at hr;obtain⟨q,h1,h2⟩:=obind_eq hr;have hq:=val_sound h hG h1;split at h2
   ·rename_i b;refine wp_cond (VR.bool_inv hq) ?_;split at h2
    ·rename_i e1;subst e1;exact ih1 σ σ' e hd.1 h2 a w β h
    ·rename_i e1;have:b=false:=by simpa using e1
     subst this;exact ih2 σ σ' e hd.2 h2 a w β h
   ·cases h2
 | block id c ih=>
   intro σ σ' e hd hr a w β h;simp only[arun] at hr;refine wp_block ?_;unfold inBlock at hr;split at hr
   ·rename_i i σ1 h1;refine wp_mono (ih σ σ1 (.exit i) hd h1 a w β h) fun e' a' w' hp=>?_
    obtain⟨he,β',hS⟩:=hp;subst he;simp only[exOf,Exit.inBlock];split at hr
    ·rename_i e1;injection hr with hr;injection hr with h2 h3;subst h2;subst h3
     rw[if_pos e1];exact⟨rfl,β',hS⟩
    ·rename_i e1;injection hr with hr;injection hr with h2 h3;subst h2;subst h3
     rw[if_neg e1];exact⟨rfl,β',hS⟩
   ·rename_i hne;refine wp_mono (ih σ σ' e hd hr a w β h) fun e' a' w' hp=>?_
    obtain⟨he,β',hS⟩:=hp;subst he;cases e with
    | norm=>exact⟨rfl,β',hS⟩
    | exit i=>exact absurd hr (hne i σ')
    | ret=>exact⟨rfl,β',hS⟩
 | loop c ih=>
   intro σ σ' e hd hr a w β h;simp only[arun] at hr;refine wp_loop_rounds k ?_;generalize H (firstId c)=hint at hr;have hfin:∀ {σ:St} {a:Act} {w:World} {β:Nat→Option Nat},Sim E w0 σ a w β→Sim E w0 (σ.fin hint) a w β:=fun {σ a w β} hS=>by
    unfold St.fin;split
    ·exact hS
    ·exact hS.less (fun t x hx=>keepL_get _ _ t x hx) (fun o b hb=>keepL_get _ _ o b hb)
   obtain⟨σ2,hr2,hfin2⟩:∃ σ2,aloop E.ty (arun E H k c) hint k σ=some (e,σ2)∧σ'=σ2.fin hint:=by
    unfold post at hr;split at hr
    ·rename_i x σ2 h1;injection hr with hr;injection hr with h2 h3;subst h2
     exact⟨σ2,h1,h3.symm⟩
    ·cases hr
   subst hfin2;have key:∀ (n:Nat) (σ:St) (a:Act) (w:World) (β:Nat→Option Nat),aloop E.ty (arun E H k c) hint n σ=some (e,σ2)→Sim E w0 σ a w β→Code.rounds P c (APost E w0 e (σ2.fin hint)) n a w:=by
    intro n
    induction n with
    | zero=>intro σ a w β hr _;simp[aloop] at hr
    | succ n ihn=>
      intro σ a w β hr h;rw[rounds_succ];simp only[aloop] at hr;have h00:Sim E w0 (σ.keep hint) a w β:=h.less (fun t x hx=>keepL_get _ _ t x hx) (fun o b hb=>keepL_get _ _ o b hb);obtain⟨β0,h0⟩:=h00.slots hint.sl;rcases then_eq hr with ⟨σ1,h1,h2⟩ | ⟨h1,h2⟩
      ·refine wp_mono (ih _ σ1 .norm hd h1 a w β0 h0) fun e' a' w' hp=>?_
       obtain⟨he,β',hS⟩:=hp;subst he;exact ihn σ1 a' w' β' h2 hS
      ·refine wp_mono (ih _ σ2 e hd h1 a w β0 h0) fun e' a' w' hp=>?_
       obtain⟨he,β',hS⟩:=hp;subst he;cases e with
       | norm=>exact absurd rfl h2
       | exit i=>exact⟨rfl,β',hfin hS⟩
       | ret=>exact⟨rfl,β',hfin hS⟩
   exact key k σ a w β hr2 h
 | exit id=>
   intro σ σ' e _ hr a w β h;simp only[arun] at hr;injection hr with hr;injection hr with h1 h2;subst h1;subst h2
   exact wp_exit ⟨rfl,β,h⟩
 | ret=>
   intro σ σ' e _ hr a w β h;simp only[arun] at hr;injection hr with hr;injection hr with h1 h2;subst h1;subst h2
   exact wp_ret ⟨rfl,β,h⟩
 | _=>intro σ σ' e _ hr;simp[arun] at hr
end
end Go.Abs
end
section
namespace Go.Abs
open Go Go.RowKit
def bookO:Go.Obj→Bool
 | .loop _=>true
 | .deferred _=>true
 | _=>false
structure Books (w w':World):Prop where
 os:w'.os=w.os
 tape:w'.tape=w.tape
 output:w'.output=w.output
 size:w.heap.size≤w'.heap.size
 same:∀ (k:Nat) (o:Go.Obj),w.heap[k]? = some o→bookO o=false→w'.heap[k]? = some o
theorem Books.refl (w:World):Books w w:=⟨rfl,rfl,rfl,Nat.le_refl _,fun _ _ h _=>h⟩
theorem Books.trans {a b c:World} (h:Books a b) (k:Books b c):Books a c:=⟨k.os.trans h.os,k.tape.trans h.tape,k.output.trans h.output,Nat.le_trans h.size k.size,fun i o hi ho=>k.same i o (h.same i o hi ho) ho⟩
theorem Books.put {w:World} {l:Nat} {o:Go.Obj} (ho:w.heap[l]? = some o) (hb:bookO o=true) (o':Go.Obj):Books w (w.putObj l o'):=
 ⟨rfl,rfl,rfl,by simp,fun k x hk hx=>by
   by_cases e:k=l
   ·subst e;rw[ho] at hk;cases hk;rw[hb] at hx;cases hx
   ·exact (World.putObj_heap_other e).trans hk⟩
theorem Books.below {w w':World} (h:Below w.heap.size w w'):Books w w':=⟨h.os,h.tape,h.output,h.size,fun k o hk _=>(h.block k (Array.getElem?_eq_some_iff.1 hk).1).trans hk⟩
theorem Books.cell {w w':World} (h:Books w w') {a:Addr} {v:Value} (hc:w.cell? a=some v):w'.cell? a=some v:=by
 have:∃ o:Go.Obj,w.heap[a.block]? = some o∧bookO o=false:=by
  unfold World.cell? at hc;cases ho:w.heap[a.block]? with
  | none=>simp[ho] at hc
  | some o=>exact⟨o,rfl,by cases o <;> simp_all [bookO]⟩
 obtain⟨o,h1,h2⟩:=this;rw[← hc];exact World.cell?_of_block ((h.same _ o h1 h2).trans h1.symm)
theorem LR.book {ty:Tys} {w w':World} {okb:Nat→Prop} {x:AV} {v:Value} (h:LR ty w okb x v) (hb:Books w w'):LR ty w' okb x v:=by
 induction h with
 | int k n=>exact .int k n
 | bool b=>exact .bool b
 | str s=>exact .str s
 | pnil=>exact .pnil
 | fnil=>exact .fnil
 | fn f cs us h1 _ ih=>exact .fn f cs us h1 ih
 | slN t fl c h1 h2=>exact .slN t fl c h1 h2
 | sl t fl es blk off c vs h1 h2 h3 h4 h5 h6 h7 ih=>
   exact .sl t fl es blk off c vs h1 h2 h3 (fun hne=>⟨(h4 hne).1,Nat.lt_of_lt_of_le (h4 hne).2 hb.size⟩) h5 (fun j y hy=>hb.cell (h6 j y hy)) ih
 | ro fr t x blk off vs h1 h2 h3 h4 h5 ih=>exact .ro fr t x blk off vs h1 (Nat.lt_of_lt_of_le h2 hb.size) h3 (fun j y hy=>hb.cell (h4 j y hy)) ih
 | mpN t=>exact .mpN t
 | mp t ks fs blk es cl h1 h2 h3 h3' h4 h5 h6=>exact .mp t ks fs blk es cl h1 (Nat.lt_of_lt_of_le h2 hb.size) h3 h3' (hb.same _ _ h4 rfl) h5 h6
def Cx.at (c:Cx) (w':World):Cx:={ c with w:=w' }
theorem OR.book {c:Cx} {w':World} {x:AV} {v:Value} (h:OR c x v) (hb:Books c.w w'):OR (c.at w') x v:=by
 induction h with
 | undef v=>exact .undef v
 | cl h=>exact .cl (h.book hb)
 | ownN o t h=>exact .ownN o t h
 | own o t off n k cp arr e h1 h2 h3 h4=>exact .own o t off n k cp arr e h1 (hb.same _ _ h2 rfl) h3 h4
 | ptr o r p k d h1 h2=>exact .ptr o r p k d h1 h2
 | fn f cs vs h1 _ ih=>exact .fn f cs vs h1 ih
theorem VR1.book {c:Cx} {w':World} {x:AV} {v:Value} (h:VR1 c x v) (hb:Books c.w w'):VR1 (c.at w') x v:=by
 cases x with
 | st t fs=>obtain⟨vs,e,hc,hF⟩:=h;exact⟨vs,e,hc,hF.1,fun i y u hy hu=>(hF.2 i y u hy hu).book hb⟩
 | ar t es=>obtain⟨vs,e,hc,hF⟩:=h;exact⟨vs,e,hc,hF.1,fun i y u hy hu=>(hF.2 i y u hy hu).book hb⟩
 | tup _=>exact h.elim
 | _=>exact OR.book h hb
theorem VR.book {c:Cx} {w':World} {x:AV} {v:Value} (h:VR c x v) (hb:Books c.w w'):VR (c.at w') x v:=by
 cases x with
 | tup xs=>obtain⟨vs,e,hF⟩:=h;exact⟨vs,e,hF.1,fun i y u hy hu=>(hF.2 i y u hy hu).book hb⟩
 | _=>exact VR_one (VR1.book (show VR1 c _ v from h) hb)
theorem ObR.book {c:Cx} {w':World} {o:Nat} {b:Obj} (h:ObR c o b) (hb:Books c.w w'):ObR (c.at w') o b:=by
 obtain⟨h1,h2⟩:=h;refine⟨h1,?_⟩;show match c.β o with | none=>_ | some k=>_
 split
 ·rename_i hn;rw[hn] at h2;exact h2
 ·rename_i k hk;rw[hk] at h2;obtain⟨q,arr,e,h3,h4⟩:=h2;refine⟨q,arr,e,hb.same _ _ h3 rfl,fun j x hx=>?_⟩;obtain⟨v,h5,h6⟩:=h4 j x hx;refine⟨v,h5,?_⟩;unfold cellR at h6 ⊢;split at h6
  ·exact h6.book hb
  ·exact h6.book hb
  ·exact h6.book hb
variable {E:Env} {w0 w w':World} {σ:St} {a:Act} {β:Nat→Option Nat}
theorem Sim.book (h:Sim E w0 σ a w β) (hb:Books w w') (hlow:∀ k,k < w0.heap.size→w'.heap[k]? = w.heap[k]?) {ds:List Deferred} (hds:Marks w0.heap.size ds w'):Sim E w0 σ { tmps:=a.tmps,defers:=ds } w' β where
 below:=h.below.trans ⟨hb.os,hb.tape,hb.output,hb.size,fun k hk _=>hlow k hk,fun b arr e hk=>⟨arr,hb.same _ _ hk rfl,rfl⟩⟩
 size:=h.size
 defers:=hds
 tms:=fun t x hx=>⟨(h.tms t x hx).1,(h.tms t x hx).2.book (c:=cxOf E w0 σ w β) hb⟩
 obs:=fun o b ho=>(h.obs o b ho).book (c:=cxOf E w0 σ w β) hb
 inj:=h.inj
theorem leaves_marks {P:Program} {fn:Func} {R:Ending→World→Prop} {tm:Array Value} {n:Nat}:∀ (ds:List Deferred) (w:World),Sim E w0 σ { tmps:=tm,defers:=ds } w β→
 (∀ w2,Sim E w0 σ { tmps:=tm,defers:=[] } w2 β→∃ v,(results fn tm).run P w2 = .ok v w2∧R (.returned v) w2)→LeavesInM Fence.wide n P fn tm R ds .returning w
 | [],w,h,hk=>hk w h
 | d::ds,w,h,hk=>by
   obtain⟨D,e1,e2,e3⟩:=h.defers.1 d (List.mem_cons_self ..);subst e1;refine⟨by simp,.inl ⟨D,w.putObj D (.deferred none),rfl,run_takeDeferred e3,?_⟩⟩;refine leaves_marks ds _ ?_ hk;have hB:=Books.put (w:=w) e3 rfl (.deferred none);refine h.book hB (fun k hk=>World.putObj_heap_other (by omega)) ⟨fun d hd=>?_,(List.pairwise_cons.1 h.defers.2).2⟩;obtain⟨D',q1,q2,q3⟩:=h.defers.1 d (List.mem_cons_of_mem _ hd);refine⟨D',q1,q2,?_⟩;rw[World.putObj_heap_other]
   ·exact q3
   ·rintro rfl;exact (List.pairwise_cons.1 h.defers.2).1 d hd q1.symm
end Go.Abs
end
section
namespace Go.Abs
open Go Go.RowKit
section
variable {P:Program} {E:Env} {w0 w:World} {σ:St} {a:Act} {β:Nat→Option Nat}
def leafH (c:Cx) (A:Nat→Prop) (z z':AV):Prop:=∀ v,OR c z v→LR c.ty c.w (backOk c.base A (frOf z')) z' v
theorem handL_get {ty:Tys} {ob:List (Nat × Obj)}:∀ (k:Nat) (fs gs:List AV),hand.handL ty ob k fs=some gs→gs.length=fs.length∧
 ∀ (i:Nat) (x:AV),fs[i]? = some x→∃ k' y,k' < k∧gs[i]? = some y∧hand ty ob k' x=some y
 | 0,fs,gs,h=>by cases fs <;> simp[hand.handL] at h
 | k+1,[],gs,h=>by simp[hand.handL] at h;subst h;simp
 | k+1,x::r,gs,h=>by
   simp only[hand.handL] at h;obtain⟨y,h1,h2⟩:=obind_eq h;obtain⟨l,h3,h4⟩:=obind_eq h2;injection h4 with h4;subst h4
   obtain⟨e1,e2⟩:=handL_get k r l h3;refine⟨by simp[e1],fun i z hz=>?_⟩;cases i with
   | zero=>simp at hz;subst hz;exact⟨k,y,Nat.lt_succ_self _,rfl,h1⟩
   | succ i=>
     obtain⟨k',y',h5,h6,h7⟩:=e2 i z (by simpa using hz);exact⟨k',y',by omega,by simpa using h6,h7⟩
theorem LR.back {w w':World} {σ:St} {β:Nat→Option Nat} {x:AV} {v:Value} {fr:Bool} (h:LR E.ty w ((cxOf E w0 σ w β).okb fr) x v):LR E.ty w (backOk (lowOf E.lo w0.heap.size) E.okA fr) x v:=
 h.mono fun b hb hl=>⟨⟨hb.2,by
  by_cases h1:w0.heap.size≤b
  ·exact .inl (Nat.le_trans (lowOf_le _ _) h1)
  ·refine .inr (Classical.byContradiction fun h2=>hb.1 (.inl ⟨by omega,h2⟩))⟩,hl,rfl⟩
theorem LR.scal {σ:St} {β:Nat→Option Nat} {x:AV} {v:Value} (h:OR (cxOf E w0 σ w β) x v) (hx:∀ o t i n,x ≠ .own o t i n) (hp:∀ o r p,x ≠ .ptr o r p) (hu:x ≠ .undef) (hfn:∀ f cs,x ≠ .fn f cs):LR E.ty w (backOk (lowOf E.lo w0.heap.size) E.okA (frOf x)) x v:=by
 cases h with
 | undef=>exact absurd rfl hu
 | cl h=>exact LR.back (w':=w) h
 | ownN=>exact absurd rfl (hx _ _ _ _)
 | own=>exact absurd rfl (hx _ _ _ _)
 | ptr=>exact absurd rfl (hp _ _ _)
 | fn=>exact absurd rfl (hfn _ _)
theorem hand_ok (hL:∀ k,¬ E.lent k) (hT:Tabs P E.ty) (h:Sim E w0 σ a w β):∀ (n:Nat) (x y:AV),hand E.ty σ.ob n x=some y→TreeOk (cxOf E w0 σ w β) (leafH (cxOf E w0 σ w β) E.okA) x y:=by
 intro n
 induction n using Nat.strongRecOn with
 | _ n ih=>
 intro x y hxy;cases n with
 | zero=>simp[hand] at hxy
 | succ n=>
   cases x with
   | undef=>simp[hand] at hxy
   | tup _=>simp[hand] at hxy
   | ptr o r p=>
     cases r with
     | row _=>simp[hand] at hxy
     | rop _=>simp[hand] at hxy
     | box u0=>
       simp only[hand] at hxy;split at hxy
       ·rename_i b hob;split at hxy
        ·rename_i hbr;split at hxy
         ·rename_i q hq;split at hxy
          ·rename_i u hu;obtain⟨y',h1,h2⟩:=obind_eq hxy;injection h2 with h2;subst h2
           have hqy:=ih n (Nat.lt_succ_self _) q y' h1;refine TreeOk.ofLeaf rfl rfl fun v hv=>?_
           have hOR:VR (cxOf E w0 σ w β) (.ptr o (.box u0) p) v:=hv;obtain⟨kk,dd,e1,e2,e3⟩:=VR.ptr_inv hOR;rw[← hbr] at e3 hu;obtain⟨u',a1,a2,arr,e,a3,a4⟩:=obj_read (h.obs o b hob) e2 hq e3;have hu':u=u':=by
            have:b.r.tyAt E.ty p=some u':=a1;rw[hu] at this;injection this
           subst hu';have hc:=hqy.conf u a2;have hbase:lowOf E.lo w0.heap.size≤kk:=by
            have:=(h.obs o b hob).blk;have e2':β o=some kk:=e2;simp only[cxOf,e2'] at this;exact this.1.elim (Nat.le_trans (lowOf_le _ _)) fun hl=>absurd hl.1 (hL kk)
           have hcell:∀ (j:Nat) (z':AV),(leaves y')[j]? = some z'→∃ v,w.cell? ⟨kk,dd+j,none⟩=some v∧LR E.ty w (backOk (lowOf E.lo w0.heap.size) E.okA (newR y')) z' v:=fun j z' hz=>by
            obtain⟨z,r1,r2⟩:=hqy.all u a2 j z' hz;obtain⟨v,r3,r4⟩:=a4 j z r1;have r5:OR (cxOf E w0 σ w β) z v:=by
             unfold cellR at r4;rw[hbr] at r4;exact r4
            refine⟨v,r3,(r2 v r5).mono fun b hb hl=>⟨⟨fun hf=>hb.1 (newR_leaf hc hf z' (List.mem_of_getElem? hz)),hb.2⟩,hl,rfl⟩⟩
           obtain⟨us,f1,f2⟩:=list_choice (leaves y') (fun j z v=>w.cell? ⟨kk,dd+j,none⟩=some v∧LR E.ty w (backOk (lowOf E.lo w0.heap.size) E.okA (newR y')) z v) hcell;have hus:∀ (j:Nat) (z:AV),(leaves y')[j]? = some z→us[j]? = some (us.getD j undef):=fun j z hz=>by
            have:j < us.length:=by rw[f1];exact (List.getElem?_eq_some_iff.1 hz).1
            simp[this]
           rw[e1];exact .ro (newR y') u y' kk dd (fun j=>us.getD j undef) ⟨fun _=>hbase,.inl hbase⟩ (Array.getElem?_eq_some_iff.1 a3).1 hc (fun j y hy=>(f2 j y _ hy (hus j y hy)).1) (fun j y hy=>(f2 j y _ hy (hus j y hy)).2)
          ·cases hxy
         ·cases hxy
        ·cases hxy
       ·cases hxy
   | fn _ _=>simp[hand] at hxy
   | int kk m=>simp[hand] at hxy;subst hxy;exact .ofLeaf rfl rfl fun v hv=>LR.scal hv (by simp) (by simp) (by simp) (by simp)
   | bool b=>simp[hand] at hxy;subst hxy;exact .ofLeaf rfl rfl fun v hv=>LR.scal hv (by simp) (by simp) (by simp) (by simp)
   | str s=>simp[hand] at hxy;subst hxy;exact .ofLeaf rfl rfl fun v hv=>LR.scal hv (by simp) (by simp) (by simp) (by simp)
   | pnil=>simp[hand] at hxy;subst hxy;exact .ofLeaf rfl rfl fun v hv=>LR.scal hv (by simp) (by simp) (by simp) (by simp)
   | fnil=>simp[hand] at hxy;subst hxy;exact .ofLeaf rfl rfl fun v hv=>LR.scal hv (by simp) (by simp) (by simp) (by simp)
   | sl t fl es=>simp only[hand] at hxy;injection hxy with hxy;subst hxy;exact .ofLeaf rfl rfl fun v hv=>LR.scal hv (by simp) (by simp) (by simp) (by simp)
   | ro f t q=>simp only[hand] at hxy;injection hxy with hxy;subst hxy;exact .ofLeaf rfl rfl fun v hv=>LR.scal hv (by simp) (by simp) (by simp) (by simp)
   | mp t ks fs=>simp only[hand] at hxy;injection hxy with hxy;subst hxy;exact .ofLeaf rfl rfl fun v hv=>LR.scal hv (by simp) (by simp) (by simp) (by simp)
   | ar t es=>
     simp only[hand] at hxy;injection hxy with hxy;subst hxy
     refine⟨fun _ hc=>hc,(fun hl=>by cases hl),fun u hc j z' hz=>⟨z',hz,fun v hv=>?_⟩⟩;have hflat:closed z'=true∧fresh z'=true∧(∀ fr,reflag fr z'=z')∧leafV z'=true:=by
      cases hc with
      | leaf _ _ _ q4=>cases q4
      | ar h1 h2 h3 h4 h5=>
        have hm:=List.mem_of_getElem? hz;simp only[leaves] at hm;obtain⟨q,h6,h7⟩:=mem_leavesL hm;exact flat_leaf _ q (Nat.lt_succ_self _) (h5 q h6) z' h7
     have hfz:frOf z'=true:=by
      have h1:=hflat.2.1;have h2:=hflat.2.2.2;cases z' <;> first | rfl | exact h1 | cases h2
     rw[show leafV z'=true from hflat.2.2.2] at *;have:=LR.back (E:=E) (w':=w) (hv.lr hflat.1 (fr:=true) (fun _=>hflat.2.1));rw[hfz];exact this
   | st t fs=>
     simp only[hand] at hxy;obtain⟨gs,h1,h2⟩:=obind_eq hxy;injection h2 with h2;subst h2
     obtain⟨e1,e2⟩:=handL_get n fs gs h1;have hk:∀ (i:Nat) (x:AV),fs[i]? = some x→∃ y,gs[i]? = some y∧TreeOk (cxOf E w0 σ w β) (leafH (cxOf E w0 σ w β) E.okA) x y:=fun i x hx=>by
      obtain⟨k',y,h0,h3,h4⟩:=e2 i x hx;exact⟨y,h3,ih k' (by omega) x y h4⟩
     have hu:∀ u,Conf E.ty u (.st t fs)→u=t:=fun u hc=>by
      cases hc with
      | leaf _ _ _ q4=>cases q4
      | st _ _ _ _=>rfl
     refine⟨fun u hc=>?_,(fun hl=>by cases hl),fun u hc j z' hz=>?_⟩
     ·have:=hu u hc;subst this;exact (fields_all (c:=cxOf E w0 σ w β) rfl hc e1 hk).1
     ·have:=hu u hc;subst this;exact (fields_all (c:=cxOf E w0 σ w β) rfl hc e1 hk).2 j z' hz
   | own o t i m=>
     simp only[hand] at hxy;split at hxy
     ·rename_i u fr es hob;split at hxy
      ·rename_i hc;obtain⟨c1,c3⟩:=hc;subst c1;injection hxy with hxy;subst hxy
       rw[take_all];refine .ofLeaf rfl rfl fun v hv=>?_
       have hob2:=h.obs o _ hob;have hpos:0 < szOf E.ty t:=hob2.conf.2;refine own_read h hob rfl c3 hpos hv _ (fun k hk=>?_) (fun k hk=>⟨hk.2,?_⟩) _ rfl rfl
       ·have:=hob2.blk;simp only[cxOf,hk] at this;have hb:lowOf E.lo w0.heap.size≤k:=this.1.elim (Nat.le_trans (lowOf_le _ _)) fun hl=>absurd hl.1 (hL k)
        exact⟨fun _=>hb,.inl hb⟩
       ·by_cases h1:w0.heap.size≤k
        ·exact .inl (Nat.le_trans (lowOf_le _ _) h1)
        ·exact .inr (Classical.byContradiction fun h2=>hk.1 (.inl ⟨Nat.lt_of_not_le h1,h2⟩))
      ·cases hxy
     ·cases hxy
theorem hand_sound (hL:∀ k,¬ E.lent k) (hT:Tabs P E.ty) (h:Sim E w0 σ a w β) {k:Nat} {x y:AV} {v:Value} (hxy:hand E.ty σ.ob k x=some y) (hx:VR (cxOf E w0 σ w β) x v):CR1 E.ty w (backOk (lowOf E.lo w0.heap.size) E.okA) y v:=by
 have ok:=hand_ok hL hT h k x y hxy;cases k with
 | zero=>simp[hand] at hxy
 | succ k=>
 have hshape:∀ vs:Array Value,∀ t,Conf E.ty t x→F2 (OR (cxOf E w0 σ w β)) (leaves x) vs.toList→F2 (fun x u=>LR E.ty w (backOk (lowOf E.lo w0.heap.size) E.okA (frOf x)) x u) (leaves y) vs.toList:=fun vs t hc hF=>by
  have hl:(leaves y).length=(leaves x).length:=by rw[(ok.conf t hc).len,Conf.len (ty:=E.ty) hc];rfl
  refine⟨by rw[hl];exact hF.1,fun i z' u hz hu=>?_⟩;obtain⟨z,r1,r2⟩:=ok.all t hc i z' hz;exact r2 u (hF.2 i z u r1 hu)
 cases x with
 | st t fs=>
   obtain⟨vs,e,hc,hF⟩:=hx;simp only[hand] at hxy;obtain⟨gs,h1,h2⟩:=obind_eq hxy;injection h2 with h2;subst h2
   exact⟨vs,e,ok.conf t hc,hshape vs t hc hF⟩
 | ar t es=>
   obtain⟨vs,e,hc,hF⟩:=hx;simp[hand,fresh] at hxy;subst hxy;exact⟨vs,e,hc,hshape vs t hc hF⟩
 | tup _=>simp[hand] at hxy
 | _=>
   obtain⟨h1,h2⟩:=ok.leaf rfl;exact (CR1_leaf h1).2 (h2 v hx)
theorem aget_argTms:∀ (l:List AV) (i t:Nat) (x:AV),aget t (argTms i l)=some x→i≤t∧l[t - i]? = some x
 | [],i,t,x,h=>by simp[argTms,aget] at h
 | y::r,i,t,x,h=>by
   simp only[argTms,aget] at h;split at h
   ·rename_i e;subst e;injection h with h;subst h;simp
   ·obtain⟨h1,h2⟩:=aget_argTms r (i+1) t x h;refine⟨by omega,?_⟩;have:t - i=(t - (i+1))+1:=by omega
    rw[this];simpa using h2
theorem oldL_mem:∀ {l:List AV},oldV.oldL l=true→∀ x ∈ l,oldV x=true
 | [],_,x,h=>by simp at h
 | y::r,hc,x,h=>by
   simp only[oldV.oldL,Bool.and_eq_true] at hc;rcases List.mem_cons.1 h with rfl | h
   ·exact hc.1
   ·exact oldL_mem hc.2 x h
theorem old_or {c:Cx} {A:Nat→Prop} (hm:∀ k,A k→k < c.w.heap.size→¬ c.mu k) {x:AV} {v:Value} (h:LR c.ty c.w A x v) (ho:oldV x=true):OR c x v:=by
 induction h with
 | fn f cs us h1 h2 ih=>exact .fn f cs us h1 fun i y hy=>ih i y hy (oldL_mem (by simpa[oldV] using ho) y (List.mem_of_getElem? hy))
 | int k n=>exact .cl (.int k n)
 | bool b=>exact .cl (.bool b)
 | str s=>exact .cl (.str s)
 | pnil=>exact .cl .pnil
 | fnil=>exact .cl .fnil
 | slN t fl cc h1 h2=>exact .cl (.slN t fl cc h1 h2)
 | sl t fl es blk off cc vs h1 h2 h3 h4 h5 h6 h7 _=>
   refine .cl ((LR.sl t fl es blk off cc vs h1 h2 h3 h4 h5 h6 h7).mono fun b hA hl=>⟨⟨hm b hA hl,fun hf=>?_⟩,hl,rfl⟩);have:fl.fr=true:=hf;simp[oldV,this] at ho
 | ro fr t x blk off vs h1 h2 h3 h4 h5 _=>
   refine .cl ((LR.ro fr t x blk off vs h1 h2 h3 h4 h5).mono fun b hA hl=>⟨⟨hm b hA hl,fun hf=>?_⟩,hl,rfl⟩);have:fr=true:=hf;simp[oldV,this] at ho
 | mpN t=>exact .cl (.mpN t)
 | mp t ks fs blk es cl h1 h2 h3 h4 h5 h6 h7=>simp[oldV] at ho
theorem old_leaf {ty:Tys} {t:TypeId} {x:AV} (hc:Conf ty t x) (ho:oldV x=true):∀ y ∈ leaves x,oldV y=true:=by
 induction hc with
 | leaf _ _ _ h4=>rw[leaves_leaf h4];intro y hy;simp at hy;subst hy;exact ho
 | @st t ts s b z fs h1 h2 h3 h4 ih=>
   simp only[leaves];intro y hy;obtain⟨x,h5,h6⟩:=mem_leavesL hy;obtain⟨i,hi,e⟩:=List.getElem_of_mem h5;have hx':fs[i]? = some x:=by rw[List.getElem?_eq_getElem hi,e]
   obtain⟨u,hu⟩:∃ u,ts[i]? = some u:=⟨ts[i]'(by omega),by rw[List.getElem?_eq_getElem]⟩
   exact ih i x u hx' hu (oldL_mem (by simpa[oldV] using ho) x h5) y h6
 | ar h1 h2 h3 h4 h5 _=>
   simp only[leaves];intro y hy;obtain⟨x,h6,h7⟩:=mem_leavesL hy;have hf:=h5 x h6;have key:∀ (n:Nat) (x:AV),SizeOf.sizeOf x < n→flat x=true→∀ y ∈ leaves x,oldV y=true:=by
    intro n
    induction n with
    | zero=>intro x hx;omega
    | succ n ih=>
      intro x hx hfl y hy;cases x with
      | st t fs=>
        simp only[leaves] at hy;obtain⟨q,q1,q2⟩:=mem_leavesL hy;refine ih q ?_ ((flatL_iff fs).1 (by simpa[flat] using hfl) q q1) y q2;have:=List.sizeOf_lt_of_mem q1;simp at hx;omega
      | int _ _=>simp[leaves] at hy;subst hy;rfl
      | bool _=>simp[leaves] at hy;subst hy;rfl
      | str _=>simp[leaves] at hy;subst hy;rfl
      | _=>simp[flat] at hfl
   exact key _ x (Nat.lt_succ_self _) hf y h7
theorem sim_start {vs:List Value} {args:List AV} (hn:args.length≤E.n) (ho:oldV.oldL args=true) (hv:F2 (CR1 E.ty w fun _=>E.okA) args vs) :
 Sim E w ⟨argTms 0 args,[]⟩ { tmps:=vs.toArray++Array.replicate (E.n - vs.toArray.size) undef,defers:=[] } w (fun _=>none) where
 below:= .refl _ _ _
 size:=by have:=hv.1;simp;omega
 defers:=Marks.nil _ _
 tms:=fun t x hx=>by
  obtain⟨_,h2⟩:=aget_argTms args 0 t x hx;rw[Nat.sub_zero] at h2;have hlt:t < args.length:=(List.getElem?_eq_some_iff.1 h2).1;have hl:=hv.1;have e1:vs[t]? = some vs[t]:=by simp[show t < vs.length by omega]
  have hx1:=hv.2 t x _ h2 e1;have hold:=oldL_mem ho x (List.mem_of_getElem? h2);have hget:(vs.toArray++Array.replicate (E.n - vs.toArray.size) undef).getD t undef=vs[t]:=by
   rw[Array.getD_eq_getD_getElem?,Array.getElem?_append_left (by simp;omega)];simp[show t < vs.length by omega]
  refine⟨by omega,?_⟩;show VR _ x ((vs.toArray++Array.replicate (E.n - vs.toArray.size) undef).getD t undef);rw[hget];have hm:∀ k,E.okA k→k < (cxOf E w ⟨argTms 0 args,[]⟩ w (fun _=>none)).w.heap.size→¬ (cxOf E w ⟨argTms 0 args,[]⟩ w (fun _=>none)).mu k:=fun k hA _ hmu=>hmu.elim (fun z=>z.2 hA) fun⟨o,b,hb,_⟩=>by simp[aget] at hb
  generalize vs[t]=v at hx1;refine VR_one ?_;cases x with
  | st u fs=>obtain⟨us,e,hc,hF⟩:=hx1;exact⟨us,e,hc,hF.1,fun i y z hy hz=>old_or hm (hF.2 i y z hy hz) (old_leaf hc hold y (List.mem_of_getElem? hy))⟩
  | ar u fs=>obtain⟨us,e,hc,hF⟩:=hx1;exact⟨us,e,hc,hF.1,fun i y z hy hz=>old_or hm (hF.2 i y z hy hz) (old_leaf hc hold y (List.mem_of_getElem? hy))⟩
  | tup _=>exact hx1.elim
  | _=>exact old_or hm hx1 hold
 obs:=fun o b hb=>by simp[aget] at hb
 inj:=fun o o' b b' k hb=>by simp[aget] at hb
theorem run_result (hT:Tabs P E.ty) (h:Sim E w0 σ a w β) {r:ResultVar} {x:AV} (hr:aresOf E σ r=some x) :
 ∃ v,(match r with | .tmp t=>(pure (a.tmps.getD t undef):Sem Value) | .cell q t=>(do loadVar t (← asAddr (a.tmps.getD q undef)))).run P w = .ok v w∧VR (cxOf E w0 σ w β) x v:=by
 cases r with
 | tmp t=>exact⟨_,rfl,(h.tms t x hr).2⟩
 | cell q t=>
   simp only[aresOf] at hr;obtain⟨y,h1,h2⟩:=obind_eq hr;have hq:=(h.tms q y h1).2;split at h2
   ·rename_i o r p;obtain⟨k,dd,e1,e2,e3⟩:=VR.ptr_inv hq;split at h2
    ·rename_i b hb;split at h2
     ·rename_i hbr;obtain⟨v,h3,h4⟩:=obind_eq h2;split at h4
      ·rename_i hfit;injection h4 with h4;subst h4
       subst hbr;obtain⟨u,a1,a2,arr,e,a3,a4⟩:=obj_read (h.obs o b hb) e2 h3 e3;have a5:=fits_conf2 hT.ok hfit a2;obtain⟨val,r1,r2⟩:=run_loadVar_ty hT.ok (w:=w) a5 a4;refine⟨val,?_,?_⟩
       ·simp only[Sem.run_bind,e1,asAddr,Sem.run_pure,Result.andThen_ok];exact r1
       ·refine VR1.vr ?_;unfold Obj.seen;unfold cellR at r2;cases hbr:b.r with
        | box tt=>simp only[hbr] at r2;exact AR.vr1 a5 r2
        | row tt=>simp only[hbr] at r2;exact AR.re a5 r2
        | rop tt=>simp only[hbr] at r2;exact AR.vr1 a5 r2
      ·cases h4
     ·cases h2
    ·cases h2
   ·cases h2
theorem run_results (hT:Tabs P E.ty) (h:Sim E w0 σ a w β):∀ (rs:List ResultVar) (xs:List AV),aresults E σ rs=some xs→
 ∃ vs:List Value,(rs.mapM (m:=Sem) fun (r:ResultVar)=>(match r with | .tmp t=>(pure (a.tmps.getD t undef):Sem Value) | .cell q t=>(do loadVar t (← asAddr (a.tmps.getD q undef))):Sem Value)).run P w = .ok vs w∧F2 (VR (cxOf E w0 σ w β)) xs vs
 | [],xs,hr=>by simp[aresults] at hr;subst hr;exact⟨[],rfl,rfl,fun i x v hx=>by simp at hx⟩
 | r::rs,xs,hr=>by
   simp only[aresults] at hr;obtain⟨x,h1,h2⟩:=obind_eq hr;obtain⟨l,h3,h4⟩:=obind_eq h2;injection h4 with h4;subst h4
   obtain⟨v,r1,r2⟩:=run_result hT h h1;obtain⟨vs,r3,r4⟩:=run_results hT h rs l h3;refine⟨v::vs,?_,by simp[r4.1],fun i y u hy hu=>?_⟩
   ·simp only[List.mapM_cons,Sem.run_bind];rw[r1];simp only[Result.andThen_ok];rw[r3];rfl
   ·cases i with
    | zero=>simp at hy hu;subst hy;subst hu;exact r2
    | succ i=>exact r4.2 i y u (by simpa using hy) (by simpa using hu)
theorem ret_one (hL:∀ k,¬ E.lent k) (hlo:E.lo=none) (hT:Tabs P E.ty) (hC:CSound P E) {f:FuncId} {fn:Func} {c:Code} {H:Nat→Hint} {k:Nat} {args:List AV} {r:AV} (hf:P.funcs[f]? = some fn) (hn:fn.ntmps=E.n) (hb:fn.body=some c)
 (ha:args.length≤E.n) (hd:Draws P E c) (hr:acall E H k fn args=some r) (w:World) (vs:List Value) (hvs:F2 (CR1 E.ty w fun _=>E.okA) args vs) (hG:GlobOk E w) :
 Calls P f vs.toArray w fun e w'=>∃ v,e = .returned v∧Below w.heap.size w w'∧CR E.ty w' (backOk w.heap.size E.okA) r v:=by
 simp only[acall,hb] at hr;split at hr
 ·rename_i ho;refine callsIn_wide.1 (callsIn_of_wp_marks (n:=0) hf hb trivial (wpIn_wide.2 ?_) rfl);have hS:=sim_start ha ho hvs;rw[hn];have done:∀ (e:AX) (σ':St),arun E H k c ⟨argTms 0 args,[]⟩=some (e,σ')→(e = .norm∨e = .ret)→(obind (aresults E σ' fn.results.toList) fun vs=>obind (hand.handL E.ty σ'.ob 30 vs) fun vs=>some (one vs))=some r→
   c.wp P (bodyPostM Fence.wide 0 P fn fun e w'=>∃ v,e = .returned v∧Below w.heap.size w w'∧CR E.ty w' (backOk w.heap.size E.okA) r v) { tmps:=vs.toArray++Array.replicate (E.n - vs.toArray.size) undef,defers:=[] } w:=fun e σ' h1 he h2=>by
   refine wp_mono (arun_sound (fun _=>hL) hT hC hG c _ σ' e hd h1 _ w _ hS) fun e' a' w' hp=>?_
   obtain⟨hex,β',hS'⟩:=hp;have fin:LeavesInM Fence.wide 0 P fn a'.tmps (fun e w'=>∃ v,e = .returned v∧Below w.heap.size w w'∧CR E.ty w' (backOk w.heap.size E.okA) r v) a'.defers .returning w':=by
    refine leaves_marks a'.defers w' hS' fun w' hS'=>?_
    obtain⟨xs,h3,h4⟩:=obind_eq h2;obtain⟨ys,h5,h6⟩:=obind_eq h4;injection h6 with h6;subst h6
    obtain⟨us,r1,r2⟩:=run_results hT hS' fn.results.toList xs h3;obtain⟨e1,e2⟩:=handL_get 30 xs ys h5;have hys:F2 (CR1 E.ty w' (backOk w.heap.size E.okA)) ys us:=by
     refine⟨by rw[e1];exact r2.1,fun i y u hy hu=>?_⟩;have hi:i < xs.length:=by rw[← e1];exact (List.getElem?_eq_some_iff.1 hy).1
     obtain⟨_,y',_,q1,q2⟩:=e2 i xs[i] (by simp[hi]);rw[hy] at q1;injection q1 with q1;subst q1
     have:=hand_sound hL hT hS' q2 (r2.2 i xs[i] u (by simp[hi]) hu);rw[hlo] at this;exact this
    refine⟨if h:us.toArray.size=1 then us.toArray[0] else .tuple us.toArray,?_,_,rfl,hS'.below.plain fun k hk=>hL k hk.1,?_⟩
    ·unfold results;rw[Array.mapM_eq_mapM_toList];simp only[Sem.run_bind,Sem.run_map];exact congrArg (fun (z:Result (List Value))=>(z.andThen fun a w'=>Result.ok a.toArray w').andThen fun a w'=>Sem.run P (pure (if h:a.size=1 then a[0] else Value.tuple a)) w') r1
    ·have tupc:∀ (hlen:ys.length ≠ 1),CR E.ty w' (backOk w.heap.size E.okA) (one ys) (.tuple us.toArray):=fun hlen=>by
      have:one ys = .tup ys:=by
       match ys,hlen with
       | [],_=>rfl
       | [_],h=>exact absurd rfl h
       | _::_::_,_=>rfl
      rw[this];exact⟨us.toArray,rfl,by simpa using hys⟩
     by_cases hlen:us.toArray.size=1
     ·rw[dif_pos hlen];have h1:us.length=1:=by simpa using hlen
      match us,ys,h1,hys with
      | [u],[y],_,hys=>exact CR_one (hys.2 0 y u rfl rfl)
      | [u],[],_,hys=>exact absurd hys.1 (by simp)
      | [u],_::_::_,_,hys=>exact absurd hys.1 (by simp)
     ·rw[dif_neg hlen];refine tupc ?_;rw[hys.1];simpa using hlen
   subst hex;rcases he with he | he <;> subst he <;> exact fin
  unfold finish at hr;split at hr
  ·rename_i σ' h1;exact done _ σ' h1 (.inl rfl) hr
  ·rename_i σ' h1;exact done _ σ' h1 (.inr rfl) hr
  ·cases hr
 ·cases hr
theorem ret_of_acall {Ef:(Nat→Prop)→Env} {ty:Tys} {G:Globs} (hA:∀ A,(Ef A).okA=A) (hty:∀ A,(Ef A).ty=ty) (hGl:∀ A,(Ef A).G=G) (hT:Tabs P ty) (hC:∀ A,CSound P (Ef A)) {f:FuncId} {fn:Func} {c:Code} {H:Nat→Hint} {k:Nat} {args:List AV} {r:AV}
 (hf:P.funcs[f]? = some fn) (hn:∀ A,fn.ntmps=(Ef A).n) (hb:fn.body=some c) (ha:args.length≤fn.ntmps) (hd:∀ A,Draws P (Ef A) c) (hr:∀ A,acall (Ef A) H k fn args=some r) (hL:∀ A k,¬ (Ef A).lent k:=by intro _ _ h;exact h) (hlo:∀ A,(Ef A).lo=none:=by intro _;rfl):Ret P ty G f args r:=by
 intro A w vs hvs hG;have:=ret_one (E:=Ef A) (hL A) (hlo A) (by rw[hty];exact hT) (hC A) hf (hn A) hb (by rw[← hn A];exact ha) (hd A) (hr A) w vs (by rw[hty,hA];exact hvs) (fun g t x hg=>by rw[hty,hA];exact hG g t x (by rw[← hGl A];exact hg));rw[hty,hA] at this;exact this
theorem VR.one1 {c:Cx} {x:AV} {v:Value} (h:VR c x v) (hx:noTup x=true):VR1 c x v:=by
 cases x <;> first | exact h | cases hx
theorem retm_one (hZ:∀ id,E.Z id=[]) (hT:Tabs P E.ty) (hC:CSound P E) {f:FuncId} {fn:Func} {c:Code} {H:Nat→Hint} {k:Nat} {args:List AV} {ob:List (Nat × Obj)} {r:AV} {ob':List (Nat × Obj)} (hf:P.funcs[f]? = some fn) (hn:fn.ntmps=E.n) (hb:fn.body=some c)
 (ha:args.length≤E.n) (hd:Draws P E c) (hr:macall E H k fn args ob=some (r,ob')) (w:World) (β:Nat→Option Nat) (vs:List Value)
 (hobs:∀ o b,aget o ob=some b→ObR (mcx E.ty E.lo E.okA E.lent w.heap.size ob w β) o b) (hinj:Inj ob β) (hvs:F2 (VR (mcx E.ty E.lo E.okA E.lent w.heap.size ob w β)) args vs) (hG:GlobOk E w) :
 Calls P f vs.toArray w fun e w'=>∃ v β',e = .returned v∧BelowL (fun k=>E.lent k∧¬ E.okA k) w.heap.size w w'∧
  (∀ o b,aget o ob'=some b→ObR (mcx E.ty E.lo E.okA E.lent w.heap.size ob' w' β') o b)∧Inj ob' β'∧VR (mcx E.ty E.lo E.okA E.lent w.heap.size ob' w' β') r v:=by
 unfold macall at hr;rw[hb] at hr;dsimp only at hr;refine callsIn_wide.1 (callsIn_of_wp_marks (n:=0) hf hb trivial (wpIn_wide.2 ?_) rfl);have hS:Sim E w ⟨argTms 0 args,ob⟩ { tmps:=vs.toArray++Array.replicate (E.n - vs.toArray.size) undef,defers:=[] } w β:={
  below:= .refl _ _ _
  size:=by have:=hvs.1;simp;omega
  defers:=Marks.nil _ _
  tms:=fun t x hx=>by
   obtain⟨_,h2⟩:=aget_argTms args 0 t x hx;rw[Nat.sub_zero] at h2;have hlt:t < args.length:=(List.getElem?_eq_some_iff.1 h2).1;have hl:=hvs.1;have e1:vs[t]? = some vs[t]:=by simp[show t < vs.length by omega]
   have hx1:=hvs.2 t x _ h2 e1;have hget:(vs.toArray++Array.replicate (E.n - vs.toArray.size) undef).getD t undef=vs[t]:=by
    rw[Array.getD_eq_getD_getElem?,Array.getElem?_append_left (by simp;omega)];simp[show t < vs.length by omega]
   refine⟨by omega,?_⟩;show VR _ x ((vs.toArray++Array.replicate (E.n - vs.toArray.size) undef).getD t undef);rw[hget];exact hx1
  obs:=hobs
  inj:=hinj }
 rw[hn];have done:∀ (e:AX) (σ':St),arun E H k c ⟨argTms 0 args,ob⟩=some (e,σ')→(e = .norm∨e = .ret)→resultsM E fn.results.toList σ'=some (r,ob')→
  c.wp P (bodyPostM Fence.wide 0 P fn fun e w'=>∃ v β',e = .returned v∧BelowL (fun k=>E.lent k∧¬ E.okA k) w.heap.size w w'∧
  (∀ o b,aget o ob'=some b→ObR (mcx E.ty E.lo E.okA E.lent w.heap.size ob' w' β') o b)∧Inj ob' β'∧VR (mcx E.ty E.lo E.okA E.lent w.heap.size ob' w' β') r v) { tmps:=vs.toArray++Array.replicate (E.n - vs.toArray.size) undef,defers:=[] } w:=fun e σ' h1 he h2=>by
  refine wp_mono (arun_sound (fun⟨id,hne⟩=>absurd (hZ id) hne) hT hC hG c _ σ' e hd h1 _ w _ hS) fun e' a' w' hp=>?_
  obtain⟨hex,β',hS'⟩:=hp;have fin:LeavesInM Fence.wide 0 P fn a'.tmps (fun e w'=>∃ v β',e = .returned v∧BelowL (fun k=>E.lent k∧¬ E.okA k) w.heap.size w w'∧
   (∀ o b,aget o ob'=some b→ObR (mcx E.ty E.lo E.okA E.lent w.heap.size ob' w' β') o b)∧Inj ob' β'∧VR (mcx E.ty E.lo E.okA E.lent w.heap.size ob' w' β') r v) a'.defers .returning w':=by
   refine leaves_marks a'.defers w' hS' fun w' hS'=>?_
   unfold resultsM at h2;obtain⟨xs,h3,h4⟩:=obind_eq h2;obtain⟨ob2,h5,h6⟩:=obind_eq h4;split at h6;rotate_left
   ·cases h6
   rename_i hall;injection h6 with h6;injection h6 with h6 h7;subst h6;subst h7
   obtain⟨us,r1,r2⟩:=run_results hT hS' fn.results.toList xs h3;have hget:=pick_get (ob:=σ'.ob) _ _ h5;have m:Mono (cxOf E w σ' w' β') (mcx E.ty E.lo E.okA E.lent w.heap.size ob2 w' β'):={
    ty:=rfl,base:=rfl,new:=rfl,size:=Nat.le_refl _
    keep:=fun b hb2 hl=>⟨fun hmu=>hmu.elim (fun z=>hb2 (.inl z)) fun⟨o,y,q1,q2⟩=>hb2 (.inr ⟨o,y,hget o y q1,q2⟩),rfl⟩
    rows:=fun b arr e hb2=>⟨arr,hb2,rfl⟩ }
   have hys:F2 (VR1 (mcx E.ty E.lo E.okA E.lent w.heap.size ob2 w' β')) xs us:=⟨r2.1,fun i y u hy hu=>m.vr1 ((r2.2 i y u hy hu).one1 (List.all_eq_true.1 hall y (List.mem_of_getElem? hy))) fun _ _=>rfl⟩
   refine⟨if h:us.toArray.size=1 then us.toArray[0] else .tuple us.toArray,?_,_,β',rfl,hS'.below,fun o b ho=>m.obR (hS'.obs o b (hget o b ho)) (fun _ _=>rfl) rfl fun _ _=>rfl,fun o o' b b' k q1 q2=>hS'.inj o o' b b' k (hget o b q1) (hget o' b' q2),?_⟩
   ·unfold results;rw[Array.mapM_eq_mapM_toList];simp only[Sem.run_bind,Sem.run_map];exact congrArg (fun (z:Result (List Value))=>(z.andThen fun a w'=>Result.ok a.toArray w').andThen fun a w'=>Sem.run P (pure (if h:a.size=1 then a[0] else Value.tuple a)) w') r1
   ·have tupc:∀ (hlen:xs.length ≠ 1),VR (mcx E.ty E.lo E.okA E.lent w.heap.size ob2 w' β') (one xs) (.tuple us.toArray):=fun hlen=>by
     have:one xs = .tup xs:=by
      match xs,hlen with
      | [],_=>rfl
      | [_],h=>exact absurd rfl h
      | _::_::_,_=>rfl
     rw[this];exact⟨us.toArray,rfl,by simpa using hys⟩
    by_cases hlen:us.toArray.size=1
    ·rw[dif_pos hlen];have h1:us.length=1:=by simpa using hlen
     match us,xs,h1,hys with
     | [u],[y],_,hys=>exact VR_one (hys.2 0 y u rfl rfl)
     | [u],[],_,hys=>exact absurd hys.1 (by simp)
     | [u],_::_::_,_,hys=>exact absurd hys.1 (by simp)
    ·rw[dif_neg hlen];refine tupc ?_;rw[hys.1];simpa using hlen
  subst hex;rcases he with he | he <;> subst he <;> exact fin
 unfold finishM at hr;split at hr
 ·rename_i σ' h1;exact done _ σ' h1 (.inl rfl) hr
 ·rename_i σ' h1;exact done _ σ' h1 (.inr rfl) hr
 ·cases hr
theorem retm_of_macall {Ef:Option Nat→(Nat→Prop)→(Nat→Prop)→Env} {ty:Tys} {G:Globs} (hlo:∀ l A L,(Ef l A L).lo=l) (hA:∀ l A L,(Ef l A L).okA=A) (hL:∀ l A L,(Ef l A L).lent=L) (hty:∀ l A L,(Ef l A L).ty=ty) (hGl:∀ l A L,(Ef l A L).G=G)
 (hT:Tabs P ty) (hC:∀ l A L,CSound P (Ef l A L)) {f:FuncId} {fn:Func} {c:Code} {H:Nat→Hint} {k:Nat} {args:List AV} {ob:List (Nat × Obj)} {r:AV} {ob':List (Nat × Obj)}
 (hf:P.funcs[f]? = some fn) (hn:∀ l A L,fn.ntmps=(Ef l A L).n) (hb:fn.body=some c) (ha:args.length≤fn.ntmps) (hd:∀ l A L,Draws P (Ef l A L) c) (hr:∀ l A L,macall (Ef l A L) H k fn args ob=some (r,ob')) (hZ:∀ l A L id,(Ef l A L).Z id=[]:=by intro _ _ _ _;rfl):RetM P ty G f args ob r ob':=by
 intro lo A L w β vs hobs hinj hvs hG;have:=retm_one (E:=Ef lo A L) (hZ lo A L) (by rw[hty];exact hT) (hC lo A L) hf (hn lo A L) hb (by rw[← hn lo A L];exact ha) (hd lo A L) (hr lo A L) w β vs (by rw[hty,hlo,hA,hL];exact hobs) hinj (by rw[hty,hlo,hA,hL];exact hvs)
  (fun g t x hg=>by rw[hty,hA];exact hG g t x (by rw[← hGl lo A L];exact hg))
 rw[hty,hlo,hA,hL] at this;exact this
end
end Go.Abs
end
section
namespace Go.Abs
open Go Go.RowKit
def fieldsOk (ty:Tys):Nat→List TypeId→List Field→Bool
 | _,[],[]=>true
 | o,t::ts,f::fs=>f.type==t&&f.offset==o&&fieldsOk ty (o+szOf ty t) ts fs
 | _,_,_=>false
theorem fieldsOk_get {ty:Tys}:∀ (ts:List TypeId) (fs:List Field) (o:Nat),fieldsOk ty o ts fs=true→fs.length=ts.length∧
 ∀ (i:Nat) (f:Field),fs[i]? = some f→ts[i]? = some f.type∧f.offset=o+((ts.take i).map (szOf ty)).sum
 | [],[],o,_=>⟨rfl,fun i f h=>by simp at h⟩
 | [],_::_,o,h=>by simp[fieldsOk] at h
 | _::_,[],o,h=>by simp[fieldsOk] at h
 | t::ts,f::fs,o,h=>by
   simp only[fieldsOk,Bool.and_eq_true,beq_iff_eq] at h;obtain⟨⟨h1,h2⟩,h3⟩:=h;obtain⟨e1,e2⟩:=fieldsOk_get ts fs _ h3;refine⟨by simp[e1],fun i g hg=>?_⟩;cases i with
   | zero=>simp at hg;subst hg;simp[h1,h2]
   | succ i=>
     obtain⟨a,b⟩:=e2 i g (by simpa using hg);refine⟨by simpa using a,?_⟩;simp only[List.take_succ_cons,List.map_cons,List.sum_cons];omega
def descOk (ty:Tys) (k:TK) (d:TypeDesc):Bool:=
 match k,d with
 | .int k,.int k'=>k==k'
 | .bool,.bool=>true
 | .str,.string=>true
 | .slice e,.slice e'=>e==e'&&decide (0 < szOf ty e)
 | .struct ts,.struct fs=>fieldsOk ty 0 ts fs.toList
 | .array n e,.array n' e'=>n==n'&&e==e'
 | .ptr e,.pointer e'=>e==e'
 | .func,.func _ _ _=>true
 | .map k e,.map k' e'=>k==k'&&e==e'
 | _,_=>false
theorem kind_of_desc {P:Program} {ty:Tys} {t:TypeId} {D:TyD} {d:TypeDesc} (hu:P.underlying t=some d) (h:descOk ty D.k d=true):kindOk P ty t D:=by
 unfold kindOk;unfold descOk at h;cases hk:D.k <;> cases d <;> simp only[hk] at h ⊢ <;> try (cases h)
 ·simp at h;subst h;exact hu
 ·exact hu
 ·exact hu
 ·simp at h;obtain⟨h1,h2⟩:=h;subst h1;exact⟨hu,h2⟩
 ·rename_i ts fs;obtain⟨e1,e2⟩:=fieldsOk_get ts fs.toList 0 h;refine⟨fs,hu,by simpa using e1,fun i f hf=>?_⟩;obtain⟨a,b⟩:=e2 i f (by rw[Array.getElem?_toList];exact hf);exact⟨a,by simpa using b⟩
 ·simp at h;obtain⟨h1,h2⟩:=h;subst h1;subst h2;exact hu
 ·simp at h;subst h;exact hu
 ·exact⟨_,_,_,hu⟩
 ·simp at h;obtain⟨h1,h2⟩:=h;subst h1;subst h2;exact hu
def zeroOk:List AV→List Value→Bool
 | [],[]=>true
 | .int k n::r,.int k' n'::s=>k==k'&&n==n'&&zeroOk r s
 | .bool b::r,.bool b'::s=>b==b'&&zeroOk r s
 | .str a::r,.string b::s=>a.data.toList==b.data.toList&&zeroOk r s
 | .sl _ fl []::r,.slice none 0 0::s=>(match fl.nil with | some true=>true | _=>false)&&zeroOk r s
 | .pnil::r,.pointer none::s=>zeroOk r s
 | .fnil::r,.nilFunc::s=>zeroOk r s
 | .mp _ [] []::r,.map none::s=>zeroOk r s
 | _,_=>false
theorem F2_cons {R:AV→Value→Prop} {x:AV} {v:Value} {xs:List AV} {vs:List Value} (h:R x v) (hs:F2 R xs vs):F2 R (x::xs) (v::vs):=
 ⟨by simp[hs.1],fun i y u hy hu=>by
   cases i with
   | zero=>simp at hy hu;subst hy;subst hu;exact h
   | succ i=>exact hs.2 i y u (by simpa using hy) (by simpa using hu)⟩
theorem zeroOk_sound {ty:Tys}:∀ (xs:List AV) (vs:List Value),zeroOk xs vs=true→F2 (fun x v=>∀ (w:World) (okb:Nat→Prop),LR ty w okb x v) xs vs:=by
 intro xs vs
 fun_induction zeroOk xs vs with
 | case1=>intro _;exact⟨rfl,fun i x v hx=>by simp at hx⟩
 | case2 k n r k' n' s ih=>
   intro h;simp only[Bool.and_eq_true,beq_iff_eq] at h;obtain⟨⟨h1,h2⟩,h3⟩:=h;subst h1;subst h2;exact F2_cons (fun w okb=> .int _ _) (ih h3)
 | case3 b r b' s ih=>
   intro h;simp only[Bool.and_eq_true,beq_iff_eq] at h;obtain⟨h1,h2⟩:=h;subst h1;exact F2_cons (fun w okb=> .bool _) (ih h2)
 | case4 a r b s ih=>
   intro h;simp only[Bool.and_eq_true,beq_iff_eq] at h;obtain⟨h1,h2⟩:=h;have:a=b:=by
    cases a;cases b;simp only[ByteArray.mk.injEq];exact Array.toList_inj.1 h1
   subst this;exact F2_cons (fun w okb=> .str _) (ih h2)
 | case5 t fl r s ih=>
   intro h;simp only[Bool.and_eq_true] at h;obtain⟨h1,h2⟩:=h;refine F2_cons (fun w okb=> .slN _ _ _ ?_ rfl) (ih h2);intro hn;rw[hn] at h1;cases h1
 | case6 r s ih=>intro h;exact F2_cons (fun w okb=> .pnil) (ih h)
 | case7 r s ih=>intro h;exact F2_cons (fun w okb=> .fnil) (ih h)
 | case8 t r s ih=>intro h;exact F2_cons (fun w okb=> .mpN t) (ih h)
 | case9=>intro h;cases h
def confB (ty:Tys):Nat→TypeId→AV→Bool
 | 0,_,_=>false
 | n+1,t,x=>match ty t,x with
   | some ⟨.struct ts,s,_,_⟩,.st u fs=>u==t&&s==(ts.map (szOf ty)).sum&&confL ty n ts fs
   | some ⟨.array m e,s,_,_⟩,.ar u es=>u==t&&es.length==m&&s==m * szOf ty e&&es.all (confB ty n e)&&es.all flat
   | some d,x=>isLeaf d.k&&d.size==1&&leafV x
   | none,_=>false
where confL (ty:Tys):Nat→List TypeId→List AV→Bool
 | _,[],[]=>true
 | 0,_,_=>false
 | n+1,t::ts,x::xs=>confB ty n t x&&confL ty n ts xs
 | _,_,_=>false
theorem confB_sound {ty:Tys}:∀ (n:Nat) (t:TypeId) (x:AV),confB ty n t x=true→Conf ty t x:=by
 intro n
 induction n using Nat.strongRecOn with
 | _ n ih=>
   intro t x h;cases n with
   | zero=>simp[confB] at h
   | succ n=>
     simp only[confB] at h;split at h
     ·rename_i ts s b z u fs hty;simp only[Bool.and_eq_true,beq_iff_eq] at h;obtain⟨⟨h1,h2⟩,h3⟩:=h;subst h1;have key:∀ (m:Nat),m≤n→∀ (ts:List TypeId) (xs:List AV),confB.confL ty m ts xs=true→xs.length=ts.length∧∀ (i:Nat) (x:AV) (u:TypeId),xs[i]? = some x→ts[i]? = some u→Conf ty u x:=by
       intro m
       induction m with
       | zero=>
         intro _ ts xs hc;cases ts <;> cases xs <;> simp[confB.confL] at hc ⊢
       | succ m ihm=>
         intro hm ts xs hc;cases ts <;> cases xs <;> simp only[confB.confL,Bool.and_eq_true] at hc <;> try (cases hc)
         ·exact⟨rfl,fun i x u h=>by simp at h⟩
         ·rename_i t0 ts x0 xs hc1 hc2;obtain⟨e1,e2⟩:=ihm (by omega) ts xs hc2;refine⟨by simp[e1],fun i y u hy hu=>?_⟩;cases i with
          | zero=>simp at hy hu;subst hy;subst hu;exact ih m (by omega) _ _ hc1
          | succ i=>exact e2 i y u (by simpa using hy) (by simpa using hu)
      obtain⟨e1,e2⟩:=key n (Nat.le_refl _) ts fs h3;exact .st hty e1 h2 e2
     ·rename_i m e s b z u es hty;simp only[Bool.and_eq_true,beq_iff_eq,List.all_eq_true] at h;obtain⟨⟨⟨⟨h1,h2⟩,h3⟩,h4⟩,h5⟩:=h;subst h1;exact .ar hty h2 h3 (fun x hx=>ih n (Nat.lt_succ_self _) e x (h4 x hx)) h5
     ·rename_i d hty _ _;simp only[Bool.and_eq_true,beq_iff_eq] at h;obtain⟨⟨h1,h2⟩,h3⟩:=h;exact .leaf hty h1 h2 h3
     ·cases h
def noMent:AV→Bool
 | .own ..=>false
 | .ptr ..=>false
 | .fn _ cs=>cs.isEmpty
 | .st _ fs=>noMentL fs
 | .tup _=>false
 | _=>true
where noMentL:List AV→Bool
 | []=>true
 | x::r=>noMent x&&noMentL r
mutual
theorem noMent_sound (o:Nat):∀ (x:AV),noMent x=true→ment o x=false
 | .own ..,h=>by simp[noMent] at h
 | .ptr ..,h=>by simp[noMent] at h
 | .fn _ cs,h=>by simp[noMent] at h;subst h;rfl
 | .st _ fs,h=>by simp only[ment];exact noMentL_sound o fs (by simpa[noMent] using h)
 | .tup _,h=>by simp[noMent] at h
 | .undef,_=>rfl
 | .int _ _,_=>rfl
 | .bool _,_=>rfl
 | .str _,_=>rfl
 | .sl _ _ _,_=>rfl
 | .ro _ _ _,_=>rfl
 | .mp _ _ _,_=>rfl
 | .pnil,_=>rfl
 | .fnil,_=>rfl
 | .ar _ _,_=>rfl
theorem noMentL_sound (o:Nat):∀ (l:List AV),noMent.noMentL l=true→ment.mentL o l=false
 | [],_=>rfl
 | x::r,h=>by
   simp only[noMent.noMentL,Bool.and_eq_true] at h;simp only[ment.mentL,noMent_sound o x h.1,noMentL_sound o r h.2,Bool.or_false]
end
def rowOk (ty:Tys) (t:TypeId) (D:TyD) (u:TypeDesc) (z:Value):Bool:=
 descOk ty D.k u&&zeroOk (leaves D.zero) z.cells.toList&&(isLeaf D.k== !(match z with | .agg _=>true | _=>false))&&confB ty 40 t D.zero&&closed D.zero&&fresh D.zero&&noMent D.zero
theorem tyOk1_of {P:Program} {ty:Tys} {t:TypeId} {D:TyD} {u:TypeDesc} {z:Value} (hu:P.underlying t=some u)
 (hi:(P.info? t).map (fun i=>(i.size,i.bytes,i.zero))=some (D.size,D.bytes,some z)) (h:rowOk ty t D u z=true):TyOk1 P ty t D:=by
 simp only[rowOk,Bool.and_eq_true] at h;obtain⟨⟨⟨⟨⟨⟨h1,h2⟩,h3⟩,h4⟩,h5⟩,h6⟩,h7⟩:=h;obtain⟨i,i1,i2⟩:=Option.map_eq_some_iff.1 hi;simp only[Prod.mk.injEq] at i2;obtain⟨a,b,c⟩:=i2;refine⟨kind_of_desc hu h1,⟨i,z,i1,a,b,c,zeroOk_sound _ _ h2,fun hl=>?_⟩,confB_sound 40 t D.zero h4,fun hl i' z' e1 e2 cs=>?_,h5,h6,fun o=>noMent_sound o _ h7⟩
 ·rw[hl] at h3;cases z <;> first | exact⟨_,rfl⟩ | cases h3
 ·rw[i1] at e1;injection e1 with e1;subst e1
  rw[c] at e2;injection e2 with e2;subst e2
  rw[hl] at h3;rintro rfl;cases h3
theorem aget_mem {α:Type} {t:Nat} {v:α}:∀ {l:List (Nat × α)},aget t l=some v→(t,v) ∈ l
 | [],h=>by simp[aget] at h
 | (u,x)::r,h=>by
   simp only[aget] at h;split at h
   ·rename_i e;subst e;injection h with h;subst h;simp
   ·exact List.mem_cons_of_mem _ (aget_mem h)
def closedTab (l:List (Nat × TyD)):Bool:=
 l.all fun p=>decide (0 < p.2.size)&&(match p.2.k with
  | .struct ts=>ts.all fun u=>(aget u l).isSome
  | .array _ e=>(aget e l).isSome
  | .slice e=>(aget e l).isSome
  | _=>true)
theorem tabs_of {P:Program} {l:List (Nat × TyD)} (hr:∀ p ∈ l,TyOk1 P (fun t=>aget t l) p.1 p.2) (hc:closedTab l=true) (he:(l.all fun p=>match p.2.k with | .struct _=>eqOkT P p.1 | _=>true)=true):Tabs P (fun t=>aget t l):=by
 have hall:=List.all_eq_true.1 hc;have some_of:∀ {u:TypeId},(aget u l).isSome=true→∃ D,aget u l=some D:=fun h=>Option.isSome_iff_exists.1 h
 refine⟨fun t d h=>hr _ (aget_mem h),fun t ts s b z h u hu=>?_,fun t n e s b z h=>?_,fun t D h=>?_,fun t e s b z h=>?_,fun t ts s b z h=>List.all_eq_true.1 he _ (aget_mem h)⟩
 ·have:=hall _ (aget_mem h);simp only[Bool.and_eq_true] at this;exact some_of (List.all_eq_true.1 this.2 u hu)
 ·have:=hall _ (aget_mem h);simp only[Bool.and_eq_true] at this;exact some_of this.2
 ·have:=hall _ (aget_mem h);simp only[Bool.and_eq_true,decide_eq_true_eq] at this;exact this.1
 ·have:=hall _ (aget_mem h);simp only[Bool.and_eq_true] at this;exact some_of this.2
end Go.Abs
end
section
namespace Go.Proofs.Tryd
open Go Go.Abs
set_option maxRecDepth 100000
abbrev gN:Fl:=⟨true,some true,true⟩
abbrev n4:AV:= .st 27 [.sl 36 gN [],.sl 2 gN [],.sl 9 gN [],.sl 38 gN []]
abbrev zF:AV:= .st 94 [.str ⟨#[]⟩,.bool false,.bool false,.bool false,.bool false]
abbrev zR:AV:= .st 9971 [.int .i64 0,.int .i64 0]
abbrev zP:AV:= .st 76 [.int .i64 0,.int .i64 0]
abbrev hN:Nat→Hint:=fun _=>{ tm:=[],ob:=[] }
def tyL:List (Nat × TyD):=[
 (2,⟨.int .i64,1,8,.int .i64 0⟩),
 (3,⟨.int .i64,1,8,.int .i64 0⟩),
 (4,⟨.bool,1,1,.bool false⟩),
 (5,⟨.int .u8,1,1,.int .u8 0⟩),
 (9,⟨.str,1,16,.str ⟨#[]⟩⟩),
 (21,⟨.int .i32,1,4,.int .i32 0⟩),
 (22,⟨.slice 36,1,24,.sl 36 gN []⟩),
 (23,⟨.slice 2,1,24,.sl 2 gN []⟩),
 (24,⟨.slice 9,1,24,.sl 9 gN []⟩),
 (25,⟨.slice 38,1,24,.sl 38 gN []⟩),
 (27,⟨.struct [22,23,24,25],4,96,n4⟩),
 (49,⟨.struct [3,3],2,16,.st 49 [.int .i64 0,.int .i64 0]⟩),
 (31,⟨.int .i64,1,8,.int .i64 0⟩),
 (30,⟨.slice 49,1,24,.sl 49 gN []⟩),
 (34,⟨.slice 4,1,24,.sl 4 gN []⟩),
 (36,⟨.struct [3,3,3,3,2],5,40,.st 36 [.int .i64 0,.int .i64 0,.int .i64 0,.int .i64 0,.int .i64 0]⟩),
 (55,⟨.ptr 74,1,8,.pnil⟩),
 (38,⟨.struct [3,3,9,9],4,48,.st 38 [.int .i64 0,.int .i64 0,.str ⟨#[]⟩,.str ⟨#[]⟩]⟩),
 (80,⟨.slice 3,1,24,.sl 3 gN []⟩),
 (71,⟨.slice 78,1,24,.sl 78 gN []⟩),
 (72,⟨.slice 82,1,24,.sl 82 gN []⟩),
 (74,⟨.struct [27,71,34,72],7,168,.st 74 [n4,.sl 78 gN [],.sl 4 gN [],.sl 82 gN []]⟩),
 (82,⟨.int .u8,1,1,.int .u8 0⟩),
 (76,⟨.struct [3,2],2,16,zP⟩),
 (78,⟨.array 8 76,16,128,.ar 78 [zP,zP,zP,zP,zP,zP,zP,zP]⟩),
 (87,⟨.func,1,8,.fnil⟩),
 (106,⟨.struct [3,4],2,16,.st 106 [.int .i64 0,.bool false]⟩),
 (94,⟨.struct [9,4,4,4,4],5,24,zF⟩),
 (121,⟨.func,1,8,.fnil⟩),
 (103,⟨.array 41 94,205,984,.ar 103 [zF,zF,zF,zF,zF,zF,zF,zF,zF,zF,zF,zF,zF,zF,zF,zF,zF,zF,zF,zF,zF,zF,zF,zF,zF,zF,zF,zF,zF,zF,zF,zF,zF,zF,zF,zF,zF,zF,zF,zF,zF]⟩),
 (110,⟨.func,1,8,.fnil⟩),
 (118,⟨.ptr 3,1,8,.pnil⟩),
 (119,⟨.slice 118,1,24,.sl 118 gN []⟩),
 (125,⟨.func,1,8,.fnil⟩),
 (134,⟨.int .u64,1,8,.int .u64 0⟩),
 (147,⟨.int .i8,1,1,.int .i8 0⟩),
 (148,⟨.int .i16,1,2,.int .i16 0⟩),
 (149,⟨.int .u16,1,2,.int .u16 0⟩),
 (150,⟨.int .u32,1,4,.int .u32 0⟩),
 (89,⟨.func,1,8,.fnil⟩),
 (91,⟨.map 3 89,1,8,.mp 91 [] []⟩),
 (143,⟨.func,1,8,.fnil⟩),
 (145,⟨.map 106 143,1,8,.mp 145 [] []⟩)]
def ty:Tys:=fun t=>aget t tyL
theorem ty_2:ty 2=some ⟨.int .i64,1,8,.int .i64 0⟩:=rfl
theorem ty_3:ty 3=some ⟨.int .i64,1,8,.int .i64 0⟩:=rfl
theorem ty_4:ty 4=some ⟨.bool,1,1,.bool false⟩:=rfl
theorem ty_5:ty 5=some ⟨.int .u8,1,1,.int .u8 0⟩:=rfl
theorem ty_9:ty 9=some ⟨.str,1,16,.str ⟨#[]⟩⟩:=rfl
theorem ty_21:ty 21=some ⟨.int .i32,1,4,.int .i32 0⟩:=rfl
theorem ty_22:ty 22=some ⟨.slice 36,1,24,.sl 36 gN []⟩:=rfl
theorem ty_23:ty 23=some ⟨.slice 2,1,24,.sl 2 gN []⟩:=rfl
theorem ty_24:ty 24=some ⟨.slice 9,1,24,.sl 9 gN []⟩:=rfl
theorem ty_25:ty 25=some ⟨.slice 38,1,24,.sl 38 gN []⟩:=rfl
theorem ty_27:ty 27=some ⟨.struct [22,23,24,25],4,96,n4⟩:=rfl
theorem ty_49:ty 49=some ⟨.struct [3,3],2,16,.st 49 [.int .i64 0,.int .i64 0]⟩:=rfl
theorem ty_31:ty 31=some ⟨.int .i64,1,8,.int .i64 0⟩:=rfl
theorem ty_30:ty 30=some ⟨.slice 49,1,24,.sl 49 gN []⟩:=rfl
theorem ty_34:ty 34=some ⟨.slice 4,1,24,.sl 4 gN []⟩:=rfl
theorem ty_36:ty 36=some ⟨.struct [3,3,3,3,2],5,40,.st 36 [.int .i64 0,.int .i64 0,.int .i64 0,.int .i64 0,.int .i64 0]⟩:=rfl
theorem ty_55:ty 55=some ⟨.ptr 74,1,8,.pnil⟩:=rfl
theorem ty_38:ty 38=some ⟨.struct [3,3,9,9],4,48,.st 38 [.int .i64 0,.int .i64 0,.str ⟨#[]⟩,.str ⟨#[]⟩]⟩:=rfl
theorem ty_80:ty 80=some ⟨.slice 3,1,24,.sl 3 gN []⟩:=rfl
theorem ty_71:ty 71=some ⟨.slice 78,1,24,.sl 78 gN []⟩:=rfl
theorem ty_72:ty 72=some ⟨.slice 82,1,24,.sl 82 gN []⟩:=rfl
theorem ty_74:ty 74=some ⟨.struct [27,71,34,72],7,168,.st 74 [n4,.sl 78 gN [],.sl 4 gN [],.sl 82 gN []]⟩:=rfl
theorem ty_82:ty 82=some ⟨.int .u8,1,1,.int .u8 0⟩:=rfl
theorem ty_76:ty 76=some ⟨.struct [3,2],2,16,zP⟩:=rfl
theorem ty_78:ty 78=some ⟨.array 8 76,16,128,.ar 78 [zP,zP,zP,zP,zP,zP,zP,zP]⟩:=rfl
theorem ty_87:ty 87=some ⟨.func,1,8,.fnil⟩:=rfl
theorem ty_106:ty 106=some ⟨.struct [3,4],2,16,.st 106 [.int .i64 0,.bool false]⟩:=rfl
theorem ty_94:ty 94=some ⟨.struct [9,4,4,4,4],5,24,zF⟩:=rfl
theorem ty_121:ty 121=some ⟨.func,1,8,.fnil⟩:=rfl
theorem ty_103:ty 103=some ⟨.array 41 94,205,984,.ar 103 [zF,zF,zF,zF,zF,zF,zF,zF,zF,zF,zF,zF,zF,zF,zF,zF,zF,zF,zF,zF,zF,zF,zF,zF,zF,zF,zF,zF,zF,zF,zF,zF,zF,zF,zF,zF,zF,zF,zF,zF,zF]⟩:=rfl
theorem ty_110:ty 110=some ⟨.func,1,8,.fnil⟩:=rfl
theorem ty_118:ty 118=some ⟨.ptr 3,1,8,.pnil⟩:=rfl
theorem ty_119:ty 119=some ⟨.slice 118,1,24,.sl 118 gN []⟩:=rfl
theorem ty_125:ty 125=some ⟨.func,1,8,.fnil⟩:=rfl
theorem ty_134:ty 134=some ⟨.int .u64,1,8,.int .u64 0⟩:=rfl
theorem ty_147:ty 147=some ⟨.int .i8,1,1,.int .i8 0⟩:=rfl
theorem ty_148:ty 148=some ⟨.int .i16,1,2,.int .i16 0⟩:=rfl
theorem ty_149:ty 149=some ⟨.int .u16,1,2,.int .u16 0⟩:=rfl
theorem ty_150:ty 150=some ⟨.int .u32,1,4,.int .u32 0⟩:=rfl
theorem ty_89:ty 89=some ⟨.func,1,8,.fnil⟩:=rfl
theorem ty_91:ty 91=some ⟨.map 3 89,1,8,.mp 91 [] []⟩:=rfl
theorem ty_143:ty 143=some ⟨.func,1,8,.fnil⟩:=rfl
theorem ty_145:ty 145=some ⟨.map 106 143,1,8,.mp 145 [] []⟩:=rfl
theorem row_2:TyOk1 Tryd.prog ty 2 ⟨.int .i64,1,8,.int .i64 0⟩:=
 tyOk1_of Tryd.underlying2 (z:= .int .i64 0) (by kernel_rfl) (by kernel_rfl)
theorem row_3:TyOk1 Tryd.prog ty 3 ⟨.int .i64,1,8,.int .i64 0⟩:=
 tyOk1_of Tryd.underlying3 (z:= .int .i64 0) (by kernel_rfl) (by kernel_rfl)
theorem row_4:TyOk1 Tryd.prog ty 4 ⟨.bool,1,1,.bool false⟩:=
 tyOk1_of Tryd.underlying4 (z:= .bool false) (by kernel_rfl) (by kernel_rfl)
theorem row_5:TyOk1 Tryd.prog ty 5 ⟨.int .u8,1,1,.int .u8 0⟩:=
 tyOk1_of Tryd.underlying5 (z:= .int .u8 0) (by kernel_rfl) (by kernel_rfl)
theorem row_9:TyOk1 Tryd.prog ty 9 ⟨.str,1,16,.str ⟨#[]⟩⟩:=
 tyOk1_of Tryd.underlying9 (z:= .string ⟨#[]⟩) (by kernel_rfl) (by kernel_rfl)
theorem row_21:TyOk1 Tryd.prog ty 21 ⟨.int .i32,1,4,.int .i32 0⟩:=
 tyOk1_of Tryd.underlying21 (z:= .int .i32 0) (by kernel_rfl) (by kernel_rfl)
theorem row_22:TyOk1 Tryd.prog ty 22 ⟨.slice 36,1,24,.sl 36 gN []⟩:=
 tyOk1_of Tryd.underlying22 (z:= .slice none 0 0) (by kernel_rfl) (by kernel_rfl)
theorem row_23:TyOk1 Tryd.prog ty 23 ⟨.slice 2,1,24,.sl 2 gN []⟩:=
 tyOk1_of Tryd.underlying23 (z:= .slice none 0 0) (by kernel_rfl) (by kernel_rfl)
theorem row_24:TyOk1 Tryd.prog ty 24 ⟨.slice 9,1,24,.sl 9 gN []⟩:=
 tyOk1_of Tryd.underlying24 (z:= .slice none 0 0) (by kernel_rfl) (by kernel_rfl)
theorem row_25:TyOk1 Tryd.prog ty 25 ⟨.slice 38,1,24,.sl 38 gN []⟩:=
 tyOk1_of Tryd.underlying25 (z:= .slice none 0 0) (by kernel_rfl) (by kernel_rfl)
theorem row_27:TyOk1 Tryd.prog ty 27 ⟨.struct [22,23,24,25],4,96,n4⟩:=
 tyOk1_of Tryd.underlying27 (z:= .agg #[.slice none 0 0,.slice none 0 0,.slice none 0 0,.slice none 0 0]) (by kernel_rfl) (by kernel_rfl)
theorem row_49:TyOk1 Tryd.prog ty 49 ⟨.struct [3,3],2,16,.st 49 [.int .i64 0,.int .i64 0]⟩:=
 tyOk1_of Tryd.underlying49 (z:= .agg #[.int .i64 0,.int .i64 0]) (by kernel_rfl) (by kernel_rfl)
theorem row_31:TyOk1 Tryd.prog ty 31 ⟨.int .i64,1,8,.int .i64 0⟩:=
 tyOk1_of Tryd.underlying31 (z:= .int .i64 0) (by kernel_rfl) (by kernel_rfl)
theorem row_30:TyOk1 Tryd.prog ty 30 ⟨.slice 49,1,24,.sl 49 gN []⟩:=
 tyOk1_of Tryd.underlying30 (z:= .slice none 0 0) (by kernel_rfl) (by kernel_rfl)
theorem row_34:TyOk1 Tryd.prog ty 34 ⟨.slice 4,1,24,.sl 4 gN []⟩:=
 tyOk1_of Tryd.underlying34 (z:= .slice none 0 0) (by kernel_rfl) (by kernel_rfl)
theorem row_36:TyOk1 Tryd.prog ty 36 ⟨.struct [3,3,3,3,2],5,40,.st 36 [.int .i64 0,.int .i64 0,.int .i64 0,.int .i64 0,.int .i64 0]⟩:=
 tyOk1_of Tryd.underlying36 (z:= .agg #[.int .i64 0,.int .i64 0,.int .i64 0,.int .i64 0,.int .i64 0]) (by kernel_rfl) (by kernel_rfl)
theorem row_55:TyOk1 Tryd.prog ty 55 ⟨.ptr 74,1,8,.pnil⟩:=
 tyOk1_of Tryd.underlying55 (z:= .pointer none) (by kernel_rfl) (by kernel_rfl)
theorem row_38:TyOk1 Tryd.prog ty 38 ⟨.struct [3,3,9,9],4,48,.st 38 [.int .i64 0,.int .i64 0,.str ⟨#[]⟩,.str ⟨#[]⟩]⟩:=
 tyOk1_of Tryd.underlying38 (z:= .agg #[.int .i64 0,.int .i64 0,.string ⟨#[]⟩,.string ⟨#[]⟩]) (by kernel_rfl) (by kernel_rfl)
theorem row_80:TyOk1 Tryd.prog ty 80 ⟨.slice 3,1,24,.sl 3 gN []⟩:=
 tyOk1_of Tryd.underlying80 (z:= .slice none 0 0) (by kernel_rfl) (by kernel_rfl)
theorem row_71:TyOk1 Tryd.prog ty 71 ⟨.slice 78,1,24,.sl 78 gN []⟩:=
 tyOk1_of Tryd.underlying71 (z:= .slice none 0 0) (by kernel_rfl) (by kernel_rfl)
theorem row_72:TyOk1 Tryd.prog ty 72 ⟨.slice 82,1,24,.sl 82 gN []⟩:=
 tyOk1_of Tryd.underlying72 (z:= .slice none 0 0) (by kernel_rfl) (by kernel_rfl)
theorem row_74:TyOk1 Tryd.prog ty 74 ⟨.struct [27,71,34,72],7,168,.st 74 [n4,.sl 78 gN [],.sl 4 gN [],.sl 82 gN []]⟩:=
 tyOk1_of Tryd.underlying74 (z:= .agg #[.slice none 0 0,.slice none 0 0,.slice none 0 0,.slice none 0 0,.slice none 0 0,.slice none 0 0,.slice none 0 0]) (by kernel_rfl) (by kernel_rfl)
theorem row_82:TyOk1 Tryd.prog ty 82 ⟨.int .u8,1,1,.int .u8 0⟩:=
 tyOk1_of Tryd.underlying82 (z:= .int .u8 0) (by kernel_rfl) (by kernel_rfl)
theorem row_76:TyOk1 Tryd.prog ty 76 ⟨.struct [3,2],2,16,zP⟩:=
 tyOk1_of Tryd.underlying76 (z:= .agg #[.int .i64 0,.int .i64 0]) (by kernel_rfl) (by kernel_rfl)
theorem row_78:TyOk1 Tryd.prog ty 78 ⟨.array 8 76,16,128,.ar 78 [zP,zP,zP,zP,zP,zP,zP,zP]⟩:=
 tyOk1_of Tryd.underlying78 (z:= .agg #[.int .i64 0,.int .i64 0,.int .i64 0,.int .i64 0,.int .i64 0,.int .i64 0,.int .i64 0,.int .i64 0,.int .i64 0,.int .i64 0,.int .i64 0,.int .i64 0,.int .i64 0,.int .i64 0,.int .i64 0,.int .i64 0]) (by kernel_rfl) (by kernel_rfl)
theorem row_87:TyOk1 Tryd.prog ty 87 ⟨.func,1,8,.fnil⟩:=
 tyOk1_of Tryd.underlying87 (z:= .nilFunc) (by kernel_rfl) (by kernel_rfl)
theorem row_106:TyOk1 Tryd.prog ty 106 ⟨.struct [3,4],2,16,.st 106 [.int .i64 0,.bool false]⟩:=
 tyOk1_of Tryd.underlying106 (z:= .agg #[.int .i64 0,.bool false]) (by kernel_rfl) (by kernel_rfl)
theorem row_94:TyOk1 Tryd.prog ty 94 ⟨.struct [9,4,4,4,4],5,24,zF⟩:=
 tyOk1_of Tryd.underlying94 (z:= .agg #[.string ⟨#[]⟩,.bool false,.bool false,.bool false,.bool false]) (by kernel_rfl) (by kernel_rfl)
theorem row_121:TyOk1 Tryd.prog ty 121 ⟨.func,1,8,.fnil⟩:=
 tyOk1_of Tryd.underlying121 (z:= .nilFunc) (by kernel_rfl) (by kernel_rfl)
theorem row_103:TyOk1 Tryd.prog ty 103 ⟨.array 41 94,205,984,.ar 103 [zF,zF,zF,zF,zF,zF,zF,zF,zF,zF,zF,zF,zF,zF,zF,zF,zF,zF,zF,zF,zF,zF,zF,zF,zF,zF,zF,zF,zF,zF,zF,zF,zF,zF,zF,zF,zF,zF,zF,zF,zF]⟩:=
 tyOk1_of Tryd.underlying103 (z:= .agg #[.string ⟨#[]⟩,.bool false,.bool false,.bool false,.bool false,.string ⟨#[]⟩,.bool false,.bool false,.bool false,.bool false,.string ⟨#[]⟩,.bool false,.bool false,.bool false,.bool false,.string ⟨#[]⟩,.bool false,.bool false,.bool false,.bool false,.string ⟨#[]⟩,.bool false,.bool false,.bool false,.bool false,.string ⟨#[]⟩,.bool false,.bool false,.bool false,.bool false,.string ⟨#[]⟩,.bool false,.bool false,.bool false,.bool false,.string ⟨#[]⟩,.bool false,.bool false,.bool false,.bool false,.string ⟨#[]⟩,.bool false,.bool false,.bool false,.bool false,.string ⟨#[]⟩,.bool false,.bool false,.bool false,.bool false,.string ⟨#[]⟩,.bool false,.bool false,.bool false,.bool false,.string ⟨#[]⟩,.bool false,.bool false,.bool false,.bool false,.string ⟨#[]⟩,.bool false,.bool false,.bool false,.bool false,.string ⟨#[]⟩,.bool false,.bool false,.bool false,.bool false,.string ⟨#[]⟩,.bool false,.bool false,.bool false,.bool false,.string ⟨#[]⟩,.bool false,.bool false,.bool false,.bool false,.string ⟨#[]⟩,.bool false,.bool false,.bool false,.bool false,.string ⟨#[]⟩,.bool false,.bool false,.bool false,.bool false,.string ⟨#[]⟩,.bool false,.bool false,.bool false,.bool false,.string ⟨#[]⟩,.bool false,.bool false,.bool false,.bool false,.string ⟨#[]⟩,.bool false,.bool false,.bool false,.bool false,.string ⟨#[]⟩,.bool false,.bool false,.bool false,.bool false,.string ⟨#[]⟩,.bool false,.bool false,.bool false,.bool false,.string ⟨#[]⟩,.bool false,.bool false,.bool false,.bool false,.string ⟨#[]⟩,.bool false,.bool false,.bool false,.bool false,.string ⟨#[]⟩,.bool false,.bool false,.bool false,.bool false,.string ⟨#[]⟩,.bool false,.bool false,.bool false,.bool false,.string ⟨#[]⟩,.bool false,.bool false,.bool false,.bool false,.string ⟨#[]⟩,.bool false,.bool false,.bool false,.bool false,.string ⟨#[]⟩,.bool false,.bool false,.bool false,.bool false,.string ⟨#[]⟩,.bool false,.bool false,.bool false,.bool false,.string ⟨#[]⟩,.bool false,.bool false,.bool false,.bool false,.string ⟨#[]⟩,.bool false,.bool false,.bool false,.bool false,.string ⟨#[]⟩,.bool false,.bool false,.bool false,.bool false,.string ⟨#[]⟩,.bool false,.bool false,.bool false,.bool false,.string ⟨#[]⟩,.bool false,.bool false,.bool false,.bool false,.string ⟨#[]⟩,.bool false,.bool false,.bool false,.bool false,.string ⟨#[]⟩,.bool false,.bool false,.bool false,.bool false,.string ⟨#[]⟩,.bool false,.bool false,.bool false,.bool false,.string ⟨#[]⟩,.bool false,.bool false,.bool false,.bool false,.string ⟨#[]⟩,.bool false,.bool false,.bool false,.bool false]) (by kernel_rfl) (by kernel_rfl)
theorem row_110:TyOk1 Tryd.prog ty 110 ⟨.func,1,8,.fnil⟩:=
 tyOk1_of Tryd.underlying110 (z:= .nilFunc) (by kernel_rfl) (by kernel_rfl)
theorem row_118:TyOk1 Tryd.prog ty 118 ⟨.ptr 3,1,8,.pnil⟩:=
 tyOk1_of Tryd.underlying118 (z:= .pointer none) (by kernel_rfl) (by kernel_rfl)
theorem row_119:TyOk1 Tryd.prog ty 119 ⟨.slice 118,1,24,.sl 118 gN []⟩:=
 tyOk1_of Tryd.underlying119 (z:= .slice none 0 0) (by kernel_rfl) (by kernel_rfl)
theorem row_125:TyOk1 Tryd.prog ty 125 ⟨.func,1,8,.fnil⟩:=
 tyOk1_of Tryd.underlying125 (z:= .nilFunc) (by kernel_rfl) (by kernel_rfl)
theorem row_134:TyOk1 Tryd.prog ty 134 ⟨.int .u64,1,8,.int .u64 0⟩:=
 tyOk1_of Tryd.underlying134 (z:= .int .u64 0) (by kernel_rfl) (by kernel_rfl)
theorem row_147:TyOk1 Tryd.prog ty 147 ⟨.int .i8,1,1,.int .i8 0⟩:=
 tyOk1_of Tryd.underlying147 (z:= .int .i8 0) (by kernel_rfl) (by kernel_rfl)
theorem row_148:TyOk1 Tryd.prog ty 148 ⟨.int .i16,1,2,.int .i16 0⟩:=
 tyOk1_of Tryd.underlying148 (z:= .int .i16 0) (by kernel_rfl) (by kernel_rfl)
theorem row_149:TyOk1 Tryd.prog ty 149 ⟨.int .u16,1,2,.int .u16 0⟩:=
 tyOk1_of Tryd.underlying149 (z:= .int .u16 0) (by kernel_rfl) (by kernel_rfl)
theorem row_150:TyOk1 Tryd.prog ty 150 ⟨.int .u32,1,4,.int .u32 0⟩:=
 tyOk1_of Tryd.underlying150 (z:= .int .u32 0) (by kernel_rfl) (by kernel_rfl)
theorem row_89:TyOk1 Tryd.prog ty 89 ⟨.func,1,8,.fnil⟩:=
 tyOk1_of Tryd.underlying89 (z:= .nilFunc) (by kernel_rfl) (by kernel_rfl)
theorem row_91:TyOk1 Tryd.prog ty 91 ⟨.map 3 89,1,8,.mp 91 [] []⟩:=
 tyOk1_of Tryd.underlying91 (z:= .map none) (by kernel_rfl) (by kernel_rfl)
theorem row_143:TyOk1 Tryd.prog ty 143 ⟨.func,1,8,.fnil⟩:=
 tyOk1_of Tryd.underlying143 (z:= .nilFunc) (by kernel_rfl) (by kernel_rfl)
theorem row_145:TyOk1 Tryd.prog ty 145 ⟨.map 106 143,1,8,.mp 145 [] []⟩:=
 tyOk1_of Tryd.underlying145 (z:= .map none) (by kernel_rfl) (by kernel_rfl)
theorem tabs:Tabs Tryd.prog ty:=tabs_of (by
 intro p hp;simp only[tyL,List.mem_cons,List.not_mem_nil,or_false] at hp;rcases hp with rfl | rfl | rfl | rfl | rfl | rfl | rfl | rfl | rfl | rfl | rfl | rfl | rfl | rfl | rfl | rfl | rfl | rfl | rfl | rfl | rfl | rfl | rfl | rfl | rfl | rfl | rfl | rfl | rfl | rfl | rfl | rfl | rfl | rfl | rfl | rfl | rfl | rfl | rfl | rfl | rfl | rfl | rfl
 ·exact row_2
 ·exact row_3
 ·exact row_4
 ·exact row_5
 ·exact row_9
 ·exact row_21
 ·exact row_22
 ·exact row_23
 ·exact row_24
 ·exact row_25
 ·exact row_27
 ·exact row_49
 ·exact row_31
 ·exact row_30
 ·exact row_34
 ·exact row_36
 ·exact row_55
 ·exact row_38
 ·exact row_80
 ·exact row_71
 ·exact row_72
 ·exact row_74
 ·exact row_82
 ·exact row_76
 ·exact row_78
 ·exact row_87
 ·exact row_106
 ·exact row_94
 ·exact row_121
 ·exact row_103
 ·exact row_110
 ·exact row_118
 ·exact row_119
 ·exact row_125
 ·exact row_134
 ·exact row_147
 ·exact row_148
 ·exact row_149
 ·exact row_150
 ·exact row_89
 ·exact row_91
 ·exact row_143
 ·exact row_145) (by kernel_rfl) (by kernel_rfl)
end Go.Proofs.Tryd
end
