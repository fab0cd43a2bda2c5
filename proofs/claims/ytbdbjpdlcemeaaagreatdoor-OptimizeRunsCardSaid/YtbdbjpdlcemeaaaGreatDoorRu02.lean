/- A part of a proof. -/
import Derived.MapKept
import Derived.RangeFuncLeaves
import Derived.RangeFuncRecord
import Derived.KernelRfl
import Derived.Test.YtbdbjpdlcemeaaaGreatDoorProg
import Derived.Test.YtbdbjpdlcemeaaaGreatDoorRu01
set_option linter.unusedSimpArgs false
set_option linter.unusedVariables false
section
namespace Go.Abs
open Go Go.RowKit
variable {P:Program} {E:Env} {w0 w:World} {σ:St} {a:Act} {β:Nat→Option Nat} {o:Oper} {x:AV} {ob:List (Nat × Obj)} {d:Nat}
theorem wj {α β:Type}:∀ {l:List α} {m:List β} {a:α} {x y:β},l.Pairwise (·≠ ·)→(a,x) ∈ l.zip m→(a,y) ∈ l.zip m→x=y
 | [],_,_,_,_,_,h,_=>by simp at h
 | _::_,[],_,_,_,_,h,_=>by simp at h
 | b::l,c::m,a,x,y,hp,h1,h2=>by
   obtain⟨p1,p2⟩:=List.pairwise_cons.1 hp;simp only[List.zip_cons_cons,List.mem_cons,Prod.mk.injEq] at h1 h2;have mem:∀ z,(a,z) ∈ l.zip m→a ∈ l:=fun z h=>(List.of_mem_zip h).1
   rcases h1 with ⟨rfl,rfl⟩ | h1
   ·rcases h2 with ⟨_,rfl⟩ | h2
    ·rfl
    ·exact absurd rfl (p1 _ (mem _ h2))
   ·rcases h2 with ⟨rfl,rfl⟩ | h2
    ·exact absurd rfl (p1 _ (mem _ h1))
    ·exact wj p2 h1 h2
theorem qH {ty:bX} (hT:jA P ty) {u:TypeId} {x y:AV} {b:Bool} (h:nF ty u x y=some b) :
 (∃ D,ty u=some D∧fv D.k=true)∧(b=true↔oR y=oR x)∧(∀ (c:Cx) v,OR c x v→v=oR x)∧
 (∀ d w,(Op.equalIn (d+1) u (oR x) (oR y)).run P w = .ok b w)∧∀ e d w,(Instr.checkKey e (d+1) u (oR x)).run P w = .ok () w:=by
 unfold nF at h;split at h
 ·rename_i k a k' b';split at h
  ·rename_i kk s bb z hD;split at h
   ·rename_i hk;obtain⟨q1,q2⟩:=hk;subst q1;subst q2;injection h with h;subst h
    have yR:=(hT u _ hD).kind;simp only[kindOk] at yR;refine⟨⟨_,hD,rfl⟩,?_,fun c v hv=>VR.eE (c:=c) hv,fun d w=>run_equalIn_int w d u _ _ a b' yR,fun e d w=>?_⟩
    ·simp only[oR,Value.int.injEq,true_and,beq_iff_eq];exact eq_comm
    ·simp only[oR];exact MapKept.run_checkKey yR (by simp[MapKept.IsKey]) e d
   ·cases h
  ·cases h
 ·rename_i a b';split at h
  ·rename_i hb;injection h with h;subst h
   unfold isBool at hb;split at hb
   ·rename_i s bb z hD;have yR:=(hT u _ hD).kind;simp only[kindOk] at yR;refine⟨⟨_,hD,rfl⟩,?_,fun c v hv=>VR.fC (c:=c) hv,fun d w=>run_equalIn_bool' w d u a b' yR,fun e d w=>?_⟩
    ·simp only[oR,Value.bool.injEq,beq_iff_eq];exact eq_comm
    ·simp only[oR];exact MapKept.run_checkKey yR (by simp[MapKept.IsKey]) e d
   ·cases hb
  ·cases h
 ·cases h
theorem LI {ty:bX} {u:TypeId} {x y:AV} {b:Bool} (h:nF ty u x y=some b):P7 ty u x y=some b:=by
 unfold nF at h;split at h
 ·split at h
  ·rename_i hD;split at h
   ·rename_i hc;obtain⟨c1,c2⟩:=hc;subst c1;subst c2;simp only[P7,hD,if_true];exact h
   ·cases h
  ·cases h
 ·exact h
 ·cases h
theorem wm {ty:bX}:∀ (ts:List TypeId) (fs gs:List AV) (b:Bool),ia ty ts fs gs=some b→mQ ty ts fs gs=some b
 | [],[],[],_,h=>h
 | [],[],_::_,_,h=>by simp[ia] at h
 | [],_::_,_,_,h=>by simp[ia] at h
 | _::_,[],_,_,h=>by simp[ia] at h
 | _::_,_::_,[],_,h=>by simp[ia] at h
 | u::ts,x::r,y::s,b,h=>by
   simp only[ia] at h;obtain⟨b1,q1,q2⟩:=aq h;obtain⟨b2,q3,q4⟩:=aq q2;simp only[mQ,LI q1,wm ts r s b2 q3,aN,q4]
theorem Da {ty:bX} (hT:jA P ty):∀ (ts:List TypeId) (fs gs:List AV) (b:Bool),ia ty ts fs gs=some b→
 ts.length=fs.length∧ts.length=gs.length∧(b=true↔gs.map oR=fs.map oR)∧
 ∀ (i:Nat) (u:TypeId) (x y:AV),ts[i]? = some u→fs[i]? = some x→gs[i]? = some y→∃ b,nF ty u x y=some b
 | [],[],[],b,h=>by simp[ia] at h;subst h;simp
 | [],[],_::_,_,h=>by simp[ia] at h
 | [],_::_,_,_,h=>by simp[ia] at h
 | _::_,[],_,_,h=>by simp[ia] at h
 | _::_,_::_,[],_,h=>by simp[ia] at h
 | u::ts,x::r,y::s,b,h=>by
   simp only[ia] at h;obtain⟨b1,q1,q2⟩:=aq h;obtain⟨b2,q3,q4⟩:=aq q2;injection q4 with q4;subst q4
   obtain⟨i1,i2,i3,i4⟩:=Da hT ts r s b2 q3;obtain⟨_,j2,_,_,_⟩:=qH (P:=P) hT q1;refine⟨by simp[i1],by simp[i2],?_,fun i v x' y' h1 h2 h3=>?_⟩
   ·simp only[Bool.and_eq_true,List.map_cons,List.cons.injEq,j2,i3]
   ·cases i with
    | zero=>simp at h1 h2 h3;subst h1;subst h2;subst h3;exact⟨_,q1⟩
    | succ i=>exact i4 i v x' y' (by simpa using h1) (by simpa using h2) (by simpa using h3)
structure qI (P:Program) (u:TypeId) (k y:AV) (b:Bool):Prop where
 iff:b=true↔kv y=kv k
 val:∀ (c:Cx) v,VR c k v→v=kv k
 eq:∀ w,(Op.equal u (kv k) (kv y)).run P w = .ok b w
 check:∀ e w,(Instr.checkKey e 10000 u (kv k)).run P w = .ok () w
 kind:(∃ d,P.underlying u=some d∧MapKept.IsKey d (kv k)∧MapKept.IsKey d (kv y))∨∃ d,P.underlying u=some d∧∀ z,Instr.sameNow d (kv k) z=none
theorem Hk {ty:bX} (hT:jA P ty) (e:Bool) (w:World) (xs:Array Value):∀ (Fs:List Field) (ts:List TypeId) (fs gs:List AV) (i:Nat),Fs.length=ts.length→
 (∀ (j:Nat) (f:Field),Fs[j]? = some f→ts[j]? = some f.type∧f.offset=i+j)→
 (∀ (j:Nat) (x:AV),fs[j]? = some x→xs[i+j]? = some (oR x))→(∃ b,ia ty ts fs gs=some b)→
 ((forIn Fs PUnit.unit fun f _=>
   if f.name ≠ "_" then do
    let p ← part f.type xs f.offset
    Instr.checkKey e 9999 f.type p
    pure (ForInStep.yield PUnit.unit)
   else pure (ForInStep.yield PUnit.unit)):Sem PUnit).run P w = .ok PUnit.unit w
 | [],ts,fs,gs,i,hl,hf,hx,h=>by simp
 | f::Fs,[],fs,gs,i,hl,hf,hx,h=>by simp at hl
 | f::Fs,u::ts,fs,gs,i,hl,hf,hx,⟨b,h⟩=>by
   cases fs with
   | nil=>simp[ia] at h
   | cons x r=>
     cases gs with
     | nil=>simp[ia] at h
     | cons y s=>
       simp only[ia] at h;obtain⟨b1,q1,q2⟩:=aq h;obtain⟨b2,q3,q4⟩:=aq q2;obtain⟨hu,ho⟩:=hf 0 f rfl;simp at hu;subst hu;obtain⟨⟨D,d1,d2⟩,_,_,_,hc⟩:=qH (P:=P) hT q1;have pt:(part f.type xs f.offset).run P w = .ok (oR x) w:=by
        unfold part;simp only[Sem.run_bind,gE hT d1,Result.andThen_ok,d2,Bool.not_true,Bool.false_eq_true,if_false];rw[ho,hx 0 x rfl];rfl
       have ih:=Hk hT e w xs Fs ts r s (i+1) (by simpa using hl) (fun j f' hf'=>by
        have:=hf (j+1) f' (by simpa using hf');exact⟨by simpa using this.1,by rw[this.2];omega⟩)
        (fun j z hz=>by rw[← hx (j+1) z (by simpa using hz)];congr 1;omega) ⟨b2,q3⟩
       rw[List.forIn_cons];by_cases hn:f.name = "_"
       ·simp only[hn,ne_eq,not_true_eq_false,if_false,Sem.run_bind,Sem.run_pure,Result.andThen_ok];exact ih
       ·simp only[hn,ne_eq,not_false_eq_true,if_true,Sem.run_bind,pt,hc e 9998 w,Sem.run_pure,Result.andThen_ok];exact ih
theorem wo {ty:bX} (hT:dk P ty) {u:TypeId} {k y:AV} {b:Bool} (h:pf ty u k y=some b):qI P u k y b:=by
 have hI:(∀ t fs,k ≠ .st t fs)∧nF ty u k y=some b∧(∃ q s bb z,ty u=some ⟨.int q,s,bb,z⟩)→qI P u k y b:=by
  rintro⟨hns,h,q,s,bb,z,hD⟩;have yR:=(hT.ok u _ hD).kind;simp only[kindOk] at yR;obtain⟨_,j2,j3,j4,j5⟩:=qH (P:=P) hT.ok h;have hy:kv k=oR k∧kv y=oR y∧bq k=true∧MapKept.IsKey (.int q) (oR k)∧MapKept.IsKey (.int q) (oR y):=by
   unfold nF at h;split at h
   ·rw[hD] at h;simp only at h;split at h
    ·rename_i hc;obtain⟨c1,c2⟩:=hc;subst c1;subst c2;exact⟨rfl,rfl,rfl,by simp[oR,MapKept.IsKey],by simp[oR,MapKept.IsKey]⟩
    ·cases h
   ·unfold isBool at h;rw[hD] at h;simp at h
   ·cases h
  obtain⟨e1,e2,e3,e4,e5⟩:=hy;refine⟨by rw[e1,e2];exact j2,fun c v hv=>by rw[e1];exact j3 c v (VR.LB hv e3),fun w=>by rw[e1,e2];exact j4 9999 w,fun e w=>by rw[e1];exact j5 e 9999 w,.inl ⟨_,yR,by rw[e1];exact e4,by rw[e2];exact e5⟩⟩
 unfold pf at h;split at h
 ·rename_i t1 fs t2 gs;split at h
  ·rename_i hc;obtain⟨c1,c2⟩:=hc;subst c1;subst c2;split at h
   ·rename_i ts sz bb zz hD;have heq:=hT.eq _ ts sz bb zz hD;simp only[G_,Bool.and_eq_true,Bool.not_eq_true',List.all_eq_true,bne_iff_ne] at heq;obtain⟨⟨g1,g2⟩,g3⟩:=heq;have hk:=(hT.ok _ _ hD).kind;simp only[kindOk] at hk;obtain⟨Fs,k1,k2,k3⟩:=hk;have Ve:P.fieldsOf t2=Fs:=by simp[Program.fieldsOf,k1]
    obtain⟨l1,l2,l3,l4⟩:=Da (P:=P) hT.ok ts fs gs b h;have sz1:∀ u ∈ ts,aH ty u=1:=fun u hu=>by
     obtain⟨i,hi⟩:=List.getElem?_of_mem hu;have zp:=(List.getElem?_eq_some_iff.1 hi).1;obtain⟨b',hb'⟩:=l4 i u _ _ hi (List.getElem?_eq_getElem (by omega)) (List.getElem?_eq_getElem (by omega));obtain⟨⟨D,d1,d2⟩,_⟩:=qH (P:=P) hT.ok hb';have sj:=(hT.ok u D d1).fy;generalize D.zero=zz at sj;cases sj with
     | leaf f1 f2 f3 f4=>
       rw[d1] at f1;injection f1 with f1;subst f1
       simp[aH,d1,f3]
     | st f1=>rw[d1] at f1;injection f1 with f1;subst f1;cases d2
     | ar f1=>rw[d1] at f1;injection f1 with f1;subst f1;cases d2
    have Vf:∀ (l:List TypeId),(∀ u ∈ l,aH ty u=1)→(l.map (aH ty)).sum=l.length:=fun l=>by
     induction l with
     | nil=>intro _;rfl
     | cons q r ih=>intro h;simp[h q (by simp),ih fun z hz=>h z (by simp[hz])];omega
    have off:∀ (j:Nat) (f:Field),Fs.toList[j]? = some f→ts[j]? = some f.type∧f.offset=0+j:=fun j f hf=>by
     obtain⟨a1,a2⟩:=k3 j f (by simpa using hf);refine⟨a1,?_⟩;rw[a2,Vf _ fun u hu=>sz1 u (List.mem_of_mem_take hu),List.length_take];have:j < ts.length:=by rw[← k2];have:=(List.getElem?_eq_some_iff.1 hf).1;simpa using this
     omega
    have get:∀ (l:List AV) (j:Nat) (x:AV),l[j]? = some x→(l.map oR).toArray[0+j]? = some (oR x):=fun l j x hx=>by simp[hx]
    let c0:Cx:=⟨ty,0,default,fun _=>none,fun _=>False,fun _=>True⟩
    have or1:∀ (l m:List AV),(∀ (i:Nat) (u:TypeId) (x y:AV),ts[i]? = some u→l[i]? = some x→m[i]? = some y→(∃ b,nF ty u x y=some b))→ts.length=l.length→ts.length=m.length→
     (∀ (j:Nat) (x:AV),l[j]? = some x→OR c0 x (oR x))∧∀ (j:Nat) (x:AV),m[j]? = some x→OR c0 x (oR x):=fun l m hl h1 h2=>by
     have key:∀ {u x y b},nF ty u x y=some b→OR c0 x (oR x)∧OR c0 y (oR y):=fun h=>by
      unfold nF at h;split at h
      ·exact⟨.cl (.int _ _),.cl (.int _ _)⟩
      ·exact⟨.cl (.bool _),.cl (.bool _)⟩
      ·cases h
     constructor
     ·intro j x hx;have hj:=(List.getElem?_eq_some_iff.1 hx).1;obtain⟨b,hb⟩:=hl j _ x _ (List.getElem?_eq_getElem (by omega)) hx (List.getElem?_eq_getElem (by omega));exact (key hb).1
     ·intro j x hx;have hj:=(List.getElem?_eq_some_iff.1 hx).1;obtain⟨b,hb⟩:=hl j _ _ x (List.getElem?_eq_getElem (by omega)) (List.getElem?_eq_getElem (by omega)) hx;exact (key hb).2
    obtain⟨or2,or3⟩:=or1 fs gs l4 l1 l2
    let E0:Env:=⟨ty,fun _=>none,0,0,fun _ _=>none,fun _=>none,fun _=>True,none,fun _=>False,fun _=>false,fun _ _ _=>none,fun _=>false,fun _=>[]⟩
    refine⟨?_,fun c v hv=>?_,fun w=>?_,fun e w=>?_,.inr ⟨_,k1,fun z=>rfl⟩⟩
    ·simp only[kv,Value.agg.injEq];rw[l3];exact⟨fun h=>by rw[h],fun h=>by simpa using h⟩
    ·obtain⟨vs,e1,_,hF⟩:=hv;have lv:∀ (l:List AV),(∀ x ∈ l,bq x=true)→ay l=l:=fun l=>by
      induction l with
      | nil=>intro _;rfl
      | cons q r ih=>intro h;simp only[ay];rw[bY (h q (by simp)),ih fun z hz=>h z (by simp[hz])];rfl
     have cw:∀ x ∈ fs,bq x=true∧∀ v,OR c x v→v=oR x:=fun x hx=>by
      obtain⟨i,hi⟩:=List.getElem?_of_mem hx;have zp:=(List.getElem?_eq_some_iff.1 hi).1;obtain⟨b',hb'⟩:=l4 i _ x _ (List.getElem?_eq_getElem (by omega)) hi (List.getElem?_eq_getElem (by omega));obtain⟨_,_,hv,_⟩:=qH (P:=P) hT.ok hb';refine⟨?_,fun v h=>hv c v h⟩;unfold nF at hb';split at hb'
      ·rfl
      ·rfl
      ·cases hb'
     have e3:leaves (.st t2 fs)=fs:=lv fs fun x hx=>(cw x hx).1
     rw[e3] at hF;subst e1;simp only[kv,Value.agg.injEq];apply Array.toList_inj.1;apply List.ext_getElem?;intro i;rw[List.getElem?_map];by_cases hi:i < fs.length
     ·have h1:=List.getElem?_eq_getElem hi;have h2:i < vs.toList.length:=by rw[← hF.1];exact hi
      have h3:=List.getElem?_eq_getElem h2;rw[h1,h3,Option.map_some];congr 1
      exact (cw _ (List.getElem_mem hi)).2 _ (hF.2 i _ _ h1 h3)
     ·have h2:¬ i < vs.toList.length:=by rw[← hF.1];exact hi
      rw[List.getElem?_eq_none (by omega),List.getElem?_eq_none (by omega)];rfl
    ·have gb:=sB (P:=P) (E:=E0) hT.ok (c:=c0) 9998 w (fs.map oR).toArray (gs.map oR).toArray Fs.toList ts fs gs 0 b (by simpa using k2) (fun j f hf=>by
      obtain⟨a1,a2⟩:=off j f hf;exact⟨a1,a2,g3 f (by rw[Ve];exact List.mem_of_getElem? hf)⟩) (fun j x hx=>⟨_,get fs j x hx,or2 j x hx⟩) (fun j x hx=>⟨_,get gs j x hx,or3 j x hx⟩) (wm _ _ _ _ h)
     show (Op.equalIn 10000 t2 (.agg _) (.agg _)).run P w = .ok b w;rw[run_equalIn_struct w 9999 t2 _ _ (by rw[Ve];exact k1) g1,Ve];exact gb
    ·show (Instr.checkKey e 10000 t2 (.agg _)).run P w = .ok () w;rw[show (10000:Nat)=9999+1 from rfl,Instr.checkKey];simp only[Sem.run_bind,run_underlying k1,Result.andThen_ok];rw[← Array.forIn_toList];rw[Hk hT.ok e w (fs.map oR).toArray Fs.toList ts fs gs 0 (by simpa using k2) off (fun j x hx=>get fs j x hx) ⟨b,h⟩];rfl
   ·cases h
  ·cases h
 ·rename_i hns;split at h
  ·rename_i hD;refine hI ⟨fun t fs e=>?_,h,_,_,_,_,hD⟩;subst e;unfold nF at h;simp at h
  ·cases h
theorem Bp {u:TypeId} {k:AV} {w:World}:∀ (l:List MapEntry) (i:Nat),(∀ e ∈ l,∃ y b,qI P u k y b∧e.key=kv y)→
 ∃ r,(Instr.findAsking u (kv k) l i).run P w = .ok r w∧((r=none∧∀ e ∈ l,e.key ≠ kv k)∨∃ j e,r=some (j,e.val)∧e ∈ l∧e.key=kv k)
 | [],i,h=>⟨none,rfl,.inl ⟨rfl,by simp⟩⟩
 | e::l,i,h=>by
   obtain⟨y,b,hy,he⟩:=h e (by simp);obtain⟨r,h1,h2⟩:=Bp l (i+1) fun e he=>h e (by simp[he])
   cases b with
   | true=>
     refine⟨some (i,e.val),?_,.inr ⟨i,e,rfl,by simp,by rw[he];exact hy.iff.1 rfl⟩⟩;unfold Instr.findAsking;simp only[Sem.run_bind,he,hy.eq,Result.andThen_ok,if_true,Sem.run_pure]
   | false=>
     refine⟨r,?_,?_⟩
     ·unfold Instr.findAsking;simp only[Sem.run_bind,he,hy.eq,Result.andThen_ok,Bool.false_eq_true,if_false];exact h1
     ·rcases h2 with ⟨e1,e2⟩ | ⟨j,e',e1,e2,e3⟩
      ·refine .inl ⟨e1,fun x hx=>?_⟩;rcases List.mem_cons.1 hx with rfl | hx
       ·rw[he];intro hq;have:=hy.iff.2 hq;cases this
       ·exact e2 x hx
      ·exact .inr ⟨j,e',e1,by simp[e2],e3⟩
theorem Db {ty:bX} (hT:dk P ty) {u:TypeId} {k:AV}:∀ (ks:List AV) (fs:List FuncId) (r:Option FuncId),vO ty u k ks fs=some r→ks.length=fs.length→
 (∀ y ∈ ks,∃ b,qI P u k y b)∧(r=none→∀ y ∈ ks,kv y ≠ kv k)∧∀ f,r=some f→(kv k,Value.func (.func f) #[] #[]) ∈ mpE ks fs
 | [],_,r,h,_=>by simp[vO] at h;subst h;exact⟨by simp,by simp,by simp⟩
 | _::_,[],r,h,hl=>by simp at hl
 | x::ks,f::fs,r,h,hl=>by
   simp only[vO] at h;obtain⟨b,h1,h2⟩:=aq h;obtain⟨r',h3,h4⟩:=aq h2;injection h4 with h4
   have hk:=wo hT h1;obtain⟨i1,i2,i3⟩:=Db hT ks fs r' h3 (by simpa using hl);refine⟨fun y hy=>?_,fun hr y hy=>?_,fun g hg=>?_⟩
   ·rcases List.mem_cons.1 hy with rfl | hy
    ·exact⟨b,hk⟩
    ·exact i1 y hy
   ·subst hr;cases b with
    | true=>cases h4
    | false=>
      simp only[Bool.false_eq_true,if_false] at h4;rcases List.mem_cons.1 hy with rfl | hy
      ·intro hq;have:=hk.iff.2 hq;cases this
      ·exact i2 h4 y hy
   ·subst hg;cases b with
    | true=>
      simp only[if_true] at h4;injection h4 with h4;subst h4
      simp only[mpE,List.map_cons,List.zip_cons_cons,hk.iff.1 rfl];exact List.mem_cons_self
    | false=>
      simp only[Bool.false_eq_true,if_false] at h4;simp only[mpE,List.map_cons,List.zip_cons_cons];exact List.mem_cons_of_mem _ (i3 g h4)
def fnV:Option FuncId→Value
 | some f=> .func (.func f) #[] #[]
 | none=> .nilFunc
theorem LJ {c:Cx} (ok:Bool) (r:Option FuncId):VR c (th ok r) (if ok=true then .tuple #[fnV r,.bool r.isSome] else fnV r):=by
 have h2:mM c (P8 r) (fnV r):=by
  cases r with
  | none=>exact OR.cl .dY
  | some f=>exact OR.fn f [] #[] rfl (fun i x hx=>by simp at hx)
 cases ok with
 | true=>
   simp only[th,if_true];refine⟨_,rfl,?_,fun i x v hx hv=>?_⟩
   ·rfl
   ·match i with
    | 0=>simp at hx hv;subst hx;subst hv;exact h2
    | 1=>simp at hx hv;subst hx;subst hv;exact OR.cl (.bool _)
    | i+2=>simp at hx
 | false=>
   simp only[th,Bool.false_eq_true,if_false];exact ga h2
theorem JC (hT:dk P E.ty) (h:bG E w0 σ a w β) (hG:bj E w0) {t:TypeId} {y z:Operand} {ok:Bool} (ho:o.op = .lookup t y z ok) (hr:aZ E d σ (.lookup t y z ok)=some (x,ob)) :
 b9 E w0 σ a ob x ((execOp a.eval o).run P w):=by
 simp only[aZ] at hr;obtain⟨p,h1,h2⟩:=aq hr;obtain⟨q,h3,h4⟩:=aq h2;obtain⟨r,h5,h6⟩:=aq h4;injection h6 with h6;injection h6 with h6 h7;subst h6;subst h7
 have hp:=bt h hG h1;have hq:=bt h hG h3;have dm:(execOp a.eval o)=(do pure (Next.value (← Instr.lookup t (a.eval y) (a.eval z) ok))):=by simp[execOp,ho]
 unfold Ts at h5;split at h5
 ·rename_i u k0 ks fs;split at h5
  ·rename_i hu;subst hu;split at h5
   ·rename_i kt et s b zz hD;split at h5
    ·rename_i s' b' hE;obtain⟨g,h8,h9⟩:=aq h5;injection h9 with h9;subst h9
     have hk:=(hT.ok _ _ hD).kind;simp only[kindOk] at hk;have hz:∀ w,(zeroValue et).run P w = .ok .nilFunc w:=fun w=>by
      obtain⟨i,z,e1,e2,e3,e4,e5,e6⟩:=(hT.ok _ _ hE).info;have e7:=(hT.ok _ _ hE).ab1 rfl i z e1 e4;have e8:z.cells = #[z]:=by cases z <;> first | rfl | exact absurd rfl (e7 _)
      rw[e8] at e5;have:=e5.2 0 .dY z rfl rfl default (fun _=>True);cases this;simp[zeroValue,typeInfo,e1,e4]
     have bZ:=VR.LB hp rfl;refine b9.same h (v:=if ok=true then .tuple #[fnV g,.bool g.isSome] else fnV g) ?_ (LJ ok g);rw[dm];refine bT ?_;cases bZ with
     | cl bZ=>
       generalize hy:a.eval y=vy at bZ;cases bZ with
       | mp t ks' fs' eQ es cl q1 q2 q3 q4 q5 q6 q7=>
         obtain⟨g1,g2,g3⟩:=Db hT (k0::ks) fs g h8 q4;have acr:∀ e ∈ es.toList,(e.key,e.val) ∈ mpE (k0::ks) fs:=fun e he=>q6.mem_iff.1 (List.mem_map_of_mem he)
         have Tz:∀ e ∈ es.toList,∃ y b,qI P kt q y b∧e.key=kv y:=fun e he=>by
          obtain⟨m1,_⟩:=List.of_mem_zip (acr e he);obtain⟨y,m2,m3⟩:=List.mem_map.1 m1;obtain⟨b,hb⟩:=g1 y m2;exact⟨y,b,hb,m3.symm⟩
         obtain⟨b0,dJ⟩:=g1 k0 (by simp);have LK:=dJ.val _ _ hq;have aw:(getObj eQ).run P w = .ok (.map es cl) w:=MapKept.run_getObj_map q5;have main:∃ rr,(Instr.findKey kt (kv q) es.toList).run P w = .ok rr w∧((rr=none∧∀ e ∈ es.toList,e.key ≠ kv q)∨∃ j e,rr=some (j,e.val)∧e ∈ es.toList∧e.key=kv q):=by
          rcases dJ.kind with ⟨dd,hu,hi,_⟩ | ⟨dd,hu,hs⟩
          ·have hik:∀ x ∈ es.toList,MapKept.IsKey dd x.key:=fun e he=>by
            obtain⟨y,b,hb,he⟩:=Tz e he;rcases hb.kind with ⟨dd',nP,_,zp⟩ | ⟨dd',nP,hs'⟩
            ·rw[hu] at nP;injection nP with nP;subst nP;rw[he];exact zp
            ·rw[hu] at nP;injection nP with nP;subst nP
             obtain⟨r,hr,_⟩:=MapKept.sameNow_of_keys hi hi;rw[hs'] at hr;cases hr
           rcases MapKept.findNow_spec hi es.toList 0 hik with ⟨f1,f2⟩ | ⟨j,e,f1,f2,f3⟩
           ·exact⟨none,MapKept.run_findKey hu f1,.inl ⟨rfl,f2⟩⟩
           ·exact⟨_,MapKept.run_findKey hu f1,.inr ⟨_,e,rfl,List.mem_of_getElem? f2,f3⟩⟩
          ·cases hl:es.toList with
           | nil=>
             refine⟨none,?_,.inl ⟨rfl,by simp⟩⟩;exact MapKept.run_findKey hu rfl
           | cons e l=>
             obtain⟨r,r1,r2⟩:=Bp (P:=P) (u:=kt) (k:=q) (w:=w) (e::l) 0 (by rw[← hl];exact Tz);refine⟨r,?_,r2⟩;simp only[Instr.findKey,Sem.run_bind,run_underlying hu,Result.andThen_ok,Instr.findNow,hs];exact r1
         obtain⟨rr,m1,m2⟩:=main;unfold Instr.lookup;simp only[Sem.run_bind,run_underlying hk,Result.andThen_ok,aw,Sem.run_pure,LK,dJ.check,m1];rcases m2 with ⟨rfl,m3⟩ | ⟨j,e,rfl,m3,m4⟩
         ·have hg:g=none:=by
           cases g with
           | none=>rfl
           | some f=>
             have:=g3 f rfl;obtain⟨e,he,h⟩:=List.mem_map.1 (q6.mem_iff.2 this);exact absurd (Prod.mk.inj h).1 (m3 e he)
          subst hg;simp only[Sem.run_bind,hz,Result.andThen_ok,Sem.run_pure];cases ok <;> rfl
         ·have hm:=acr e m3;rw[m4] at hm;have hg:e.val=fnV g∧g.isSome=true:=by
           cases g with
           | none=>
             obtain⟨z1,_⟩:=List.of_mem_zip hm;obtain⟨y,z2,z3⟩:=List.mem_map.1 z1;exact absurd z3 (g2 rfl y z2)
           | some f=>exact⟨wj q7 hm (g3 f rfl),rfl⟩
          simp only[Sem.run_pure,Result.andThen_ok,hg.1,hg.2];cases ok <;> rfl
    ·cases h5
   ·cases h5
  ·cases h5
 ·cases h5
end Go.Abs
end
section
namespace Go.Abs
open Go Go.RowKit
section
variable {P:Program} {E:Env} {w0 w:World} {σ:St} {a:Act} {β:Nat→Option Nat} {x:AV} {ob:List (Nat × Obj)} {d:Nat} {o:Oper}
theorem sF {α:Type} (x:α):∀ n,fc x n=List.replicate n x
 | 0=>rfl
 | n+1=>by simp[fc,sF x n,List.replicate_succ]
theorem pV (hT:dk P E.ty) {e:TypeId} {T:kD} (g8:E.ty e=some T) (c4:0 < T.size) {zv:Value} (i5:F2 (fun x v=>∀ (w:World) (okb:Nat→Prop),LR E.ty w okb x v) (leaves T.zero) zv.cells.toList) (n:Nat) :
 (∀ (j:Nat) (q:AV),(ay (List.replicate n T.zero))[j]? = some q→∃ u,((Array.range (n * T.size)).map fun j=>zv.cells[j % zv.cells.size]!)[j]? = some u∧∀ (w:World) (okb:Nat→Prop),LR E.ty w okb q u)∧
 (ay (List.replicate n T.zero)).length=n * T.size:=by
 have cS:aH E.ty e=T.size:=by simp[aH,g8]
 have KV:zv.cells.size=T.size:=by
  have:=i5.1;rw[(hT.ok e T g8).fy.len,cS] at this;simpa using this.symm
 have hlen:(ay (List.replicate n T.zero)).length=n * T.size:=by
  rw[bg T.size _ (fun x hx=>by rw[List.eq_of_mem_replicate hx,(hT.ok e T g8).fy.len,cS])];simp
 refine⟨fun j q hq=>?_,hlen⟩;have hj:j < n * T.size:=by rw[← hlen];exact (List.getElem?_eq_some_iff.1 hq).1
 have hdiv:j / T.size < n:=(Nat.div_lt_iff_lt_mul c4).2 hj;have Vg:j % T.size < T.size:=Nat.mod_lt _ c4;have hat:=ed T.size (List.replicate n T.zero) (fun x hx=>by rw[List.eq_of_mem_replicate hx,(hT.ok e T g8).fy.len,cS]) (j / T.size) T.zero
  (by rw[List.getElem?_replicate,if_pos hdiv]) (j % T.size) Vg
 rw[Nat.div_add_mod' j T.size,hq] at hat;obtain⟨u,r1,r2⟩:=i5.get hat.symm;refine⟨u,?_,r2⟩;have hc:((Array.range (n * T.size)).map fun j=>zv.cells[j % zv.cells.size]!)[j]? = some (zv.cells[j % zv.cells.size]!):=by simp[hj]
 rw[hc,KV];have r1':zv.cells[j % T.size]? = some u:=by simpa using r1
 simp[getElem!_def,r1']
theorem yW (hT:dk P E.ty) (h:bG E w0 σ a w β) (hG:bj E w0) {t:TypeId} {n:Nat} {ps:Array (Nat × Operand)} (ho:o.op = .buildSlice t n ps) (hr:aZ E d σ (.buildSlice t n ps)=some (x,ob)) :
 b9 E w0 σ a ob x ((execOp a.eval o).run P w):=by
 simp only[aZ] at hr;have dm:(execOp a.eval o)=(do pure (Next.value (← Instr.buildSlice t n (ps.map fun (i,x)=>(i,a.eval x))))):=by simp[execOp,ho]
 split at hr
 ·rename_i e s b zz hD;split at hr
  ·rename_i T g8;obtain⟨l,h1,h2⟩:=aq hr;split at h2
   ·rename_i Vo;obtain⟨gs,h3,h4⟩:=aq h2;split at h4
    ·rename_i hc;obtain⟨c1,c2,c3,c4⟩:=hc;injection h4 with h4;injection h4 with h4 h5;subst h4;subst h5
     have hk:=(hT.ok t _ hD).kind;simp only[kindOk] at hk;obtain⟨zv,hz,hF,_⟩:=jY hT.ok g8 w;obtain⟨nR,KU,hm⟩:=(hT.ok e T g8).Ha;have cS:aH E.ty e=T.size:=by simp[aH,g8]
     obtain⟨z1,z2⟩:=pV hT g8 c2 hF n;obtain⟨e1,e2⟩:=jK h hG ps.toList l h1;rw[sF] at h3;have hF0:F2 (OR (aK E w0 σ w β)) (ay (List.replicate n T.zero)) ((Array.range (n * T.size)).map fun j=>zv.cells[j % zv.cells.size]!).toList:=by
      refine⟨by rw[z2];simp,fun i y v hy hv=>?_⟩;obtain⟨u,q1,q2⟩:=z1 i y hy;rw[← Array.getElem?_toList,hv] at q1;injection q1 with q1;subst q1
      exact .cl (q2 _ _)
     obtain⟨dN,f1,f2,f3,f4⟩:=vz hT.ok (c:=aK E w0 σ w β) rfl (t:=e) (okE:=Lb) (place:=fun i=>some (i * aH E.ty e,aH E.ty e)) (fun _=>rfl) l ((ps.map fun (i,x)=>(i,a.eval x)).toList)
      (List.replicate n T.zero) gs _ (by rw[e1];simp[Function.comp_def]) (fun i q p hq hp=>by
        simp only[Array.toList_map,List.getElem?_map,Option.map_eq_some_iff] at hp;obtain⟨p',bZ,e3⟩:=hp;subst e3;exact e2 i q p' hq bZ) h3 (by simp) (fun x hx=>by rw[List.eq_of_mem_replicate hx];exact⟨(hT.ok e T g8).fy,rfl⟩) hF0
     obtain⟨hS,_⟩:=h.new c1 (b:=⟨.oQ e,fresh.iv gs,gs⟩) (arr:=dN) (e:=e) ⟨fun x hx=>(f3 x hx).1,by rw[cS];exact c2⟩ c4
      (fun j q hq=>by
        obtain⟨u,q1,q2⟩:=f4.get hq;refine⟨u,by rw[← Array.getElem?_toList];exact q1,?_⟩;exact q2)
     have E9:dN.size=n * T.size:=by
      have h6:=f4.1;rw[bg T.size _ (fun x hx=>by rw[(f3 x hx).1.len,cS]),f2] at h6;simpa using h6.symm
     refine⟨.slice (some ⟨w.heap.size,0,none⟩) n n,_,_,.inl ?_,hS,?_⟩
     ·rw[dm];refine bT ?_;unfold Instr.buildSlice;simp only[Sem.run_bind,run_underlying hk.1,Result.andThen_ok,cj hT.ok g8,cS];rw[if_neg (by simp;omega)];rw[cS] at f1;by_cases kH:n * T.size=0
      ·rw[if_pos kH];rw[Sem.run_bind,Sem.run_pure,Result.andThen_ok];have e0:(Array.map (fun x=>(#[]:Array Value)[x % (#[]:Array Value).size]!) (Array.range (n * T.size)))=(Array.range (n * T.size)).map fun j=>zv.cells[j % zv.cells.size]! :=by
        rw[kH];simp
       rw[e0];simp only[f1];rfl
      ·rw[if_neg kH];simp only[Sem.run_bind,hz,Sem.run_pure,Result.andThen_ok];simp only[f1];rfl
     ·have:=OR.own (c:=aK E w0 ⟨σ.tm,bE d ⟨.oQ e,fresh.iv gs,gs⟩ σ.ob⟩ (w.alloc (.cells dN e)) (fun o=>if o=d then some w.heap.size else β o))
       d e 0 n w.heap.size n dN e (by simp[aK]) (by show (w.heap.push _)[w.heap.size]? = _;simp) (by simp[aK,cS,E9]) (Nat.le_refl _)
      rw[Nat.zero_mul] at this;exact this
    ·cases h4
   ·rename_i Vo;obtain⟨gs,h3,h4⟩:=aq h2;split at h4
    ·rename_i hc;obtain⟨c1,c2,c3⟩:=hc;injection h4 with h4;injection h4 with h4 h5;subst h4;subst h5
     have hk:=(hT.ok t _ hD).kind;simp only[kindOk] at hk;obtain⟨zv,hz,hF,_⟩:=jY hT.ok g8 w;obtain⟨nR,KU,hm⟩:=(hT.ok e T g8).Ha;have cS:aH E.ty e=T.size:=by simp[aH,g8]
     obtain⟨z1,z2⟩:=pV hT g8 c2 hF n;obtain⟨e1,e2⟩:=jK h hG ps.toList l h1;rw[sF] at h3;have hF0:F2 (OR (aK E w0 σ w β)) (ay (List.replicate n T.zero)) ((Array.range (n * T.size)).map fun j=>zv.cells[j % zv.cells.size]!).toList:=by
      refine⟨by rw[z2];simp,fun i y v hy hv=>?_⟩;obtain⟨u,q1,q2⟩:=z1 i y hy;rw[← Array.getElem?_toList,hv] at q1;injection q1 with q1;subst q1
      exact .cl (q2 _ _)
     obtain⟨dN,f1,f2,f3,f4⟩:=vz hT.ok (c:=aK E w0 σ w β) rfl (t:=e) (okE:=closed) (place:=fun i=>some (i * aH E.ty e,aH E.ty e)) (fun _=>rfl) l ((ps.map fun (i,x)=>(i,a.eval x)).toList)
      (List.replicate n T.zero) gs _ (by rw[e1];simp[Function.comp_def]) (fun i q p hq hp=>by
        simp only[Array.toList_map,List.getElem?_map,Option.map_eq_some_iff] at hp;obtain⟨p',bZ,e3⟩:=hp;subst e3;exact e2 i q p' hq bZ) h3 (by simp) (fun x hx=>by rw[List.eq_of_mem_replicate hx];exact⟨(hT.ok e T g8).fy,nR⟩) hF0
     obtain⟨hS,_⟩:=h.new c1 (b:=⟨.row e,fresh.iv gs,gs⟩) (arr:=dN) (e:=e) ⟨fun x hx=>(f3 x hx).1,by rw[cS];exact c2⟩ rfl
      (fun j q hq=>by
        obtain⟨u,q1,q2⟩:=f4.get hq;refine⟨u,by rw[← Array.getElem?_toList];exact q1,?_⟩;obtain⟨y,y1,y2⟩:=cm (List.mem_of_getElem? hq);have U7:=iL (f3 y y1).1;exact q2.lr (U7.1 (f3 y y1).2 q y2) fun hf=>U7.2 (f3 y y1).2 (pQ hf y y1) q y2)
     have E9:dN.size=n * T.size:=by
      have h6:=f4.1;rw[bg T.size _ (fun x hx=>by rw[(f3 x hx).1.len,cS]),f2] at h6;simpa using h6.symm
     refine⟨.slice (some ⟨w.heap.size,0,none⟩) n n,_,_,.inl ?_,hS,?_⟩
     ·rw[dm];refine bT ?_;unfold Instr.buildSlice;simp only[Sem.run_bind,run_underlying hk.1,Result.andThen_ok,cj hT.ok g8,cS];rw[if_neg (by simp;omega)];rw[cS] at f1;by_cases kH:n * T.size=0
      ·rw[if_pos kH];rw[Sem.run_bind,Sem.run_pure,Result.andThen_ok];have e0:(Array.map (fun x=>(#[]:Array Value)[x % (#[]:Array Value).size]!) (Array.range (n * T.size)))=(Array.range (n * T.size)).map fun j=>zv.cells[j % zv.cells.size]! :=by
        rw[kH];simp
       rw[e0];simp only[f1];rfl
      ·rw[if_neg kH];simp only[Sem.run_bind,hz,Sem.run_pure,Result.andThen_ok];simp only[f1];rfl
     ·have:=OR.own (c:=aK E w0 ⟨σ.tm,bE d ⟨.row e,fresh.iv gs,gs⟩ σ.ob⟩ (w.alloc (.cells dN e)) (fun o=>if o=d then some w.heap.size else β o))
       d e 0 n w.heap.size n dN e (by simp[aK]) (by show (w.heap.push _)[w.heap.size]? = _;simp) (by simp[aK,cS,E9]) (Nat.le_refl _)
      rw[Nat.zero_mul] at this;exact this
    ·cases h4
  ·cases hr
 ·cases hr
theorem zA (hT:dk P E.ty) (hC:cM P E) (h:bG E w0 σ a w β) (hG:bj E w0) (hr:aZ E d σ o.op=some (x,ob)):C3 P E w0 σ a ob x o w:=by
 cases ho:o.op with
 | move y=>rw[ho] at hr;exact (Hc h hG (.inl ho) hr).goes
 | assign y=>rw[ho] at hr;exact (Hc h hG (.inr ho) hr).goes
 | pick c y z=>rw[ho] at hr;exact (Qt h hG ho hr).goes
 | alloc t=>rw[ho] at hr;exact (Lm hT.ok h ho hr).goes
 | box t y=>rw[ho] at hr;exact (U9 hT.ok h hG ho hr).goes
 | build t ps=>rw[ho] at hr;exact (Lt hT.ok hT.st hT.ar h hG ho hr).goes
 | load t y=>rw[ho] at hr;exact (Qu hT.ok h hG ho hr).goes
 | store t y z=>rw[ho] at hr;exact (Lo hT.ok h hG ho hr).goes
 | fieldAddr s y f=>rw[ho] at hr;exact (Bf hT h hG ho hr).goes
 | field s y f=>rw[ho] at hr;exact (Lw hT h hG ho hr).goes
 | binOp op t y z u=>rw[ho] at hr;exact (Lx hT h hG ho hr).goes
 | unOp op t y=>rw[ho] at hr;exact (Qw h hG ho hr).goes
 | nilCheck y=>rw[ho] at hr;exact (CY h hG ho hr).goes
 | extract y i=>rw[ho] at hr;exact (Fm h hG ho hr).goes
 | indexAddr t y z=>rw[ho] at hr;exact (Bh hT h hG ho hr).goes
 | index t y z=>rw[ho] at hr;exact (LC hT h hG ho hr).goes
 | lookup t y z ok=>rw[ho] at hr;exact (JC hT h hG ho hr).goes
 | convert s t y=>rw[ho] at hr;exact (Fo hT h hG ho hr).goes
 | makeSlice t y z=>rw[ho] at hr;exact (Bi hT h hG ho hr).goes
 | makeFunc fn f c=>rw[ho] at hr;exact (C2 h hG ho hr).goes
 | buildSlice t n ps=>rw[ho] at hr;exact (yW hT h hG ho hr).goes
 | slice t y lo hi mx=>rw[ho] at hr;exact (ok_slice hT h hG ho hr).goes
 | call c=>rw[ho] at hr;exact sE hT hC h hG ho hr fun g l h1 h2 h3 h4=>pU hC h hG ho h1 h2 h3 h4
 | _=>rw[ho] at hr;cases hr
theorem LL (hT:dk P E.ty) (h:bG E w0 σ a w β) {t ty:TypeId} {x r:AV} {ob:List (Nat × Obj)} (hr:U2 E σ t x=some (r,ob)) {vx:Value} (hx:VR (aK E w0 σ w β) x vx) :
 ∃ v w',(Builtin.clear_ #[t] ty #[vx]).run P w = .ok v w'∧bG E w0 ⟨σ.tm,ob⟩ a w' β∧VR (aK E w0 ⟨σ.tm,ob⟩ w' β) r v:=by
 unfold U2 at hr;split at hr
 ·rename_i e sz by_ zz hD;obtain⟨T,g8,h2⟩:=aq hr;have hk:=(hT.ok t _ hD).kind;simp only[kindOk] at hk;split at h2
  ·rename_i o u off n;obtain⟨b,hb,h3⟩:=aq h2;split at h3
   ·rename_i v fr es;split at h3
    ·rename_i hc;obtain⟨c1,c2,c3,c4⟩:=hc;subst c1;subst c2;injection h3 with h3;injection h3 with h3 h4;subst h3;subst h4
     obtain⟨i,zv,i1,i2,i3,i4,i5,i6⟩:=(hT.ok v T g8).info;have cS:aH E.ty v=T.size:=by simp[aH,g8]
     have KV:zv.cells.size=T.size:=by
      have:=i5.1;rw[(hT.ok v T g8).fy.len,cS] at this;simpa using this.symm
     have sj:∀ y ∈ es,br E.ty v y:=(h.gD o _ hb).fy.1;have KW:∀ x ∈ es,(leaves x).length=T.size:=fun y hy=>by rw[(sj y hy).len,cS]
     by_cases hn:n=0
     ·subst hn;have he:es.take off++(List.replicate 0 T.zero++es.drop (off+0))=es:=by simp
      have hS:bG E w0 ⟨σ.tm,bE o ⟨.row v,fr,es⟩ σ.ob⟩ a w β:=by
       have hg:∀ q,aA q (bE o (⟨.row v,fr,es⟩:Obj) σ.ob)=aA q σ.ob:=fun q=>by
        rw[bn];split
        ·rename_i e;subst e;exact hb.symm
        ·rfl
       have mV:aK E w0 ⟨σ.tm,bE o ⟨.row v,fr,es⟩ σ.ob⟩ w β=aK E w0 σ w β:=by
        simp only[aK,hg]
       exact {
        below:=h.below,size:=h.size,defers:=h.defers
        tms:=fun t x hx=>by rw[mV];exact h.tms t x hx
        gD:=fun q b hq=>by rw[mV];rw[hg] at hq;exact h.gD q b hq
        inj:=fun q q' b b' k h1 h2=>by rw[hg] at h1 h2;exact h.inj q q' b b' k h1 h2 }
      rw[he];refine⟨.tuple #[],w,?_,hS,.undef _⟩;rcases VR.jL hx with ⟨_,_,_,q3⟩ | ⟨k,cp,arr,ee,_,_,_,_,q5⟩
      ·subst q3;simp[Builtin.clear_,run_underlying hk.1]
      ·subst q5;simp[Builtin.clear_,run_underlying hk.1]
     ·rcases VR.jL hx with ⟨_,_,q2,_⟩ | ⟨k,cp,arr,ee,g1,g2,g3,g4,g5⟩
      ·exact absurd q2 hn
      ·subst g5;obtain⟨fz,e2,k1,k2,k3⟩:=mz h hb rfl g1;have Bj:w.heap[k]? = some (.cells arr ee (0,0)):=g2;rw[k1] at Bj;injection Bj with Bj;injection Bj with q1 q2 q3;subst q1;subst q2
       have g3':(off+cp) * T.size=fz.size:=by rw[← cS];exact g3
       have hz:=pV hT g8 c4 i5 n;obtain⟨zs,hzs⟩:∃ zs,zs=(Builtin.zeroCells zv.cells n).toList:=⟨_,rfl⟩
       have E_:zs.length=n * T.size:=by rw[hzs];simp[Builtin.zeroCells,KV]
       have TA:∀ (j:Nat) (q:AV),(ay (List.replicate n T.zero))[j]? = some q→∃ u,zs[j]? = some u∧∀ (w:World) (okb:Nat→Prop),LR E.ty w okb q u:=fun j q hq=>by
        obtain⟨u,r1,r2⟩:=hz.1 j q hq;refine⟨u,?_,r2⟩;have hj:j < n * T.size:=by rw[← hz.2];exact (List.getElem?_eq_some_iff.1 hq).1
        rw[hzs,Array.getElem?_toList,← r1];simp[Builtin.zeroCells,hj,KV]
       have de:off * T.size+zs.length≤fz.size:=by
        rw[E_,← g3',← Nat.add_mul];exact Nat.mul_le_mul_right _ (by omega)
       have Fk:∀ v ∈ zs,i_ v:=fun v hv=>by
        obtain⟨j,hj,e⟩:=List.getElem_of_mem hv;have ve:j < (ay (List.replicate n T.zero)).length:=by rw[hz.2,← E_];exact hj
        obtain⟨u,r1,r2⟩:=TA j _ (List.getElem?_eq_getElem ve);rw[List.getElem?_eq_getElem hj] at r1;injection r1 with r1
        rw[← e,r1];exact (r2 w fun _=>True).one
       have fL:=eh P k (off * T.size) e2 zs 0 w fz k1 (by omega) Fk;have nR:(Builtin.clear_ #[t] ty #[.slice (some ⟨k,off * aH (aK E w0 σ w β).ty v,none⟩) n cp]).run P w = .ok (.tuple #[]) (dB w k (.cells (qC fz (off * T.size) zs) e2 (0,0))):=by
        obtain⟨m,rfl⟩:∃ m,n=m+1:=⟨n - 1,by omega⟩
        have hzv:(zeroValue v).run P w = .ok zv w:=by simp[zeroValue,typeInfo,i1,i4]
        have ajL:(storeCells ⟨k,off * aH (aK E w0 σ w β).ty v,none⟩ (Builtin.zeroCells zv.cells (m+1)).toList).run P w = .ok () (dB w k (.cells (qC fz (off * T.size) zs) e2 (0,0))):=by
         rw[← hzs,show aH (aK E w0 σ w β).ty v=T.size from cS];exact fL
        simp[Builtin.clear_,run_underlying hk.1,hzv,ajL]
       have htl:(ay (es.take off)).length=off * T.size:=by
        rw[bg T.size _ fun y hy=>KW y (List.mem_of_mem_take hy),List.length_take];congr 1;omega
       obtain⟨hW,_⟩:=h.write (b':=⟨.row v,fr,es.take off++(List.replicate n T.zero++es.drop (off+n))⟩) (arr':=qC fz (off * T.size) zs) hb g1 k1 (by simp)
        ⟨fun y hy=>by
          rcases List.mem_append.1 hy with hy | hy
          ·exact sj y (List.mem_of_mem_take hy)
          ·rcases List.mem_append.1 hy with hy | hy
           ·rw[List.eq_of_mem_replicate hy];exact (hT.ok v T g8).fy
           ·exact sj y (List.mem_of_mem_drop hy),by rw[cS];exact c4⟩ (fun j y hy=>by
        show ∃ v,_∧LR E.ty w ((aK E w0 σ w β).okb fr) y v;rw[cr,cr] at hy;rw[mT _ _ _ _ de];by_cases hj:j < off * T.size
        ·rw[List.getElem?_append_left (by omega)] at hy;obtain⟨v,r1,r2⟩:=k3 j y (eO off j hy);rw[if_neg (by omega)];exact⟨v,r1,r2⟩
        ·rw[List.getElem?_append_right (by omega),htl] at hy;by_cases vU:j - off * T.size < zs.length
         ·rw[List.getElem?_append_left (by rw[hz.2,← E_];exact vU)] at hy;rw[if_pos (by omega)];obtain⟨u,r1,r2⟩:=TA _ y hy;exact⟨u,r1,r2 _ _⟩
         ·rw[List.getElem?_append_right (by rw[hz.2,← E_];omega),jc KW] at hy;have e3:(off+n) * T.size+(j - off * T.size - (ay (List.replicate n T.zero)).length)=j:=by
           rw[hz.2,Nat.add_mul];rw[E_] at vU;omega
          rw[e3] at hy;obtain⟨v,r1,r2⟩:=k3 j y hy;rw[if_neg (by omega)];exact⟨v,r1,r2⟩)
       exact⟨_,_,nR,hW,.undef _⟩
    ·cases h3
   ·cases h3
  ·rename_i t0 fl;injection h2 with h2;injection h2 with h2 h3;subst h2;subst h3
   refine⟨.tuple #[],w,?_,h,.undef _⟩;rcases VR.lk hx with ⟨_,_,q3⟩ | ⟨k,off,cp,q1,_⟩
   ·subst q3;simp[Builtin.clear_,run_underlying hk.1]
   ·subst q1;simp[Builtin.clear_,run_underlying hk.1]
  ·cases h2
 ·cases hr
theorem wq (hT:dk P E.ty) (hC:cM P E) (h:bG E w0 σ a w β) (hG:bj E w0) (hr:dg E d σ o.op=some (x,ob)):C3 P E w0 σ a ob x o w:=by
 by_cases TB:∃ c,o.op = .call c
 ·obtain⟨c,ho⟩:=TB;rw[ho] at hr;simp only[dg] at hr;split at hr
  ·rename_i g j0;obtain⟨gv,h1,h2⟩:=aq hr;split at h2
   ·rename_i f cs;split at h2
    ·obtain⟨l,h3,h4⟩:=aq h2;exact FB hC h hG ho j0 h1 h3 h4
    ·exact sE hT hC h hG ho h2 fun g l h1 h2 h3 h4=>pU hC h hG ho h1 h2 h3 h4
   ·cases h2
  ·rename_i j0;obtain⟨l,h3,h4⟩:=aq hr;have hl:=fe h hG c.args.toList l h3;refine b9.goes ?_;split at h4
   ·rename_i y t lH;have h2:c.args.toList.length=1:=by have:=hl.1;simpa using this.symm
    obtain⟨a0,ha⟩:∃ a0,c.args.toList=[a0]:=by
     cases hq:c.args.toList with
     | nil=>rw[hq] at h2;cases h2
     | cons p r=>
       cases r with
       | nil=>exact⟨p,rfl⟩
       | cons q r=>rw[hq] at h2;simp at h2
    rw[ha] at hl;obtain⟨v,w',r1,r2,r3⟩:=LL (ty:=o.type) hT h h4 (hl.2 0 _ _ rfl rfl);refine⟨v,w',β,.inl ?_,r2,r3⟩;have e1:c.args.map a.eval = #[a.eval a0]:=by
     apply Array.ext';simp[ha]
    have e2:c.argTypes = #[t]:=by
     apply Array.ext';simp[lH]
    have:execOp a.eval o=(do pure (Next.value (← Builtin.clear_ #[t] o.type #[a.eval a0]))):=by
     simp[execOp,ho,resolve,j0,invoke,builtin,e1,e2]
    rw[this];exact bT r1
   ·cases h4
  ·exact sE hT hC h hG ho hr fun g l h1 h2 h3 h4=>pU hC h hG ho h1 h2 h3 h4
 ·have:dg E d σ o.op=aZ E d σ o.op:=by
   cases ho:o.op <;> first | rfl | exact absurd ⟨_,ho⟩ TB
  rw[this] at hr;exact zA hT hC h hG hr
theorem JD (hT:dk P E.ty) (hC:cM P E) (h:bG E w0 σ a w β) (hG:bj E w0) {N:Array Oper} {σ':St} (hr:u_ E N.toList o σ=some σ') {K:Act→World→Prop} {Q:Exit→Act→World→Prop}
 (hK:∀ a' w' β',bG E w0 σ' a' w' β'→K a' w') :
 if Region.wanted o (yielded N a.tmps) then o.wp P a w K Q else K (a.put o.dst undef) w:=by
 have run:av (aZ E (o.dst.getD 0) σ o.op) (bI E σ o.dst)=some σ'→o.wp P a w K Q:=fun hr=>by
  obtain⟨⟨x,ob⟩,h1,h2⟩:=aq hr;refine zA hT hC h hG h1 K Q fun v w' β' hS hV=>?_
  unfold bI at h2;split at h2
  ·rename_i t ht;split at h2
   ·rename_i aR;injection h2 with h2;subst h2
    rw[ht];exact hK _ _ _ (hS.put aR hV)
   ·cases h2
  ·rename_i ht;injection h2 with h2;subst h2
   rw[ht];exact hK _ _ _ hS
 unfold u_ at hr;split at hr
 ·rename_i hg;rw[if_pos (by simp[Region.wanted,hg])];exact run hr
 ·rename_i j b hg;split at hr
  ·rename_i t ht;split at hr
   ·rename_i q hq;have hy:yielded N a.tmps j=some q:=by
     obtain⟨h1,h2⟩:=h.tms t _ hq;have h3:=VR.fC h2;have h4:a.tmps[t]? = some (.bool q):=by
      have:t < a.tmps.size:=by rw[h.size];exact h1
      rw[Array.getD_eq_getD_getElem?] at h3;rw[Array.getElem?_eq_getElem this] at h3 ⊢;simpa using h3
     have h5:(N[j]?).bind (·.dst)=some t:=by
      unfold ib at ht;rw[Array.getElem?_toList] at ht;split at ht
      ·rename_i o' my;rw[my];exact ht
      ·cases ht
     simp[yielded,h5,h4]
    have hw:Region.wanted o (yielded N a.tmps)=(q==b):=by
     simp[Region.wanted,hg,hy]
    rw[hw];split at hr
    ·rename_i e;subst e;rw[if_pos (by simp)];exact run hr
    ·rename_i e;rw[if_neg (by simpa using e)];unfold bI at hr;split at hr
     ·rename_i t' sG;split at hr
      ·rename_i aR;injection hr with hr;subst hr
       rw[sG];exact hK _ _ _ (h.put aR ⟨#[],rfl,rfl,fun i x v hx=>by simp at hx⟩)
      ·cases hr
     ·rename_i sG;injection hr with hr;subst hr
      rw[sG];exact hK _ _ _ h
   ·rename_i hq;have hy:yielded N a.tmps j=none:=by
     obtain⟨h1,h2⟩:=h.tms t _ hq;obtain⟨vs,h3,CQ⟩:=h2;have h4:a.tmps[t]? = some (.tuple vs):=by
      have:t < a.tmps.size:=by rw[h.size];exact h1
      rw[Array.getD_eq_getD_getElem?] at h3;rw[Array.getElem?_eq_getElem this] at h3 ⊢;simpa using h3
     have h5:(N[j]?).bind (·.dst)=some t:=by
      unfold ib at ht;rw[Array.getElem?_toList] at ht;split at ht
      ·rename_i o' my;rw[my];exact ht
      ·cases ht
     simp[yielded,h5,h4]
    have hw:Region.wanted o (yielded N a.tmps)=false:=by
     simp[Region.wanted,hg,hy]
    rw[hw,if_neg (by simp)];unfold bI at hr;split at hr
    ·rename_i t' sG;split at hr
     ·rename_i aR;injection hr with hr;subst hr
      rw[sG];exact hK _ _ _ (h.put aR ⟨#[],rfl,rfl,fun i x v hx=>by simp at hx⟩)
     ·cases hr
    ·rename_i sG;injection hr with hr;subst hr
     rw[sG];exact hK _ _ _ h
   ·cases hr
  ·cases hr
theorem FC (hT:dk P E.ty) (hC:cM P E) (h:bG E w0 σ a w β) (hG:bj E w0) {N:Array Oper} {σ':St} (hr:yN E N.toList o σ=some σ') {K:Act→World→Prop} {Q:Exit→Act→World→Prop}
 (hK:∀ a' w' β',bG E w0 σ' a' w' β'→K a' w') :
 if Region.wanted o (yielded N a.tmps) then o.wp P a w K Q else K (a.put o.dst undef) w:=by
 have run:av (dg E (o.dst.getD 0) σ o.op) (bI E σ o.dst)=some σ'→o.wp P a w K Q:=fun hr=>by
  obtain⟨⟨x,ob⟩,h1,h2⟩:=aq hr;refine wq hT hC h hG h1 K Q fun v w' β' hS hV=>?_
  unfold bI at h2;split at h2
  ·rename_i t ht;split at h2
   ·rename_i aR;injection h2 with h2;subst h2
    rw[ht];exact hK _ _ _ (hS.put aR hV)
   ·cases h2
  ·rename_i ht;injection h2 with h2;subst h2
   rw[ht];exact hK _ _ _ hS
 unfold yN at hr;split at hr
 ·rename_i hg;rw[if_pos (by simp[Region.wanted,hg])];exact run hr
 ·rename_i j b hg;split at hr
  ·rename_i t ht;split at hr
   ·rename_i q hq;have hy:yielded N a.tmps j=some q:=by
     obtain⟨h1,h2⟩:=h.tms t _ hq;have h3:=VR.fC h2;have h4:a.tmps[t]? = some (.bool q):=by
      have:t < a.tmps.size:=by rw[h.size];exact h1
      rw[Array.getD_eq_getD_getElem?] at h3;rw[Array.getElem?_eq_getElem this] at h3 ⊢;simpa using h3
     have h5:(N[j]?).bind (·.dst)=some t:=by
      unfold ib at ht;rw[Array.getElem?_toList] at ht;split at ht
      ·rename_i o' my;rw[my];exact ht
      ·cases ht
     simp[yielded,h5,h4]
    have hw:Region.wanted o (yielded N a.tmps)=(q==b):=by
     simp[Region.wanted,hg,hy]
    rw[hw];split at hr
    ·rename_i e;subst e;rw[if_pos (by simp)];exact run hr
    ·rename_i e;rw[if_neg (by simpa using e)];unfold bI at hr;split at hr
     ·rename_i t' sG;split at hr
      ·rename_i aR;injection hr with hr;subst hr
       rw[sG];exact hK _ _ _ (h.put aR ⟨#[],rfl,rfl,fun i x v hx=>by simp at hx⟩)
      ·cases hr
     ·rename_i sG;injection hr with hr;subst hr
      rw[sG];exact hK _ _ _ h
   ·rename_i hq;have hy:yielded N a.tmps j=none:=by
     obtain⟨h1,h2⟩:=h.tms t _ hq;obtain⟨vs,h3,CQ⟩:=h2;have h4:a.tmps[t]? = some (.tuple vs):=by
      have:t < a.tmps.size:=by rw[h.size];exact h1
      rw[Array.getD_eq_getD_getElem?] at h3;rw[Array.getElem?_eq_getElem this] at h3 ⊢;simpa using h3
     have h5:(N[j]?).bind (·.dst)=some t:=by
      unfold ib at ht;rw[Array.getElem?_toList] at ht;split at ht
      ·rename_i o' my;rw[my];exact ht
      ·cases ht
     simp[yielded,h5,h4]
    have hw:Region.wanted o (yielded N a.tmps)=false:=by
     simp[Region.wanted,hg,hy]
    rw[hw,if_neg (by simp)];unfold bI at hr;split at hr
    ·rename_i t' sG;split at hr
     ·rename_i aR;injection hr with hr;subst hr
      rw[sG];exact hK _ _ _ (h.put aR ⟨#[],rfl,rfl,fun i x v hx=>by simp at hx⟩)
     ·cases hr
    ·rename_i sG;injection hr with hr;subst hr
     rw[sG];exact hK _ _ _ h
   ·cases hr
  ·cases hr
theorem tD (hT:dk P E.ty) (hC:cM P E) (hG:bj E w0) {N:Array Oper} {Q:Exit→Act→World→Prop} {σ':St}:∀ (rest:List Oper) (k:Nat) (σ:St) (a:Act) (w:World) (β:Nat→Option Nat),
 (∀ j,rest[j]? = N[k+j]?)→gS E N.toList rest σ=some σ'→bG E w0 σ a w β→(∀ a' w' β',bG E w0 σ' a' w' β'→Q .normal a' w')→wpOps P N Q (List.range' k rest.length) a w
 | [],k,σ,a,w,β,_,hr,h,hQ=>by
   simp[gS] at hr;subst hr;simp[wpOps];exact hQ _ _ _ h
 | o::rest,k,σ,a,w,β,hl,hr,h,hQ=>by
   simp only[gS] at hr;obtain⟨σ1,h1,h2⟩:=aq hr;have h0:N[k]? = some o:=by have:=hl 0;simpa using this.symm
   simp only[List.length_cons,List.range'_succ,wpOps,h0];have key:=FC (Q:=Q) hT hC h hG (N:=N) h1 (K:=wpOps P N Q (List.range' (k+1) rest.length)) fun a' w' β' hS=>
    tD hT hC hG rest (k+1) σ1 a' w' β' (fun j=>by have:=hl (j+1);rw[List.getElem?_cons_succ] at this;rw[this];congr 1;omega) h2 hS hQ
   split
   ·rename_i hw;rw[if_pos hw] at key;exact .inl key
   ·rename_i hw;rw[if_neg hw] at key;exact key
theorem yX (hT:dk P E.ty) (hC:cM P E) (hG:bj E w0) {id:Nat} {N:Array Oper} {Q:Exit→Act→World→Prop} {σ':St} (hr:gS E N.toList N.toList σ=some σ') (h:bG E w0 σ a w β)
 (hQ:∀ a' w' β',bG E w0 σ' a' w' β'→Q .normal a' w'):(Code.region id N false).wp P Q a w:=by
 refine wp_region ?_;have:=tD (Q:=Q) hT hC hG (N:=N) N.toList 0 σ a w β (fun j=>by simp) hr h hQ;rw[List.range_eq_range'];simpa using this
def LN (P:Program) (E:Env) (id:Nat) (N:Array Oper):Prop:=
 ∀ (w0:World) (σ σ':St) (a:Act) (w:World) (β:Nat→Option Nat) (Q:Exit→Act→World→Prop),bj E w0→zk E id N.toList σ=some σ'→bG E w0 σ a w β→
   (∀ a' w' β',bG E w0 σ' a' w' β'→Q .normal a' w')→(Code.region id N true).wp P Q a w
def Bq:AX→Exit
 | .norm=> .normal
 | .exit i=> .exit i
 | .ret=> .ret
theorem zB (o t:Nat) (y:AV):∀ (l:List (Nat × AV)) (u:Nat),aA u (yO o t y l)=(aA u l).map (frz o t y)
 | [],_=>rfl
 | (v,x)::r,u=>by
   simp only[yO,aA];split
   ·rfl
   ·exact zB o t y r u
theorem zC (o t:Nat) (fr:Bool) (es:List AV):∀ (l:List (Nat × Obj)) (q:Nat),aA q (sw o t fr es l)=(aA q l).map (Lf o t fr es)
 | [],_=>rfl
 | (v,x)::r,u=>by
   simp only[sw,aA];split
   ·rfl
   ·exact zC o t fr es r u
theorem zD (o t:Nat) (fr:Bool) (es:List AV):∀ l:List AV,CP o t fr es l=l.map (A_ o t fr es)
 | []=>rfl
 | x::r=>by simp[CP,zD o t fr es r]
theorem JE {o t:Nat} {fr:Bool} {es:List AV} {x:AV} (h:bq x=true):bq (A_ o t fr es x)=true:=by
 unfold A_;split
 ·split <;> rfl
 ·exact h
theorem mZ {F:AV→AV} (hF:∀ x,bq x=true→bq (F x)=true) (hN:∀ x,bq x=false→F x=x):∀ (fs:List AV) (j:Nat) (y:AV),(ay (fs.map F))[j]? = some y→∃ x,(ay fs)[j]? = some x∧(y=F x∨y=x)
 | [],j,y,h=>by simp[ay] at h
 | a::r,j,y,h=>by
   simp only[List.map_cons,ay] at h ⊢;cases hl:bq a with
   | true=>
     rw[bY (hF a hl)] at h;rw[bY hl];cases j with
     | zero=>simp at h;exact⟨a,by simp,.inl h.symm⟩
     | succ j=>obtain⟨x,h1,h2⟩:=mZ hF hN r j y (by simpa using h);exact⟨x,by simpa using h1,h2⟩
   | false=>
     rw[hN a hl] at h;by_cases hj:j < (leaves a).length
     ·rw[List.getElem?_append_left hj] at h ⊢;exact⟨y,h,.inr rfl⟩
     ·rw[List.getElem?_append_right (by omega)] at h ⊢;exact mZ hF hN r _ y h
theorem Hl {c c':Cx} {q:Nat} {u:TypeId} {f:Bool} {v:TypeId} {fs:List AV} {F:AV→AV} (h0:zo c q ⟨.box u,f,[.st v fs]⟩) (e1:c'.ty=c.ty) (e2:c'.β q=c.β q) (e3:c'.new=c.new) (e4:c'.w=c.w)
 (hF:∀ x,bq x=true→bq (F x)=true) (hN:∀ x,bq x=false→F x=x) (key:∀ x z,OR c x z→OR c' (F x) z∧OR c' x z):zo c' q ⟨.box u,f,[.st v (fs.map F)]⟩:=by
 obtain⟨x,hx,hc⟩:=h0.fy;injection hx with hx;subst hx
 have fp:br c.ty u (.st v (fs.map F)):=by
  cases hc with
  | leaf _ _ _ h4=>cases h4
  | st h4 h5 h6 h7=>
    refine .st h4 (by rw[List.length_map];exact h5) h6 fun i x z hx hz=>?_
    rw[List.getElem?_map] at hx;cases hy:fs[i]? with
    | none=>rw[hy] at hx;cases hx
    | some y=>
      rw[hy] at hx;injection hx with hx;subst hx
      have Vd:=h7 i y z hy hz;cases Vd with
      | leaf q1 q2 q3 q4=>exact .leaf q1 q2 q3 (hF _ q4)
      | st=>rw[hN _ rfl];exact h7 i _ z hy hz
      | ar=>rw[hN _ rfl];exact h7 i _ z hy hz
 refine⟨⟨_,rfl,by rw[e1];exact fp⟩,?_⟩;have dJ:=h0.eQ;rw[e2];cases hβ:c.β q with
 | none=>
   simp only[hβ] at dJ;obtain⟨⟨t2,ht2⟩,_⟩:=dJ;cases ht2
 | some k=>
   simp only[hβ] at dJ ⊢;obtain⟨mw,arr,e,g1,g2⟩:=dJ;refine⟨by rw[e3];exact mw,arr,e,by rw[e4];exact g1,fun j x hx=>?_⟩;have e1:ay [AV.st v (fs.map F)]=ay (fs.map F):=by simp only[ay,leaves,List.append_nil]
   have e2:ay [AV.st v fs]=ay fs:=by simp only[ay,leaves,List.append_nil]
   rw[e1] at hx;obtain⟨y,h1,h2⟩:=mZ hF hN fs j x hx;obtain⟨v',r1,r2⟩:=g2 j y (by rw[e2];exact h1);rcases h2 with rfl | rfl
   ·exact⟨v',r1,(key y v' r2).1⟩
   ·exact⟨v',r1,(key x v' r2).2⟩
theorem LO {o t:Nat} {fr:Bool} {es:List AV} {x:AV} (h:bq x=false):A_ o t fr es x=x:=by
 unfold A_;split
 ·cases h
 ·rfl
theorem bG.Vp (hL:∀ k,¬ E.lent k) (h:bG E w0 σ a w β) {o t:Nat} {fr:Bool} {es:List AV} (hb:aA o σ.ob=some ⟨.row t,fr,es⟩) :
 bG E w0 ⟨σ.tm,sw o t fr es (cK o σ.ob)⟩ a w β:=by
 have aw:∀ q b,aA q (sw o t fr es (cK o σ.ob))=some b→q ≠ o∧∃ b0,aA q σ.ob=some b0∧b=Lf o t fr es b0:=fun q b hq=>by
  rw[zC,cZ] at hq;split at hq
  ·cases hq
  ·rename_i e;cases jB:aA q σ.ob with
   | none=>rw[jB] at hq;cases hq
   | some b0=>rw[jB] at hq;injection hq with hq;exact⟨Ne.symm e,b0,rfl,hq.symm⟩
 have m:mS (aK E w0 σ w β) (aK E w0 ⟨σ.tm,sw o t fr es (cK o σ.ob)⟩ w β):={
  ty:=rfl,base:=rfl,new:=rfl,size:=Nat.le_refl _
  cA:=fun k hk hl=>⟨fun lh=>lh.elim (fun q=>hk (.inl q)) fun⟨q,b',h1,h2⟩=>by
   obtain⟨_,b0,h3,_⟩:=aw q b' h1;exact hk (.inr ⟨q,b0,h3,h2⟩),rfl⟩
  rows:=fun k arr' e' hk=>⟨arr',hk,rfl⟩ }
 have hO:=h.gD o _ hb;have ja:∀ x ∈ es,br E.ty t x:=hO.fy.1;have key:∀ x v,OR (aK E w0 σ w β) x v→OR (aK E w0 ⟨σ.tm,sw o t fr es (cK o σ.ob)⟩ w β) (A_ o t fr es x) v:=fun x v hx=>by
  have hm:=m.or hx fun _ _=>rfl
  unfold A_;split;rotate_left
  ·exact hm
  rename_i o' t' i n;split;rotate_left
  ·exact hm
  rename_i e;obtain⟨rfl,rfl,e3,e4⟩:=e;cases hx with
  | cl hl=>cases hl
  | l8 _ _ hn=>
    have:es=[]:=List.eq_nil_of_length_eq_zero e4.symm;subst this;exact OR.cl (.sx t' _ _ (by simp) rfl)
  | own _ _ _ _ k cp arr e hk hh hs hle=>
    subst e3 e4;have sH:=hO.eQ;have hk':β o'=some k:=hk;simp only[aK,hk'] at sH;obtain⟨mw,fz,e2,g1,g2⟩:=sH;have hh':w.heap[k]? = some (.cells arr e (0,0)):=hh;rw[hh'] at g1;injection g1 with g1
    injection g1 with g1 _ _
    subst g1;have hk0:w0.heap.size≤k:=mw.elim id fun hl=>absurd hl.1 (hL k)
    have FD:¬ (aK E w0 ⟨σ.tm,sw o' t' fr es (cK o' σ.ob)⟩ w β).mu k:=fun lh=>by
     rcases lh with z | ⟨q,b',q1,q2⟩
     ·have:=z.1;omega
     ·obtain⟨d_,b0,h3,_⟩:=aw q b' q1;exact d_ (h.inj q o' b0 _ k h3 hb q2 hk')
    have Jw:(aK E w0 ⟨σ.tm,sw o' t' fr es (cK o' σ.ob)⟩ w β).okb fr k:=⟨FD,fun _=>Nat.le_trans (jV _ _) hk0⟩
    have ig:∀ (j:Nat) (z:AV),(ay es)[j]? = some z→∃ v,w.cell? ⟨k,0 * aH E.ty t'+j,none⟩=some v∧LR E.ty w ((aK E w0 ⟨σ.tm,sw o' t' fr es (cK o' σ.ob)⟩ w β).okb fr) z v:=fun j z hz=>by
     obtain⟨v,r1,r2⟩:=g2 j z hz;exact⟨v,by rw[Nat.zero_mul,Nat.zero_add,lg w k j _ _ _ hh'];exact r1,m.lr r2⟩
    obtain⟨us,f1,f2⟩:=eR (ay es) (fun j z v=>w.cell? ⟨k,0 * aH E.ty t'+j,none⟩=some v∧LR E.ty w ((aK E w0 ⟨σ.tm,sw o' t' fr es (cK o' σ.ob)⟩ w β).okb fr) z v) ig;have Bm:∀ (j:Nat) (z:AV),(ay es)[j]? = some z→us[j]? = some (us.getD j undef):=fun j z hz=>by
     have:j < us.length:=by rw[f1];exact (List.getElem?_eq_some_iff.1 hz).1
     simp[this]
    exact OR.cl (.sl t' ⟨fr,none,false⟩ es k (0 * aH E.ty t') cp (fun j=>us.getD j undef) hle (by simp) (by simp) (fun _=>⟨Jw,(Array.getElem?_eq_some_iff.1 hh').1⟩) ja (fun j z hz=>(f2 j z _ hz (Bm j z hz)).1) (fun j z hz=>(f2 j z _ hz (Bm j z hz)).2))
 exact {
  below:=h.below,size:=h.size,defers:=h.defers
  tms:=fun u x hx=>⟨(h.tms u x hx).1,m.vr (h.tms u x hx).2 fun _ _=>rfl⟩
  gD:=fun q b hq=>by
   obtain⟨d_,b0,h3,rfl⟩:=aw q b hq;have h0:=h.gD q b0 h3;have hm:=m.KT h0 (fun _ _=>rfl) rfl fun _ _=>rfl
   unfold Lf;split;rotate_left
   ·exact hm
   rename_i u f v fs;split;rotate_left
   ·exact hm
   rename_i sk;rw[zD];exact Hl h0 rfl rfl rfl rfl (fun x hx=>JE hx) (fun x hx=>LO hx) fun x z hx=>⟨key x z hx,m.or hx fun _ _=>rfl⟩
  inj:=fun q q' b b' k h1 h2=>by
   obtain⟨_,b0,h3,_⟩:=aw q b h1;obtain⟨_,b0',CQ,_⟩:=aw q' b' h2;exact h.inj q q' b0 b0' k h3 CQ }
theorem bG.lP (hL:∀ k,¬ E.lent k) (h:bG E w0 σ a w β) (o:Nat):bG E w0 (σ.lP o) a w β:=by
 unfold St.lP;split;rotate_left
 ·exact h
 rename_i b hb;unfold Qp;split;rotate_left
 ·rename_i hb;exact h.Vp hL hb
 ·exact h
 rename_i t fr y;split;rotate_left
 ·exact h
 rename_i nR;have aw:∀ q b,aA q (cK o σ.ob)=some b→q ≠ o∧aA q σ.ob=some b:=fun q b hq=>by
  rw[cZ] at hq;split at hq
  ·cases hq
  ·rename_i e;exact⟨Ne.symm e,hq⟩
 have m:mS (aK E w0 σ w β) (aK E w0 ⟨yO o t y σ.tm,cK o σ.ob⟩ w β):={
  ty:=rfl,base:=rfl,new:=rfl,size:=Nat.le_refl _
  cA:=fun k hk hl=>⟨fun lh=>lh.elim (fun q=>hk (.inl q)) fun⟨q,b',h1,h2⟩=>hk (.inr ⟨q,b',(aw q b' h1).2,h2⟩),rfl⟩
  rows:=fun k arr' e' hk=>⟨arr',hk,rfl⟩ }
 have hO:=h.gD o _ hb;have ja:br E.ty t y:=by
  obtain⟨x,e1,e2⟩:=hO.fy;injection e1 with e1;subst e1;exact e2
 exact {
  below:=h.below,size:=h.size,defers:=h.defers
  tms:=fun u x hx=>by
   rw[zB] at hx;cases Qa:aA u σ.tm with
   | none=>rw[Qa] at hx;cases hx
   | some x0=>
     rw[Qa] at hx;injection hx with hx
     obtain⟨h1,h2⟩:=h.tms u x0 Qa;refine⟨h1,?_⟩;unfold frz at hx;split at hx
     ·rename_i o' u';split at hx
      ·rename_i e;subst e;subst hx;obtain⟨k,d,e1,e2,e3⟩:=VR.kF h2;have hd:d=0:=by simp[ky,fX] at e3;exact e3.symm
       subst hd;have Qv:β o'=some k:=e2;have sH:=hO.eQ;simp only[aK,Qv] at sH;obtain⟨mw,arr,e,g1,g2⟩:=sH;have hk0:w0.heap.size≤k:=mw.elim id fun hl=>absurd hl.1 (hL k)
       have FD:¬ (aK E w0 ⟨yO o' t y σ.tm,cK o' σ.ob⟩ w β).mu k:=fun lh=>by
        rcases lh with z | ⟨q,b',q1,q2⟩
        ·have:=z.1;omega
        ·have:=aw q b' q1;exact this.1 (h.inj q o' b' _ k this.2 hb q2 Qv)
       have Jw:(aK E w0 ⟨yO o' t y σ.tm,cK o' σ.ob⟩ w β).okb (iw y) k:=⟨FD,fun _=>Nat.le_trans (jV _ _) hk0⟩
       have ig:∀ (j:Nat) (z:AV),(leaves y)[j]? = some z→∃ v,w.cell? ⟨k,0+j,none⟩=some v∧LR E.ty w ((aK E w0 ⟨yO o' t y σ.tm,cK o' σ.ob⟩ w β).okb (iw y)) z v:=fun j z hz=>by
        obtain⟨v,r1,r2⟩:=g2 j z (by simpa[ay] using hz);refine⟨v,by rw[Nat.zero_add,lg w k j _ _ _ g1];exact r1,?_⟩;have KV:=(iL ja).1 nR z (List.mem_of_getElem? hz);unfold fw at r2;dsimp only at r2;have hfz:iw y=true→jw z=true:=fun hn=>sD ja hn z (List.mem_of_getElem? hz)
        have vg:bq z=true:=by rcases r2 with _ | _ | _ | _ | _ | _ <;> first | rfl | exact LR.leaf ‹_›
        have r3:=r2.lr KV (fr:=iw y) (fun hn=>by
         have hf:=hfz hn;cases z <;> first | rfl | exact hf | cases vg | (simp[closed] at KV))
        exact m.lr r3
       obtain⟨us,f1,f2⟩:=eR (leaves y) (fun j z v=>w.cell? ⟨k,0+j,none⟩=some v∧LR E.ty w ((aK E w0 ⟨yO o' t y σ.tm,cK o' σ.ob⟩ w β).okb (iw y)) z v) ig;have Bm:∀ (j:Nat) (z:AV),(leaves y)[j]? = some z→us[j]? = some (us.getD j undef):=fun j z hz=>by
        have:j < us.length:=by rw[f1];exact (List.getElem?_eq_some_iff.1 hz).1
        simp[this]
       rw[e1];exact OR.cl (.ro (iw y) t y k 0 (fun j=>us.getD j undef) Jw (Array.getElem?_eq_some_iff.1 g1).1 ja (fun j z hz=>(f2 j z _ hz (Bm j z hz)).1) (fun j z hz=>(f2 j z _ hz (Bm j z hz)).2))
      ·subst hx;exact m.vr h2 fun _ _=>rfl
     ·subst hx;exact m.vr h2 fun _ _=>rfl
  gD:=fun q b' hq=>m.KT (h.gD q b' (aw q b' hq).2) (fun _ _=>rfl) rfl fun _ _=>rfl
  inj:=fun q q' b b' k h1 h2=>h.inj q q' b b' k (aw q b h1).2 (aw q' b' h2).2 }
theorem bG.freeze:∀ (l:List Nat) {σ:St},(l ≠ []→∀ k,¬ E.lent k)→bG E w0 σ a w β→bG E w0 (σ.freeze l) a w β
 | [],_,_,h=>h
 | o::r,_,hL,h=>bG.freeze r (fun _=>hL (by simp)) (h.lP (hL (by simp)) o)
def gk (P:Program) (E:Env):Code→Prop
 | .region id N true=>LN P E id N
 | .seq a b=>gk P E a∧gk P E b
 | .cond _ a b=>gk P E a∧gk P E b
 | .block _ c=>gk P E c
 | .loop c=>gk P E c
 | _=>True
def Hm (E:Env) (w0:World) (e:AX) (σ':St):Exit→Act→World→Prop:=fun e' a' w'=>e'=Bq e∧∃ β',bG E w0 σ' a' w' β'
theorem fZ {α:Type} (l:List (Nat × α)):∀ (ts:List Nat) (t:Nat) (v:α),aA t (aQ l ts)=some v→aA t l=some v
 | [],t,v,h=>by simp[aQ,aA] at h
 | u::r,t,v,h=>by
   simp only[aQ] at h;split at h
   ·rename_i y hy;simp only[aA] at h;split at h
    ·rename_i e;subst e;injection h with h;subst h;exact hy
    ·exact fZ l r t v h
   ·exact fZ l r t v h
theorem nV {α:Type} (K:Nat):∀ (l:List (Nat × α)) (t:Nat) (v:α),(∀ u x,(u,x) ∈ l→True)→aA t (kept K l)=some v→(inK K t=true∧aA t l=some v)
 | [],t,v,_,h=>by simp[kept,aA] at h
 | (u,x)::r,t,v,hh,h=>by
   simp only[kept] at h;split at h
   ·rename_i hk;simp only[aA] at h ⊢;split at h
    ·rename_i e;subst e;exact⟨hk,by simpa using h⟩
    ·rename_i e;obtain⟨a,b⟩:=nV K r t v (fun _ _ _=>trivial) h;exact⟨a,by rw[if_neg e];exact b⟩
   ·rename_i hk;obtain⟨a,b⟩:=nV K r t v (fun _ _ _=>trivial) h;refine⟨a,?_⟩;simp only[aA];rw[if_neg]
    ·exact b
    ·rintro rfl;exact hk a
theorem then_eq {r:Option (AX × St)} {f:St→Option (AX × St)} {e:AX} {σ':St} (h:nx r f=some (e,σ')):(∃ σ1,r=some (.norm,σ1)∧f σ1=some (e,σ'))∨(r=some (e,σ')∧e ≠ .norm):=by
 unfold nx at h;split at h
 ·rename_i σ1;exact .inl ⟨σ1,rfl,h⟩
 ·rename_i d_;refine .inr ⟨h,?_⟩;rintro rfl;exact d_ _ h
theorem bG.TC {E:Env} {w0 w:World} {σ:St} {a:Act} {β:Nat→Option Nat} (h:bG E w0 σ a w β) {t:Nat} {y:AV} (ht:t < E.n) (hy:VR (aK E w0 σ w β) y (a.tmps.getD t undef)):bG E w0 ⟨bE t y σ.tm,σ.ob⟩ a w β where
 below:=h.below
 size:=h.size
 defers:=h.defers
 tms:=fun u z hz=>by
  simp only[bn] at hz;split at hz
  ·rename_i e;subst e;injection hz with hz;subst hz
   exact⟨ht,hy⟩
  ·exact h.tms u z hz
 gD:=h.gD
 inj:=h.inj
theorem bG.LP {E:Env} {w0 w:World} {σ:St} {a:Act} {β:Nat→Option Nat} (h:bG E w0 σ a w β) {o:Nat} {u:TypeId} {f:Bool} {v:TypeId} {fs:List AV} {F:AV→AV} (hb:aA o σ.ob=some ⟨.box u,f,[.st v fs]⟩)
 (hF:∀ x,bq x=true→bq (F x)=true) (hN:∀ x,bq x=false→F x=x) (key:∀ x z,OR (aK E w0 σ w β) x z→OR (aK E w0 σ w β) (F x) z):bG E w0 ⟨σ.tm,bE o ⟨.box u,f,[.st v (fs.map F)]⟩ σ.ob⟩ a w β:=by
 have aw:∀ q b,aA q (bE o ⟨.box u,f,[.st v (fs.map F)]⟩ σ.ob)=some b→∃ b0,aA q σ.ob=some b0∧((q=o∧b0=⟨.box u,f,[.st v fs]⟩∧b=⟨.box u,f,[.st v (fs.map F)]⟩)∨b=b0):=fun q b hq=>by
  rw[bn] at hq;split at hq
  ·rename_i e;subst e;injection hq with hq;exact⟨_,hb,.inl ⟨rfl,rfl,hq.symm⟩⟩
  ·exact⟨b,hq,.inr rfl⟩
 have m:mS (aK E w0 σ w β) (aK E w0 ⟨σ.tm,bE o ⟨.box u,f,[.st v (fs.map F)]⟩ σ.ob⟩ w β):={
  ty:=rfl,base:=rfl,new:=rfl,size:=Nat.le_refl _
  cA:=fun k hk hl=>⟨fun lh=>lh.elim (fun q=>hk (.inl q)) fun⟨q,b',h1,h2⟩=>by
   obtain⟨b0,h3,_⟩:=aw q b' h1;exact hk (.inr ⟨q,b0,h3,h2⟩),rfl⟩
  rows:=fun k arr' e' hk=>⟨arr',hk,rfl⟩ }
 exact {
  below:=h.below,size:=h.size,defers:=h.defers
  tms:=fun u x hx=>⟨(h.tms u x hx).1,m.vr (h.tms u x hx).2 fun _ _=>rfl⟩
  gD:=fun q b hq=>by
   obtain⟨b0,h3,⟨rfl,rfl,rfl⟩ | rfl⟩:=aw q b hq
   ·exact Hl (h.gD q _ h3) rfl rfl rfl rfl hF hN fun x z hx=>⟨m.or (key x z hx) fun _ _=>rfl,m.or hx fun _ _=>rfl⟩
   ·exact m.KT (h.gD q b h3) (fun _ _=>rfl) rfl fun _ _=>rfl
  inj:=fun q q' b b' k h1 h2=>by
   obtain⟨b0,h3,_⟩:=aw q b h1;obtain⟨b0',CQ,_⟩:=aw q' b' h2;exact h.inj q q' b0 b0' k h3 CQ }
theorem bG.TD (h:bG E w0 σ a w β) {c o:Nat} {b:Obj} {t:TypeId} (hr:b.r = .row t) (ho:aA o σ.ob=some b) (hc:o=c∨σ.free c=true):∃ β',bG E w0 ⟨σ.tm,bE c b (cK o σ.ob)⟩ a w β'∧β' c=β o∧β' o=β o:=by
 by_cases e:o=c
 ·subst e;refine⟨β,h.less (fun t x hx=>hx) (fun q b' hq=>?_),rfl,rfl⟩;rw[bn,cZ] at hq;split at hq
  ·rename_i e;subst e;injection hq with hq;rw[ho,hq]
  ·rename_i e;exact hq
 ·exact⟨_,h.move (hc.resolve_left e) hr ho e,if_pos rfl,if_neg e⟩
theorem bG.slot (h:bG E w0 σ a w β) (t c:Nat) (e:TypeId):∃ β',bG E w0 (σ.slot E.ty t c e) a w β':=by
 unfold St.slot;split
 ·rename_i o u n ht;split
  ·rename_i v fr es hb;split
   ·rename_i hc;obtain⟨β',hM,hβ,_⟩:=h.TD (b:=⟨.row v,fr,es⟩) rfl hb hc;obtain⟨h1,h2⟩:=h.tms t _ ht;refine⟨β',hM.TC h1 ?_⟩;rcases VR.jL h2 with ⟨q0,_,q2,q3⟩ | ⟨k,cp,arr,e',g1,g2,g3,g4,g5⟩
    ·subst q2;rw[q3];exact .l8 c u (by simp[aK,hβ];exact q0)
    ·rw[g5];exact .own c u 0 n k cp arr e' (by simp[aK,hβ];exact g1) g2 g3 g4
   ·exact⟨β,h⟩
  ·exact⟨β,h⟩
 ·rename_i u fl es ht;split
  ·rename_i T Jz;split
   ·rename_i hc;have hN:=h.Bn (d:=c) hc.2.2 (t:=e) (fr:=true) (by simp[aH,Jz];exact hc.2.1);obtain⟨h1,h2⟩:=h.tms t _ ht;refine⟨_,hN.TC h1 ?_⟩;rcases VR.lk h2 with ⟨_,_,q⟩ | ⟨_,_,_,_,_,q,_⟩
    ·rw[q];exact .l8 c e (by simp[aK])
    ·exact absurd hc.1 q
   ·exact⟨β,h⟩
  ·exact⟨β,h⟩
 ·rename_i o ub ht;split;rotate_left
  ·exact⟨β,h⟩
  rename_i u f v fs hb;split
  ·rename_i q hq;split;rotate_left
   ·exact⟨β,h⟩
   rename_i v' fr es wu;split;rotate_left
   ·exact⟨β,h⟩
   rename_i hc;have hoq:o ≠ q:=by rintro rfl;rw[hb] at wu;injection wu with wu;cases wu
   have hoc:o ≠ c:=by
    rintro rfl;rcases hc with hc | hc
    ·exact hoq hc.symm
    ·simp only[St.free,Bool.and_eq_true] at hc;have:=iI hc.1 t _ ht;simp[bA] at this
   obtain⟨β',hM,h1,h2⟩:=h.TD (b:=⟨.row v',fr,es⟩) rfl wu hc;refine⟨β',hM.LP (F:=jS q c) (by rw[bn,if_neg (Ne.symm hoc),cZ,if_neg (Ne.symm hoq)];exact hb) (fun x hx=>?_) (fun x hx=>?_) fun x z hx=>?_⟩
   ·unfold jS;split
    ·split <;> rfl
    ·exact hx
   ·unfold jS;split
    ·cases hx
    ·rfl
   ·unfold jS;split;rotate_left
    ·exact hx
    split;rotate_left
    ·exact hx
    rename_i e;subst e;cases hx with
    | cl hl=>cases hl
    | l8 _ _ hn=>exact .l8 c _ (by simp only[aK] at hn ⊢;rw[h1,← h2];exact hn)
    | own _ _ _ _ k cp arr e2 hk hh hs hle=>exact .own c _ _ _ k cp arr e2 (by simp only[aK] at hk ⊢;rw[h1,← h2];exact hk) hh hs hle
  ·split;rotate_left
   ·exact⟨β,h⟩
   rename_i T Jz;split;rotate_left
   ·exact⟨β,h⟩
   rename_i hc;have hoc:o ≠ c:=by
    rintro rfl;have hc:=hc.2;simp only[St.free,Bool.and_eq_true] at hc;have:=iI hc.1 t _ ht;simp[bA] at this
   have hN:=h.Bn (d:=c) hc.2 (t:=e) (fr:=true) (by simp[aH,Jz];exact hc.1);refine⟨_,hN.LP (F:=jT c e) (by rw[bn,if_neg (Ne.symm hoc)];exact hb) (fun x hx=>?_) (fun x hx=>?_) fun x z hx=>?_⟩
   ·unfold jT;split
    ·split <;> rfl
    ·exact hx
   ·unfold jT;split
    ·cases hx
    ·rfl
   ·unfold jT;split;rotate_left
    ·exact hx
    split;rotate_left
    ·exact hx
    rename_i e2;cases hx with
    | cl hl=>
      cases hl with
      | sx _ _ _ q1 q2=>subst q2;exact .l8 c _ (by simp[aK])
      | sl _ _ _ _ _ _ _ _ q1=>exact absurd e2.2 q1
 ·exact⟨β,h⟩
theorem bG.nw:∀ (l:List (Nat × Nat × TypeId)) {σ:St} {β:Nat→Option Nat},bG E w0 σ a w β→∃ β',bG E w0 (σ.nw E.ty l) a w β'
 | [],σ,β,h=>⟨β,h⟩
 | s::r,σ,β,h=>by
   obtain⟨β1,h1⟩:=h.slot s.1 s.2.1 s.2.2;exact bG.nw r h1
theorem pW (hZ:(∃ id,E.Z id ≠ [])→∀ k,¬ E.lent k) (hT:dk P E.ty) (hC:cM P E) (hG:bj E w0) {H:Nat→Hint} {k:Nat}:∀ (c:Code) (σ σ':St) (e:AX),gk P E c→a9 E H k c σ=some (e,σ')→∀ (a:Act) (w:World) (β:Nat→Option Nat),bG E w0 σ a w β→
 c.wp P (Hm E w0 e σ') a w:=by
 intro c
 induction c with
 | skip=>
   intro σ σ' e _ hr a w β h;simp only[a9] at hr;injection hr with hr;injection hr with h1 h2;subst h1;subst h2
   exact wp_skip ⟨rfl,β,h⟩
 | region id N dr=>
   intro σ σ' e hd hr a w β h;have less:∀ {σ1:St} {a':Act} {w':World} {β':Nat→Option Nat},bG E w0 σ1 a' w' β'→bG E w0 (kR E σ1) a' w' β':=fun hS=>
    hS.less (fun t x hx=>(nV _ _ t x (fun _ _ _=>trivial) hx).2) (fun o b hb=>hb)
   cases dr with
   | false=>
     simp only[a9] at hr;obtain⟨σ1,h1,h2⟩:=aq hr;injection h2 with h2;injection h2 with h2 h3;subst h2;subst h3
     exact yX hT hC hG h1 (h.freeze _ fun d_=>hZ ⟨id,d_⟩) fun a' w' β' hS=>⟨rfl,β',less hS⟩
   | true=>
     simp only[a9] at hr;obtain⟨σ1,h1,h2⟩:=aq hr;injection h2 with h2;injection h2 with h2 h3;subst h2;subst h3
     exact hd w0 σ σ1 a w β _ hG h1 h fun a' w' β' hS=>⟨rfl,β',less hS⟩
 | seq c1 c2 KX LQ=>
   intro σ σ' e hd hr a w β h;simp only[a9] at hr;refine wp_seq ?_;rcases then_eq hr with ⟨σ1,h1,h2⟩ | ⟨h1,h2⟩
   ·refine wp_mono (KX σ σ1 .norm hd.1 h1 a w β h) fun e' a' w' hp=>?_
    obtain⟨he,β',hS⟩:=hp;subst he;exact LQ σ1 σ' e hd.2 h2 a' w' β' hS
   ·refine wp_mono (KX σ σ' e hd.1 h1 a w β h) fun e' a' w' hp=>?_
    obtain⟨he,β',hS⟩:=hp;subst he;cases e with
    | norm=>exact absurd rfl h2
    | exit i=>exact⟨rfl,β',hS⟩
    | ret=>exact⟨rfl,β',hS⟩
 | cond cc c1 c2 KX LQ=>
   intro σ σ' e hd hr a w β h;simp only[a9] at hr;obtain⟨q,h1,h2⟩:=aq hr;have hq:=bt h hG h1;split at h2
   ·rename_i b;refine wp_cond (VR.fC hq) ?_;split at h2
    ·rename_i e1;subst e1;exact KX σ σ' e hd.1 h2 a w β h
    ·rename_i e1;have:b=false:=by simpa using e1
     subst this;exact LQ σ σ' e hd.2 h2 a w β h
   ·cases h2
 | block id c ih=>
   intro σ σ' e hd hr a w β h;simp only[a9] at hr;refine wp_block ?_;unfold inBlock at hr;split at hr
   ·rename_i i σ1 h1;refine wp_mono (ih σ σ1 (.exit i) hd h1 a w β h) fun e' a' w' hp=>?_
    obtain⟨he,β',hS⟩:=hp;subst he;simp only[Bq,Exit.inBlock];split at hr
    ·rename_i e1;injection hr with hr;injection hr with h2 h3;subst h2;subst h3
     rw[if_pos e1];exact⟨rfl,β',hS⟩
    ·rename_i e1;injection hr with hr;injection hr with h2 h3;subst h2;subst h3
     rw[if_neg e1];exact⟨rfl,β',hS⟩
   ·rename_i d_;refine wp_mono (ih σ σ' e hd hr a w β h) fun e' a' w' hp=>?_
    obtain⟨he,β',hS⟩:=hp;subst he;cases e with
    | norm=>exact⟨rfl,β',hS⟩
    | exit i=>exact absurd hr (d_ i σ')
    | ret=>exact⟨rfl,β',hS⟩
 | loop c ih=>
   intro σ σ' e hd hr a w β h;simp only[a9] at hr;refine wp_loop_rounds k ?_;generalize H (kE c)=hint at hr;have as8:∀ {σ:St} {a:Act} {w:World} {β:Nat→Option Nat},bG E w0 σ a w β→bG E w0 (σ.fin hint) a w β:=fun {σ a w β} hS=>by
    unfold St.fin;split
    ·exact hS
    ·exact hS.less (fun t x hx=>fZ _ _ t x hx) (fun o b hb=>fZ _ _ o b hb)
   obtain⟨σ2,Dc,acv⟩:∃ σ2,aG E.ty (a9 E H k c) hint k σ=some (e,σ2)∧σ'=σ2.fin hint:=by
    unfold post at hr;split at hr
    ·rename_i x σ2 h1;injection hr with hr;injection hr with h2 h3;subst h2
     exact⟨σ2,h1,h3.symm⟩
    ·cases hr
   subst acv;have key:∀ (n:Nat) (σ:St) (a:Act) (w:World) (β:Nat→Option Nat),aG E.ty (a9 E H k c) hint n σ=some (e,σ2)→bG E w0 σ a w β→Code.rounds P c (Hm E w0 e (σ2.fin hint)) n a w:=by
    intro n
    induction n with
    | zero=>intro σ a w β hr _;simp[aG] at hr
    | succ n ihn=>
      intro σ a w β hr h;rw[rounds_succ];simp only[aG] at hr;have h00:bG E w0 (σ.cA hint) a w β:=h.less (fun t x hx=>fZ _ _ t x hx) (fun o b hb=>fZ _ _ o b hb);obtain⟨β0,h0⟩:=h00.nw hint.sl;rcases then_eq hr with ⟨σ1,h1,h2⟩ | ⟨h1,h2⟩
      ·refine wp_mono (ih _ σ1 .norm hd h1 a w β0 h0) fun e' a' w' hp=>?_
       obtain⟨he,β',hS⟩:=hp;subst he;exact ihn σ1 a' w' β' h2 hS
      ·refine wp_mono (ih _ σ2 e hd h1 a w β0 h0) fun e' a' w' hp=>?_
       obtain⟨he,β',hS⟩:=hp;subst he;cases e with
       | norm=>exact absurd rfl h2
       | exit i=>exact⟨rfl,β',as8 hS⟩
       | ret=>exact⟨rfl,β',as8 hS⟩
   exact key k σ a w β Dc h
 | exit id=>
   intro σ σ' e _ hr a w β h;simp only[a9] at hr;injection hr with hr;injection hr with h1 h2;subst h1;subst h2
   exact wp_exit ⟨rfl,β,h⟩
 | ret=>
   intro σ σ' e _ hr a w β h;simp only[a9] at hr;injection hr with hr;injection hr with h1 h2;subst h1;subst h2
   exact wp_ret ⟨rfl,β,h⟩
 | _=>intro σ σ' e _ hr;simp[a9] at hr
end
end Go.Abs
end
section
namespace Go.Abs
open Go Go.RowKit
def qJ:Go.Obj→Bool
 | .loop _=>true
 | .deferred _=>true
 | _=>false
structure dC (w w':World):Prop where
 os:w'.os=w.os
 tape:w'.tape=w.tape
 output:w'.output=w.output
 size:w.heap.size≤w'.heap.size
 same:∀ (k:Nat) (o:Go.Obj),w.heap[k]? = some o→qJ o=false→w'.heap[k]? = some o
theorem dC.refl (w:World):dC w w:=⟨rfl,rfl,rfl,Nat.le_refl _,fun _ _ h _=>h⟩
theorem dC.trans {a b c:World} (h:dC a b) (k:dC b c):dC a c:=⟨k.os.trans h.os,k.tape.trans h.tape,k.output.trans h.output,Nat.le_trans h.size k.size,fun i o hi ho=>k.same i o (h.same i o hi ho) ho⟩
theorem dC.put {w:World} {l:Nat} {o:Go.Obj} (ho:w.heap[l]? = some o) (hb:qJ o=true) (o':Go.Obj):dC w (w.putObj l o'):=
 ⟨rfl,rfl,rfl,by simp,fun k x hk hx=>by
   by_cases e:k=l
   ·subst e;rw[ho] at hk;cases hk;rw[hb] at hx;cases hx
   ·exact (World.putObj_heap_other e).trans hk⟩
theorem dC.below {w w':World} (h:Below w.heap.size w w'):dC w w':=⟨h.os,h.tape,h.output,h.size,fun k o hk _=>(h.block k (Array.getElem?_eq_some_iff.1 hk).1).trans hk⟩
theorem dC.cell {w w':World} (h:dC w w') {a:Addr} {v:Value} (hc:w.cell? a=some v):w'.cell? a=some v:=by
 have:∃ o:Go.Obj,w.heap[a.block]? = some o∧qJ o=false:=by
  unfold World.cell? at hc;cases ho:w.heap[a.block]? with
  | none=>simp[ho] at hc
  | some o=>exact⟨o,rfl,by cases o <;> simp_all [qJ]⟩
 obtain⟨o,h1,h2⟩:=this;rw[← hc];exact World.cell?_of_block ((h.same _ o h1 h2).trans h1.symm)
theorem LR.book {ty:bX} {w w':World} {okb:Nat→Prop} {x:AV} {v:Value} (h:LR ty w okb x v) (hb:dC w w'):LR ty w' okb x v:=by
 induction h with
 | int k n=>exact .int k n
 | bool b=>exact .bool b
 | str s=>exact .str s
 | iu=>exact .iu
 | dY=>exact .dY
 | fn f cs us h1 _ ih=>exact .fn f cs us h1 ih
 | sx t fl c h1 h2=>exact .sx t fl c h1 h2
 | sl t fl es eQ off c vs h1 h2 h3 h4 h5 h6 h7 ih=>
   exact .sl t fl es eQ off c vs h1 h2 h3 (fun d_=>⟨(h4 d_).1,Nat.lt_of_lt_of_le (h4 d_).2 hb.size⟩) h5 (fun j y hy=>hb.cell (h6 j y hy)) ih
 | ro fr t x eQ off vs h1 h2 h3 h4 h5 ih=>exact .ro fr t x eQ off vs h1 (Nat.lt_of_lt_of_le h2 hb.size) h3 (fun j y hy=>hb.cell (h4 j y hy)) ih
 | Li t=>exact .Li t
 | mp t ks fs eQ es cl h1 h2 h3 CQ h4 h5 h6=>exact .mp t ks fs eQ es cl h1 (Nat.lt_of_lt_of_le h2 hb.size) h3 CQ (hb.same _ _ h4 rfl) h5 h6
def Cx.at (c:Cx) (w':World):Cx:={ c with w:=w' }
theorem OR.book {c:Cx} {w':World} {x:AV} {v:Value} (h:OR c x v) (hb:dC c.w w'):OR (c.at w') x v:=by
 induction h with
 | undef v=>exact .undef v
 | cl h=>exact .cl (h.book hb)
 | l8 o t h=>exact .l8 o t h
 | own o t off n k cp arr e h1 h2 h3 h4=>exact .own o t off n k cp arr e h1 (hb.same _ _ h2 rfl) h3 h4
 | ptr o r p k d h1 h2=>exact .ptr o r p k d h1 h2
 | fn f cs vs h1 _ ih=>exact .fn f cs vs h1 ih
theorem mM.book {c:Cx} {w':World} {x:AV} {v:Value} (h:mM c x v) (hb:dC c.w w'):mM (c.at w') x v:=by
 cases x with
 | st t fs=>obtain⟨vs,e,hc,hF⟩:=h;exact⟨vs,e,hc,hF.1,fun i y u hy hu=>(hF.2 i y u hy hu).book hb⟩
 | ar t es=>obtain⟨vs,e,hc,hF⟩:=h;exact⟨vs,e,hc,hF.1,fun i y u hy hu=>(hF.2 i y u hy hu).book hb⟩
 | cE _=>exact h.elim
 | _=>exact OR.book h hb
theorem VR.book {c:Cx} {w':World} {x:AV} {v:Value} (h:VR c x v) (hb:dC c.w w'):VR (c.at w') x v:=by
 cases x with
 | cE xs=>obtain⟨vs,e,hF⟩:=h;exact⟨vs,e,hF.1,fun i y u hy hu=>(hF.2 i y u hy hu).book hb⟩
 | _=>exact ga (mM.book (show mM c _ v from h) hb)
theorem zo.book {c:Cx} {w':World} {o:Nat} {b:Obj} (h:zo c o b) (hb:dC c.w w'):zo (c.at w') o b:=by
 obtain⟨h1,h2⟩:=h;refine⟨h1,?_⟩;show match c.β o with | none=>_ | some k=>_
 split
 ·rename_i hn;rw[hn] at h2;exact h2
 ·rename_i k hk;rw[hk] at h2;obtain⟨q,arr,e,h3,h4⟩:=h2;refine⟨q,arr,e,hb.same _ _ h3 rfl,fun j x hx=>?_⟩;obtain⟨v,h5,h6⟩:=h4 j x hx;refine⟨v,h5,?_⟩;unfold fw at h6 ⊢;split at h6
  ·exact h6.book hb
  ·exact h6.book hb
  ·exact h6.book hb
variable {E:Env} {w0 w w':World} {σ:St} {a:Act} {β:Nat→Option Nat}
theorem bG.book (h:bG E w0 σ a w β) (hb:dC w w') (ajO:∀ k,k < w0.heap.size→w'.heap[k]? = w.heap[k]?) {ds:List Deferred} (hds:Marks w0.heap.size ds w'):bG E w0 σ { tmps:=a.tmps,defers:=ds } w' β where
 below:=h.below.trans ⟨hb.os,hb.tape,hb.output,hb.size,fun k hk _=>ajO k hk,fun b arr e hk=>⟨arr,hb.same _ _ hk rfl,rfl⟩⟩
 size:=h.size
 defers:=hds
 tms:=fun t x hx=>⟨(h.tms t x hx).1,(h.tms t x hx).2.book (c:=aK E w0 σ w β) hb⟩
 gD:=fun o b ho=>(h.gD o b ho).book (c:=aK E w0 σ w β) hb
 inj:=h.inj
theorem kI {P:Program} {fn:Func} {R:Ending→World→Prop} {tm:Array Value} {n:Nat}:∀ (ds:List Deferred) (w:World),bG E w0 σ { tmps:=tm,defers:=ds } w β→
 (∀ w2,bG E w0 σ { tmps:=tm,defers:=[] } w2 β→∃ v,(results fn tm).run P w2 = .ok v w2∧R (.returned v) w2)→LeavesInM Fence.wide n P fn tm R ds .returning w
 | [],w,h,hk=>hk w h
 | d::ds,w,h,hk=>by
   obtain⟨D,e1,e2,e3⟩:=h.defers.1 d (List.mem_cons_self ..);subst e1;refine⟨by simp,.inl ⟨D,w.putObj D (.deferred none),rfl,run_takeDeferred e3,?_⟩⟩;refine kI ds _ ?_ hk;have hB:=dC.put (w:=w) e3 rfl (.deferred none);refine h.book hB (fun k hk=>World.putObj_heap_other (by omega)) ⟨fun d hd=>?_,(List.pairwise_cons.1 h.defers.2).2⟩;obtain⟨D',q1,q2,q3⟩:=h.defers.1 d (List.mem_cons_of_mem _ hd);refine⟨D',q1,q2,?_⟩;rw[World.putObj_heap_other]
   ·exact q3
   ·rintro rfl;exact (List.pairwise_cons.1 h.defers.2).1 d hd q1.symm
end Go.Abs
end
section
namespace Go.Abs
open Go Go.RowKit
section
variable {P:Program} {E:Env} {w0 w:World} {σ:St} {a:Act} {β:Nat→Option Nat}
def TE (c:Cx) (A:Nat→Prop) (z z':AV):Prop:=∀ v,OR c z v→LR c.ty c.w (cX c.base A (jw z')) z' v
theorem mA {ty:bX} {ob:List (Nat × Obj)}:∀ (k:Nat) (fs gs:List AV),hand.gn ty ob k fs=some gs→gs.length=fs.length∧
 ∀ (i:Nat) (x:AV),fs[i]? = some x→∃ k' y,k' < k∧gs[i]? = some y∧hand ty ob k' x=some y
 | 0,fs,gs,h=>by cases fs <;> simp[hand.gn] at h
 | k+1,[],gs,h=>by simp[hand.gn] at h;subst h;simp
 | k+1,x::r,gs,h=>by
   simp only[hand.gn] at h;obtain⟨y,h1,h2⟩:=aq h;obtain⟨l,h3,h4⟩:=aq h2;injection h4 with h4;subst h4
   obtain⟨e1,e2⟩:=mA k r l h3;refine⟨by simp[e1],fun i z hz=>?_⟩;cases i with
   | zero=>simp at hz;subst hz;exact⟨k,y,Nat.lt_succ_self _,rfl,h1⟩
   | succ i=>
     obtain⟨k',y',h5,h6,h7⟩:=e2 i z (by simpa using hz);exact⟨k',y',by omega,by simpa using h6,h7⟩
theorem LR.back {w w':World} {σ:St} {β:Nat→Option Nat} {x:AV} {v:Value} {fr:Bool} (h:LR E.ty w ((aK E w0 σ w β).okb fr) x v):LR E.ty w (cX (ie E.lo w0.heap.size) E.okA fr) x v:=
 h.mono fun b hb hl=>⟨⟨hb.2,by
  by_cases h1:w0.heap.size≤b
  ·exact .inl (Nat.le_trans (jV _ _) h1)
  ·refine .inr (Classical.byContradiction fun h2=>hb.1 (.inl ⟨by omega,h2⟩))⟩,hl,rfl⟩
theorem LR.Dd {σ:St} {β:Nat→Option Nat} {x:AV} {v:Value} (h:OR (aK E w0 σ w β) x v) (hx:∀ o t i n,x ≠ .own o t i n) (hp:∀ o r p,x ≠ .ptr o r p) (hu:x ≠ .undef) (FE:∀ f cs,x ≠ .fn f cs):LR E.ty w (cX (ie E.lo w0.heap.size) E.okA (jw x)) x v:=by
 cases h with
 | undef=>exact absurd rfl hu
 | cl h=>exact LR.back (w':=w) h
 | l8=>exact absurd rfl (hx _ _ _ _)
 | own=>exact absurd rfl (hx _ _ _ _)
 | ptr=>exact absurd rfl (hp _ _ _)
 | fn=>exact absurd rfl (FE _ _)
theorem QE (hL:∀ k,¬ E.lent k) (hT:dk P E.ty) (h:bG E w0 σ a w β):∀ (n:Nat) (x y:AV),hand E.ty σ.ob n x=some y→ff (aK E w0 σ w β) (TE (aK E w0 σ w β) E.okA) x y:=by
 intro n
 induction n using Nat.strongRecOn with
 | _ n ih=>
 intro x y cN;cases n with
 | zero=>simp[hand] at cN
 | succ n=>
   cases x with
   | undef=>simp[hand] at cN
   | cE _=>simp[hand] at cN
   | ptr o r p=>
     cases r with
     | row _=>simp[hand] at cN
     | oQ _=>simp[hand] at cN
     | box u0=>
       simp only[hand] at cN;split at cN
       ·rename_i b zr;split at cN
        ·rename_i CF;split at cN
         ·rename_i q hq;split at cN
          ·rename_i u hu;obtain⟨y',h1,h2⟩:=aq cN;injection h2 with h2;subst h2
           have hqy:=ih n (Nat.lt_succ_self _) q y' h1;refine ff.eJ rfl rfl fun v hv=>?_
           have hOR:VR (aK E w0 σ w β) (.ptr o (.box u0) p) v:=hv;obtain⟨kk,dd,e1,e2,e3⟩:=VR.kF hOR;rw[← CF] at e3 hu;obtain⟨u',a1,a2,arr,e,a3,a4⟩:=qD (h.gD o b zr) e2 hq e3;have nP:u=u':=by
            have:b.r.di E.ty p=some u':=a1;rw[hu] at this;injection this
           subst nP;have hc:=hqy.fy u a2;have CV:ie E.lo w0.heap.size≤kk:=by
            have:=(h.gD o b zr).eQ;have Qv:β o=some kk:=e2;simp only[aK,Qv] at this;exact this.1.elim (Nat.le_trans (jV _ _)) fun hl=>absurd hl.1 (hL kk)
           have ig:∀ (j:Nat) (z':AV),(leaves y')[j]? = some z'→∃ v,w.cell? ⟨kk,dd+j,none⟩=some v∧LR E.ty w (cX (ie E.lo w0.heap.size) E.okA (iw y')) z' v:=fun j z' hz=>by
            obtain⟨z,r1,r2⟩:=hqy.all u a2 j z' hz;obtain⟨v,r3,r4⟩:=a4 j z r1;have r5:OR (aK E w0 σ w β) z v:=by
             unfold fw at r4;rw[CF] at r4;exact r4
            refine⟨v,r3,(r2 v r5).mono fun b hb hl=>⟨⟨fun hf=>hb.1 (sD hc hf z' (List.mem_of_getElem? hz)),hb.2⟩,hl,rfl⟩⟩
           obtain⟨us,f1,f2⟩:=eR (leaves y') (fun j z v=>w.cell? ⟨kk,dd+j,none⟩=some v∧LR E.ty w (cX (ie E.lo w0.heap.size) E.okA (iw y')) z v) ig;have Bm:∀ (j:Nat) (z:AV),(leaves y')[j]? = some z→us[j]? = some (us.getD j undef):=fun j z hz=>by
            have:j < us.length:=by rw[f1];exact (List.getElem?_eq_some_iff.1 hz).1
            simp[this]
           rw[e1];exact .ro (iw y') u y' kk dd (fun j=>us.getD j undef) ⟨fun _=>CV,.inl CV⟩ (Array.getElem?_eq_some_iff.1 a3).1 hc (fun j y hy=>(f2 j y _ hy (Bm j y hy)).1) (fun j y hy=>(f2 j y _ hy (Bm j y hy)).2)
          ·cases cN
         ·cases cN
        ·cases cN
       ·cases cN
   | fn _ _=>simp[hand] at cN
   | int kk m=>simp[hand] at cN;subst cN;exact .eJ rfl rfl fun v hv=>LR.Dd hv (by simp) (by simp) (by simp) (by simp)
   | bool b=>simp[hand] at cN;subst cN;exact .eJ rfl rfl fun v hv=>LR.Dd hv (by simp) (by simp) (by simp) (by simp)
   | str s=>simp[hand] at cN;subst cN;exact .eJ rfl rfl fun v hv=>LR.Dd hv (by simp) (by simp) (by simp) (by simp)
   | iu=>simp[hand] at cN;subst cN;exact .eJ rfl rfl fun v hv=>LR.Dd hv (by simp) (by simp) (by simp) (by simp)
   | dY=>simp[hand] at cN;subst cN;exact .eJ rfl rfl fun v hv=>LR.Dd hv (by simp) (by simp) (by simp) (by simp)
   | sl t fl es=>simp only[hand] at cN;injection cN with cN;subst cN;exact .eJ rfl rfl fun v hv=>LR.Dd hv (by simp) (by simp) (by simp) (by simp)
   | ro f t q=>simp only[hand] at cN;injection cN with cN;subst cN;exact .eJ rfl rfl fun v hv=>LR.Dd hv (by simp) (by simp) (by simp) (by simp)
   | mp t ks fs=>simp only[hand] at cN;injection cN with cN;subst cN;exact .eJ rfl rfl fun v hv=>LR.Dd hv (by simp) (by simp) (by simp) (by simp)
   | ar t es=>
     simp only[hand] at cN;injection cN with cN;subst cN
     refine⟨fun _ hc=>hc,(fun hl=>by cases hl),fun u hc j z' hz=>⟨z',hz,fun v hv=>?_⟩⟩;have wc:closed z'=true∧fresh z'=true∧(∀ fr,cL fr z'=z')∧bq z'=true:=by
      cases hc with
      | leaf _ _ _ q4=>cases q4
      | ar h1 h2 h3 h4 h5=>
        have hm:=List.mem_of_getElem? hz;simp only[leaves] at hm;obtain⟨q,h6,h7⟩:=cm hm;exact fA _ q (Nat.lt_succ_self _) (h5 q h6) z' h7
     have hfz:jw z'=true:=by
      have h1:=wc.2.1;have h2:=wc.2.2.2;cases z' <;> first | rfl | exact h1 | cases h2
     rw[show bq z'=true from wc.2.2.2] at *;have:=LR.back (E:=E) (w':=w) (hv.lr wc.1 (fr:=true) (fun _=>wc.2.1));rw[hfz];exact this
   | st t fs=>
     simp only[hand] at cN;obtain⟨gs,h1,h2⟩:=aq cN;injection h2 with h2;subst h2
     obtain⟨e1,e2⟩:=mA n fs gs h1;have hk:∀ (i:Nat) (x:AV),fs[i]? = some x→∃ y,gs[i]? = some y∧ff (aK E w0 σ w β) (TE (aK E w0 σ w β) E.okA) x y:=fun i x hx=>by
      obtain⟨k',y,h0,h3,h4⟩:=e2 i x hx;exact⟨y,h3,ih k' (by omega) x y h4⟩
     have hu:∀ u,br E.ty u (.st t fs)→u=t:=fun u hc=>by
      cases hc with
      | leaf _ _ _ q4=>cases q4
      | st _ _ _ _=>rfl
     refine⟨fun u hc=>?_,(fun hl=>by cases hl),fun u hc j z' hz=>?_⟩
     ·have:=hu u hc;subst this;exact (ln (c:=aK E w0 σ w β) rfl hc e1 hk).1
     ·have:=hu u hc;subst this;exact (ln (c:=aK E w0 σ w β) rfl hc e1 hk).2 j z' hz
   | own o t i m=>
     simp only[hand] at cN;split at cN
     ·rename_i u fr es zr;split at cN
      ·rename_i hc;obtain⟨c1,c3⟩:=hc;subst c1;injection cN with cN;subst cN
       rw[wb];refine .eJ rfl rfl fun v hv=>?_
       have acw:=h.gD o _ zr;have gq:0 < aH E.ty t:=acw.fy.2;refine C1 h zr rfl c3 gq hv _ (fun k hk=>?_) (fun k hk=>⟨hk.2,?_⟩) _ rfl rfl
       ·have:=acw.eQ;simp only[aK,hk] at this;have hb:ie E.lo w0.heap.size≤k:=this.1.elim (Nat.le_trans (jV _ _)) fun hl=>absurd hl.1 (hL k)
        exact⟨fun _=>hb,.inl hb⟩
       ·by_cases h1:w0.heap.size≤k
        ·exact .inl (Nat.le_trans (jV _ _) h1)
        ·exact .inr (Classical.byContradiction fun h2=>hk.1 (.inl ⟨Nat.lt_of_not_le h1,h2⟩))
      ·cases cN
     ·cases cN
theorem m6 (hL:∀ k,¬ E.lent k) (hT:dk P E.ty) (h:bG E w0 σ a w β) {k:Nat} {x y:AV} {v:Value} (cN:hand E.ty σ.ob k x=some y) (hx:VR (aK E w0 σ w β) x v):nz E.ty w (cX (ie E.lo w0.heap.size) E.okA) y v:=by
 have ok:=QE hL hT h k x y cN;cases k with
 | zero=>simp[hand] at cN
 | succ k=>
 have pT:∀ vs:Array Value,∀ t,br E.ty t x→F2 (OR (aK E w0 σ w β)) (leaves x) vs.toList→F2 (fun x u=>LR E.ty w (cX (ie E.lo w0.heap.size) E.okA (jw x)) x u) (leaves y) vs.toList:=fun vs t hc hF=>by
  have hl:(leaves y).length=(leaves x).length:=by rw[(ok.fy t hc).len,br.len (ty:=E.ty) hc];rfl
  refine⟨by rw[hl];exact hF.1,fun i z' u hz hu=>?_⟩;obtain⟨z,r1,r2⟩:=ok.all t hc i z' hz;exact r2 u (hF.2 i z u r1 hu)
 cases x with
 | st t fs=>
   obtain⟨vs,e,hc,hF⟩:=hx;simp only[hand] at cN;obtain⟨gs,h1,h2⟩:=aq cN;injection h2 with h2;subst h2
   exact⟨vs,e,ok.fy t hc,pT vs t hc hF⟩
 | ar t es=>
   obtain⟨vs,e,hc,hF⟩:=hx;simp[hand,fresh] at cN;subst cN;exact⟨vs,e,hc,pT vs t hc hF⟩
 | cE _=>simp[hand] at cN
 | _=>
   obtain⟨h1,h2⟩:=ok.leaf rfl;exact (C0 h1).2 (h2 v hx)
theorem nW:∀ (l:List AV) (i t:Nat) (x:AV),aA t (eH i l)=some x→i≤t∧l[t - i]? = some x
 | [],i,t,x,h=>by simp[eH,aA] at h
 | y::r,i,t,x,h=>by
   simp only[eH,aA] at h;split at h
   ·rename_i e;subst e;injection h with h;subst h;simp
   ·obtain⟨h1,h2⟩:=nW r (i+1) t x h;refine⟨by omega,?_⟩;have:t - i=(t - (i+1))+1:=by omega
    rw[this];simpa using h2
theorem qK:∀ {l:List AV},fo.ml l=true→∀ x ∈ l,fo x=true
 | [],_,x,h=>by simp at h
 | y::r,hc,x,h=>by
   simp only[fo.ml,Bool.and_eq_true] at hc;rcases List.mem_cons.1 h with rfl | h
   ·exact hc.1
   ·exact qK hc.2 x h
theorem sI {c:Cx} {A:Nat→Prop} (hm:∀ k,A k→k < c.w.heap.size→¬ c.mu k) {x:AV} {v:Value} (h:LR c.ty c.w A x v) (ho:fo x=true):OR c x v:=by
 induction h with
 | fn f cs us h1 h2 ih=>exact .fn f cs us h1 fun i y hy=>ih i y hy (qK (by simpa[fo] using ho) y (List.mem_of_getElem? hy))
 | int k n=>exact .cl (.int k n)
 | bool b=>exact .cl (.bool b)
 | str s=>exact .cl (.str s)
 | iu=>exact .cl .iu
 | dY=>exact .cl .dY
 | sx t fl cc h1 h2=>exact .cl (.sx t fl cc h1 h2)
 | sl t fl es eQ off cc vs h1 h2 h3 h4 h5 h6 h7 _=>
   refine .cl ((LR.sl t fl es eQ off cc vs h1 h2 h3 h4 h5 h6 h7).mono fun b hA hl=>⟨⟨hm b hA hl,fun hf=>?_⟩,hl,rfl⟩);have:fl.fr=true:=hf;simp[fo,this] at ho
 | ro fr t x eQ off vs h1 h2 h3 h4 h5 _=>
   refine .cl ((LR.ro fr t x eQ off vs h1 h2 h3 h4 h5).mono fun b hA hl=>⟨⟨hm b hA hl,fun hf=>?_⟩,hl,rfl⟩);have:fr=true:=hf;simp[fo,this] at ho
 | Li t=>exact .cl (.Li t)
 | mp t ks fs eQ es cl h1 h2 h3 h4 h5 h6 h7=>simp[fo] at ho
theorem qM {ty:bX} {t:TypeId} {x:AV} (hc:br ty t x) (ho:fo x=true):∀ y ∈ leaves x,fo y=true:=by
 induction hc with
 | leaf _ _ _ h4=>rw[bY h4];intro y hy;simp at hy;subst hy;exact ho
 | @st t ts s b z fs h1 h2 h3 h4 ih=>
   simp only[leaves];intro y hy;obtain⟨x,h5,h6⟩:=cm hy;obtain⟨i,hi,e⟩:=List.getElem_of_mem h5;have tp:fs[i]? = some x:=by rw[List.getElem?_eq_getElem hi,e]
   obtain⟨u,hu⟩:∃ u,ts[i]? = some u:=⟨ts[i]'(by omega),by rw[List.getElem?_eq_getElem]⟩
   exact ih i x u tp hu (qK (by simpa[fo] using ho) x h5) y h6
 | ar h1 h2 h3 h4 h5 _=>
   simp only[leaves];intro y hy;obtain⟨x,h6,h7⟩:=cm hy;have hf:=h5 x h6;have key:∀ (n:Nat) (x:AV),SizeOf.sizeOf x < n→flat x=true→∀ y ∈ leaves x,fo y=true:=by
    intro n
    induction n with
    | zero=>intro x hx;omega
    | succ n ih=>
      intro x hx tv y hy;cases x with
      | st t fs=>
        simp only[leaves] at hy;obtain⟨q,q1,q2⟩:=cm hy;refine ih q ?_ ((kT fs).1 (by simpa[flat] using tv) q q1) y q2;have:=List.sizeOf_lt_of_mem q1;simp at hx;omega
      | int _ _=>simp[leaves] at hy;subst hy;rfl
      | bool _=>simp[leaves] at hy;subst hy;rfl
      | str _=>simp[leaves] at hy;subst hy;rfl
      | _=>simp[flat] at tv
   exact key _ x (Nat.lt_succ_self _) hf y h7
theorem zE {vs:List Value} {args:List AV} (hn:args.length≤E.n) (ho:fo.ml args=true) (hv:F2 (nz E.ty w fun _=>E.okA) args vs) :
 bG E w ⟨eH 0 args,[]⟩ { tmps:=vs.toArray++Array.replicate (E.n - vs.toArray.size) undef,defers:=[] } w (fun _=>none) where
 below:= .refl _ _ _
 size:=by have:=hv.1;simp;omega
 defers:=Marks.nil _ _
 tms:=fun t x hx=>by
  obtain⟨_,h2⟩:=nW args 0 t x hx;rw[Nat.sub_zero] at h2;have aR:t < args.length:=(List.getElem?_eq_some_iff.1 h2).1;have hl:=hv.1;have e1:vs[t]? = some vs[t]:=by simp[show t < vs.length by omega]
  have KY:=hv.2 t x _ h2 e1;have hold:=qK ho x (List.mem_of_getElem? h2);have aw:(vs.toArray++Array.replicate (E.n - vs.toArray.size) undef).getD t undef=vs[t]:=by
   rw[Array.getD_eq_getD_getElem?,Array.getElem?_append_left (by simp;omega)];simp[show t < vs.length by omega]
  refine⟨by omega,?_⟩;show VR _ x ((vs.toArray++Array.replicate (E.n - vs.toArray.size) undef).getD t undef);rw[aw];have hm:∀ k,E.okA k→k < (aK E w ⟨eH 0 args,[]⟩ w (fun _=>none)).w.heap.size→¬ (aK E w ⟨eH 0 args,[]⟩ w (fun _=>none)).mu k:=fun k hA _ lh=>lh.elim (fun z=>z.2 hA) fun⟨o,b,hb,_⟩=>by simp[aA] at hb
  generalize vs[t]=v at KY;refine ga ?_;cases x with
  | st u fs=>obtain⟨us,e,hc,hF⟩:=KY;exact⟨us,e,hc,hF.1,fun i y z hy hz=>sI hm (hF.2 i y z hy hz) (qM hc hold y (List.mem_of_getElem? hy))⟩
  | ar u fs=>obtain⟨us,e,hc,hF⟩:=KY;exact⟨us,e,hc,hF.1,fun i y z hy hz=>sI hm (hF.2 i y z hy hz) (qM hc hold y (List.mem_of_getElem? hy))⟩
  | cE _=>exact KY.elim
  | _=>exact sI hm KY hold
 gD:=fun o b hb=>by simp[aA] at hb
 inj:=fun o o' b b' k hb=>by simp[aA] at hb
theorem FF (hT:dk P E.ty) (h:bG E w0 σ a w β) {r:ResultVar} {x:AV} (hr:Ba E σ r=some x) :
 ∃ v,(match r with | .tmp t=>(pure (a.tmps.getD t undef):Sem Value) | .cell q t=>(do loadVar t (← asAddr (a.tmps.getD q undef)))).run P w = .ok v w∧VR (aK E w0 σ w β) x v:=by
 cases r with
 | tmp t=>exact⟨_,rfl,(h.tms t x hr).2⟩
 | cell q t=>
   simp only[Ba] at hr;obtain⟨y,h1,h2⟩:=aq hr;have hq:=(h.tms q y h1).2;split at h2
   ·rename_i o r p;obtain⟨k,dd,e1,e2,e3⟩:=VR.kF hq;split at h2
    ·rename_i b hb;split at h2
     ·rename_i CF;obtain⟨v,h3,h4⟩:=aq h2;split at h4
      ·rename_i sA;injection h4 with h4;subst h4
       subst CF;obtain⟨u,a1,a2,arr,e,a3,a4⟩:=qD (h.gD o b hb) e2 h3 e3;have a5:=pS hT.ok sA a2;obtain⟨val,r1,r2⟩:=lj hT.ok (w:=w) a5 a4;refine⟨val,?_,?_⟩
       ·simp only[Sem.run_bind,e1,asAddr,Sem.run_pure,Result.andThen_ok];exact r1
       ·refine mM.vr ?_;unfold Obj.seen;unfold fw at r2;cases CF:b.r with
        | box tt=>simp only[CF] at r2;exact AR.P9 a5 r2
        | row tt=>simp only[CF] at r2;exact AR.re a5 r2
        | oQ tt=>simp only[CF] at r2;exact AR.P9 a5 r2
      ·cases h4
     ·cases h2
    ·cases h2
   ·cases h2
theorem lR (hT:dk P E.ty) (h:bG E w0 σ a w β):∀ (rs:List ResultVar) (xs:List AV),dS E σ rs=some xs→
 ∃ vs:List Value,(rs.mapM (m:=Sem) fun (r:ResultVar)=>(match r with | .tmp t=>(pure (a.tmps.getD t undef):Sem Value) | .cell q t=>(do loadVar t (← asAddr (a.tmps.getD q undef))):Sem Value)).run P w = .ok vs w∧F2 (VR (aK E w0 σ w β)) xs vs
 | [],xs,hr=>by simp[dS] at hr;subst hr;exact⟨[],rfl,rfl,fun i x v hx=>by simp at hx⟩
 | r::rs,xs,hr=>by
   simp only[dS] at hr;obtain⟨x,h1,h2⟩:=aq hr;obtain⟨l,h3,h4⟩:=aq h2;injection h4 with h4;subst h4
   obtain⟨v,r1,r2⟩:=FF hT h h1;obtain⟨vs,r3,r4⟩:=lR hT h rs l h3;refine⟨v::vs,?_,by simp[r4.1],fun i y u hy hu=>?_⟩
   ·simp only[List.mapM_cons,Sem.run_bind];rw[r1];simp only[Result.andThen_ok];rw[r3];rfl
   ·cases i with
    | zero=>simp at hy hu;subst hy;subst hu;exact r2
    | succ i=>exact r4.2 i y u (by simpa using hy) (by simpa using hu)
theorem QF (hL:∀ k,¬ E.lent k) (mN:E.lo=none) (hT:dk P E.ty) (hC:cM P E) {f:FuncId} {fn:Func} {c:Code} {H:Nat→Hint} {k:Nat} {args:List AV} {r:AV} (hf:P.funcs[f]? = some fn) (hn:fn.ntmps=E.n) (hb:fn.body=some c)
 (ha:args.length≤E.n) (hd:gk P E c) (hr:ak E H k fn args=some r) (w:World) (vs:List Value) (lI:F2 (nz E.ty w fun _=>E.okA) args vs) (hG:bj E w) :
 Calls P f vs.toArray w fun e w'=>∃ v,e = .returned v∧Below w.heap.size w w'∧CR E.ty w' (cX w.heap.size E.okA) r v:=by
 simp only[ak,hb] at hr;split at hr
 ·rename_i ho;refine callsIn_wide.1 (callsIn_of_wp_marks (n:=0) hf hb trivial (wpIn_wide.2 ?_) rfl);have hS:=zE ha ho lI;rw[hn];have done:∀ (e:AX) (σ':St),a9 E H k c ⟨eH 0 args,[]⟩=some (e,σ')→(e = .norm∨e = .ret)→(av (dS E σ' fn.results.toList) fun vs=>av (hand.gn E.ty σ'.ob 30 vs) fun vs=>some (one vs))=some r→
   c.wp P (bodyPostM Fence.wide 0 P fn fun e w'=>∃ v,e = .returned v∧Below w.heap.size w w'∧CR E.ty w' (cX w.heap.size E.okA) r v) { tmps:=vs.toArray++Array.replicate (E.n - vs.toArray.size) undef,defers:=[] } w:=fun e σ' h1 he h2=>by
   refine wp_mono (pW (fun _=>hL) hT hC hG c _ σ' e hd h1 _ w _ hS) fun e' a' w' hp=>?_
   obtain⟨hex,β',nL⟩:=hp;have fin:LeavesInM Fence.wide 0 P fn a'.tmps (fun e w'=>∃ v,e = .returned v∧Below w.heap.size w w'∧CR E.ty w' (cX w.heap.size E.okA) r v) a'.defers .returning w':=by
    refine kI a'.defers w' nL fun w' nL=>?_
    obtain⟨xs,h3,h4⟩:=aq h2;obtain⟨ys,h5,h6⟩:=aq h4;injection h6 with h6;subst h6
    obtain⟨us,r1,r2⟩:=lR hT nL fn.results.toList xs h3;obtain⟨e1,e2⟩:=mA 30 xs ys h5;have qm:F2 (nz E.ty w' (cX w.heap.size E.okA)) ys us:=by
     refine⟨by rw[e1];exact r2.1,fun i y u hy hu=>?_⟩;have hi:i < xs.length:=by rw[← e1];exact (List.getElem?_eq_some_iff.1 hy).1
     obtain⟨_,y',_,q1,q2⟩:=e2 i xs[i] (by simp[hi]);rw[hy] at q1;injection q1 with q1;subst q1
     have:=m6 hL hT nL q2 (r2.2 i xs[i] u (by simp[hi]) hu);rw[mN] at this;exact this
    refine⟨if h:us.toArray.size=1 then us.toArray[0] else .tuple us.toArray,?_,_,rfl,nL.below.plain fun k hk=>hL k hk.1,?_⟩
    ·unfold results;rw[Array.mapM_eq_mapM_toList];simp only[Sem.run_bind,Sem.run_map];exact congrArg (fun (z:Result (List Value))=>(z.andThen fun a w'=>Result.ok a.toArray w').andThen fun a w'=>Sem.run P (pure (if h:a.size=1 then a[0] else Value.tuple a)) w') r1
    ·have LU:∀ (hlen:ys.length ≠ 1),CR E.ty w' (cX w.heap.size E.okA) (one ys) (.tuple us.toArray):=fun hlen=>by
      have:one ys = .cE ys:=by
       match ys,hlen with
       | [],_=>rfl
       | [_],h=>exact absurd rfl h
       | _::_::_,_=>rfl
      rw[this];exact⟨us.toArray,rfl,by simpa using qm⟩
     by_cases hlen:us.toArray.size=1
     ·rw[dif_pos hlen];have h1:us.length=1:=by simpa using hlen
      match us,ys,h1,qm with
      | [u],[y],_,qm=>exact wa (qm.2 0 y u rfl rfl)
      | [u],[],_,qm=>exact absurd qm.1 (by simp)
      | [u],_::_::_,_,qm=>exact absurd qm.1 (by simp)
     ·rw[dif_neg hlen];refine LU ?_;rw[qm.1];simpa using hlen
   subst hex;rcases he with he | he <;> subst he <;> exact fin
  unfold finish at hr;split at hr
  ·rename_i σ' h1;exact done _ σ' h1 (.inl rfl) hr
  ·rename_i σ' h1;exact done _ σ' h1 (.inr rfl) hr
  ·cases hr
 ·cases hr
theorem qN {Ef:(Nat→Prop)→Env} {ty:bX} {G:cC} (hA:∀ A,(Ef A).okA=A) (lH:∀ A,(Ef A).ty=ty) (Qc:∀ A,(Ef A).G=G) (hT:dk P ty) (hC:∀ A,cM P (Ef A)) {f:FuncId} {fn:Func} {c:Code} {H:Nat→Hint} {k:Nat} {args:List AV} {r:AV}
 (hf:P.funcs[f]? = some fn) (hn:∀ A,fn.ntmps=(Ef A).n) (hb:fn.body=some c) (ha:args.length≤fn.ntmps) (hd:∀ A,gk P (Ef A) c) (hr:∀ A,ak (Ef A) H k fn args=some r) (hL:∀ A k,¬ (Ef A).lent k:=by intro _ _ h;exact h) (mN:∀ A,(Ef A).lo=none:=by intro _;rfl):tx P ty G f args r:=by
 intro A w vs lI hG;have:=QF (E:=Ef A) (hL A) (mN A) (by rw[lH];exact hT) (hC A) hf (hn A) hb (by rw[← hn A];exact ha) (hd A) (hr A) w vs (by rw[lH,hA];exact lI) (fun g t x hg=>by rw[lH,hA];exact hG g t x (by rw[← Qc A];exact hg));rw[lH,hA] at this;exact this
theorem VR.acx {c:Cx} {x:AV} {v:Value} (h:VR c x v) (hx:mn x=true):mM c x v:=by
 cases x <;> first | exact h | cases hx
theorem LV (hZ:∀ id,E.Z id=[]) (hT:dk P E.ty) (hC:cM P E) {f:FuncId} {fn:Func} {c:Code} {H:Nat→Hint} {k:Nat} {args:List AV} {ob:List (Nat × Obj)} {r:AV} {fP:List (Nat × Obj)} (hf:P.funcs[f]? = some fn) (hn:fn.ntmps=E.n) (hb:fn.body=some c)
 (ha:args.length≤E.n) (hd:gk P E c) (hr:ai E H k fn args ob=some (r,fP)) (w:World) (β:Nat→Option Nat) (vs:List Value)
 (yU:∀ o b,aA o ob=some b→zo (ql E.ty E.lo E.okA E.lent w.heap.size ob w β) o b) (yV:Vh ob β) (lI:F2 (VR (ql E.ty E.lo E.okA E.lent w.heap.size ob w β)) args vs) (hG:bj E w) :
 Calls P f vs.toArray w fun e w'=>∃ v β',e = .returned v∧gZ (fun k=>E.lent k∧¬ E.okA k) w.heap.size w w'∧
  (∀ o b,aA o fP=some b→zo (ql E.ty E.lo E.okA E.lent w.heap.size fP w' β') o b)∧Vh fP β'∧VR (ql E.ty E.lo E.okA E.lent w.heap.size fP w' β') r v:=by
 unfold ai at hr;rw[hb] at hr;dsimp only at hr;refine callsIn_wide.1 (callsIn_of_wp_marks (n:=0) hf hb trivial (wpIn_wide.2 ?_) rfl);have hS:bG E w ⟨eH 0 args,ob⟩ { tmps:=vs.toArray++Array.replicate (E.n - vs.toArray.size) undef,defers:=[] } w β:={
  below:= .refl _ _ _
  size:=by have:=lI.1;simp;omega
  defers:=Marks.nil _ _
  tms:=fun t x hx=>by
   obtain⟨_,h2⟩:=nW args 0 t x hx;rw[Nat.sub_zero] at h2;have aR:t < args.length:=(List.getElem?_eq_some_iff.1 h2).1;have hl:=lI.1;have e1:vs[t]? = some vs[t]:=by simp[show t < vs.length by omega]
   have KY:=lI.2 t x _ h2 e1;have aw:(vs.toArray++Array.replicate (E.n - vs.toArray.size) undef).getD t undef=vs[t]:=by
    rw[Array.getD_eq_getD_getElem?,Array.getElem?_append_left (by simp;omega)];simp[show t < vs.length by omega]
   refine⟨by omega,?_⟩;show VR _ x ((vs.toArray++Array.replicate (E.n - vs.toArray.size) undef).getD t undef);rw[aw];exact KY
  gD:=yU
  inj:=yV }
 rw[hn];have done:∀ (e:AX) (σ':St),a9 E H k c ⟨eH 0 args,ob⟩=some (e,σ')→(e = .norm∨e = .ret)→k_ E fn.results.toList σ'=some (r,fP)→
  c.wp P (bodyPostM Fence.wide 0 P fn fun e w'=>∃ v β',e = .returned v∧gZ (fun k=>E.lent k∧¬ E.okA k) w.heap.size w w'∧
  (∀ o b,aA o fP=some b→zo (ql E.ty E.lo E.okA E.lent w.heap.size fP w' β') o b)∧Vh fP β'∧VR (ql E.ty E.lo E.okA E.lent w.heap.size fP w' β') r v) { tmps:=vs.toArray++Array.replicate (E.n - vs.toArray.size) undef,defers:=[] } w:=fun e σ' h1 he h2=>by
  refine wp_mono (pW (fun⟨id,d_⟩=>absurd (hZ id) d_) hT hC hG c _ σ' e hd h1 _ w _ hS) fun e' a' w' hp=>?_
  obtain⟨hex,β',nL⟩:=hp;have fin:LeavesInM Fence.wide 0 P fn a'.tmps (fun e w'=>∃ v β',e = .returned v∧gZ (fun k=>E.lent k∧¬ E.okA k) w.heap.size w w'∧
   (∀ o b,aA o fP=some b→zo (ql E.ty E.lo E.okA E.lent w.heap.size fP w' β') o b)∧Vh fP β'∧VR (ql E.ty E.lo E.okA E.lent w.heap.size fP w' β') r v) a'.defers .returning w':=by
   refine kI a'.defers w' nL fun w' nL=>?_
   unfold k_ at h2;obtain⟨xs,h3,h4⟩:=aq h2;obtain⟨ob2,h5,h6⟩:=aq h4;split at h6;rotate_left
   ·cases h6
   rename_i cw;injection h6 with h6;injection h6 with h6 h7;subst h6;subst h7
   obtain⟨us,r1,r2⟩:=lR hT nL fn.results.toList xs h3;have aw:=C5 (ob:=σ'.ob) _ _ h5;have m:mS (aK E w σ' w' β') (ql E.ty E.lo E.okA E.lent w.heap.size ob2 w' β'):={
    ty:=rfl,base:=rfl,new:=rfl,size:=Nat.le_refl _
    cA:=fun b iJ hl=>⟨fun lh=>lh.elim (fun z=>iJ (.inl z)) fun⟨o,y,q1,q2⟩=>iJ (.inr ⟨o,y,aw o y q1,q2⟩),rfl⟩
    rows:=fun b arr e iJ=>⟨arr,iJ,rfl⟩ }
   have qm:F2 (mM (ql E.ty E.lo E.okA E.lent w.heap.size ob2 w' β')) xs us:=⟨r2.1,fun i y u hy hu=>m.P9 ((r2.2 i y u hy hu).acx (List.all_eq_true.1 cw y (List.mem_of_getElem? hy))) fun _ _=>rfl⟩
   refine⟨if h:us.toArray.size=1 then us.toArray[0] else .tuple us.toArray,?_,_,β',rfl,nL.below,fun o b ho=>m.KT (nL.gD o b (aw o b ho)) (fun _ _=>rfl) rfl fun _ _=>rfl,fun o o' b b' k q1 q2=>nL.inj o o' b b' k (aw o b q1) (aw o' b' q2),?_⟩
   ·unfold results;rw[Array.mapM_eq_mapM_toList];simp only[Sem.run_bind,Sem.run_map];exact congrArg (fun (z:Result (List Value))=>(z.andThen fun a w'=>Result.ok a.toArray w').andThen fun a w'=>Sem.run P (pure (if h:a.size=1 then a[0] else Value.tuple a)) w') r1
   ·have LU:∀ (hlen:xs.length ≠ 1),VR (ql E.ty E.lo E.okA E.lent w.heap.size ob2 w' β') (one xs) (.tuple us.toArray):=fun hlen=>by
     have:one xs = .cE xs:=by
      match xs,hlen with
      | [],_=>rfl
      | [_],h=>exact absurd rfl h
      | _::_::_,_=>rfl
     rw[this];exact⟨us.toArray,rfl,by simpa using qm⟩
    by_cases hlen:us.toArray.size=1
    ·rw[dif_pos hlen];have h1:us.length=1:=by simpa using hlen
     match us,xs,h1,qm with
     | [u],[y],_,qm=>exact ga (qm.2 0 y u rfl rfl)
     | [u],[],_,qm=>exact absurd qm.1 (by simp)
     | [u],_::_::_,_,qm=>exact absurd qm.1 (by simp)
    ·rw[dif_neg hlen];refine LU ?_;rw[qm.1];simpa using hlen
  subst hex;rcases he with he | he <;> subst he <;> exact fin
 unfold qx at hr;split at hr
 ·rename_i σ' h1;exact done _ σ' h1 (.inl rfl) hr
 ·rename_i σ' h1;exact done _ σ' h1 (.inr rfl) hr
 ·cases hr
theorem dj {Ef:Option Nat→(Nat→Prop)→(Nat→Prop)→Env} {ty:bX} {G:cC} (mN:∀ l A L,(Ef l A L).lo=l) (hA:∀ l A L,(Ef l A L).okA=A) (hL:∀ l A L,(Ef l A L).lent=L) (lH:∀ l A L,(Ef l A L).ty=ty) (Qc:∀ l A L,(Ef l A L).G=G)
 (hT:dk P ty) (hC:∀ l A L,cM P (Ef l A L)) {f:FuncId} {fn:Func} {c:Code} {H:Nat→Hint} {k:Nat} {args:List AV} {ob:List (Nat × Obj)} {r:AV} {fP:List (Nat × Obj)}
 (hf:P.funcs[f]? = some fn) (hn:∀ l A L,fn.ntmps=(Ef l A L).n) (hb:fn.body=some c) (ha:args.length≤fn.ntmps) (hd:∀ l A L,gk P (Ef l A L) c) (hr:∀ l A L,ai (Ef l A L) H k fn args ob=some (r,fP)) (hZ:∀ l A L id,(Ef l A L).Z id=[]:=by intro _ _ _ _;rfl):iy P ty G f args ob r fP:=by
 intro lo A L w β vs yU yV lI hG;have:=LV (E:=Ef lo A L) (hZ lo A L) (by rw[lH];exact hT) (hC lo A L) hf (hn lo A L) hb (by rw[← hn lo A L];exact ha) (hd lo A L) (hr lo A L) w β vs (by rw[lH,mN,hA,hL];exact yU) yV (by rw[lH,mN,hA,hL];exact lI)
  (fun g t x hg=>by rw[lH,hA];exact hG g t x (by rw[← Qc lo A L];exact hg))
 rw[lH,mN,hA,hL] at this;exact this
end
end Go.Abs
end
section
namespace Go.Abs
open Go Go.RowKit
def mB (ty:bX):Nat→List TypeId→List Field→Bool
 | _,[],[]=>true
 | o,t::ts,f::fs=>f.type==t&&f.offset==o&&mB ty (o+aH ty t) ts fs
 | _,_,_=>false
theorem qO {ty:bX}:∀ (ts:List TypeId) (fs:List Field) (o:Nat),mB ty o ts fs=true→fs.length=ts.length∧
 ∀ (i:Nat) (f:Field),fs[i]? = some f→ts[i]? = some f.type∧f.offset=o+((ts.take i).map (aH ty)).sum
 | [],[],o,_=>⟨rfl,fun i f h=>by simp at h⟩
 | [],_::_,o,h=>by simp[mB] at h
 | _::_,[],o,h=>by simp[mB] at h
 | t::ts,f::fs,o,h=>by
   simp only[mB,Bool.and_eq_true,beq_iff_eq] at h;obtain⟨⟨h1,h2⟩,h3⟩:=h;obtain⟨e1,e2⟩:=qO ts fs _ h3;refine⟨by simp[e1],fun i g hg=>?_⟩;cases i with
   | zero=>simp at hg;subst hg;simp[h1,h2]
   | succ i=>
     obtain⟨a,b⟩:=e2 i g (by simpa using hg);refine⟨by simpa using a,?_⟩;simp only[List.take_succ_cons,List.map_cons,List.sum_cons];omega
def FG (ty:bX) (k:TK) (d:TypeDesc):Bool:=
 match k,d with
 | .int k,.int k'=>k==k'
 | .bool,.bool=>true
 | .str,.string=>true
 | .slice e,.slice e'=>e==e'&&decide (0 < aH ty e)
 | .struct ts,.struct fs=>mB ty 0 ts fs.toList
 | .array n e,.array n' e'=>n==n'&&e==e'
 | .ptr e,.pointer e'=>e==e'
 | .func,.func _ _ _=>true
 | .map k e,.map k' e'=>k==k'&&e==e'
 | _,_=>false
theorem Br {P:Program} {ty:bX} {t:TypeId} {D:kD} {d:TypeDesc} (hu:P.underlying t=some d) (h:FG ty D.k d=true):kindOk P ty t D:=by
 unfold kindOk;unfold FG at h;cases hk:D.k <;> cases d <;> simp only[hk] at h ⊢ <;> try (cases h)
 ·simp at h;subst h;exact hu
 ·exact hu
 ·exact hu
 ·simp at h;obtain⟨h1,h2⟩:=h;subst h1;exact⟨hu,h2⟩
 ·rename_i ts fs;obtain⟨e1,e2⟩:=qO ts fs.toList 0 h;refine⟨fs,hu,by simpa using e1,fun i f hf=>?_⟩;obtain⟨a,b⟩:=e2 i f (by rw[Array.getElem?_toList];exact hf);exact⟨a,by simpa using b⟩
 ·simp at h;obtain⟨h1,h2⟩:=h;subst h1;subst h2;exact hu
 ·simp at h;subst h;exact hu
 ·exact⟨_,_,_,hu⟩
 ·simp at h;obtain⟨h1,h2⟩:=h;subst h1;subst h2;exact hu
def l_:List AV→List Value→Bool
 | [],[]=>true
 | .int k n::r,.int k' n'::s=>k==k'&&n==n'&&l_ r s
 | .bool b::r,.bool b'::s=>b==b'&&l_ r s
 | .str a::r,.string b::s=>a.data.toList==b.data.toList&&l_ r s
 | .sl _ fl []::r,.slice none 0 0::s=>(match fl.nil with | some true=>true | _=>false)&&l_ r s
 | .iu::r,.pointer none::s=>l_ r s
 | .dY::r,.nilFunc::s=>l_ r s
 | .mp _ [] []::r,.map none::s=>l_ r s
 | _,_=>false
theorem gH {R:AV→Value→Prop} {x:AV} {v:Value} {xs:List AV} {vs:List Value} (h:R x v) (hs:F2 R xs vs):F2 R (x::xs) (v::vs):=
 ⟨by simp[hs.1],fun i y u hy hu=>by
   cases i with
   | zero=>simp at hy hu;subst hy;subst hu;exact h
   | succ i=>exact hs.2 i y u (by simpa using hy) (by simpa using hu)⟩
theorem Bs {ty:bX}:∀ (xs:List AV) (vs:List Value),l_ xs vs=true→F2 (fun x v=>∀ (w:World) (okb:Nat→Prop),LR ty w okb x v) xs vs:=by
 intro xs vs
 fun_induction l_ xs vs with
 | case1=>intro _;exact⟨rfl,fun i x v hx=>by simp at hx⟩
 | case2 k n r k' n' s ih=>
   intro h;simp only[Bool.and_eq_true,beq_iff_eq] at h;obtain⟨⟨h1,h2⟩,h3⟩:=h;subst h1;subst h2;exact gH (fun w okb=> .int _ _) (ih h3)
 | case3 b r b' s ih=>
   intro h;simp only[Bool.and_eq_true,beq_iff_eq] at h;obtain⟨h1,h2⟩:=h;subst h1;exact gH (fun w okb=> .bool _) (ih h2)
 | case4 a r b s ih=>
   intro h;simp only[Bool.and_eq_true,beq_iff_eq] at h;obtain⟨h1,h2⟩:=h;have:a=b:=by
    cases a;cases b;simp only[ByteArray.mk.injEq];exact Array.toList_inj.1 h1
   subst this;exact gH (fun w okb=> .str _) (ih h2)
 | case5 t fl r s ih=>
   intro h;simp only[Bool.and_eq_true] at h;obtain⟨h1,h2⟩:=h;refine gH (fun w okb=> .sx _ _ _ ?_ rfl) (ih h2);intro hn;rw[hn] at h1;cases h1
 | case6 r s ih=>intro h;exact gH (fun w okb=> .iu) (ih h)
 | case7 r s ih=>intro h;exact gH (fun w okb=> .dY) (ih h)
 | case8 t r s ih=>intro h;exact gH (fun w okb=> .Li t) (ih h)
 | case9=>intro h;cases h
def qP (ty:bX):Nat→TypeId→AV→Bool
 | 0,_,_=>false
 | n+1,t,x=>match ty t,x with
   | some ⟨.struct ts,s,_,_⟩,.st u fs=>u==t&&s==(ts.map (aH ty)).sum&&Df ty n ts fs
   | some ⟨.array m e,s,_,_⟩,.ar u es=>u==t&&es.length==m&&s==m * aH ty e&&es.all (qP ty n e)&&es.all flat
   | some d,x=>fv d.k&&d.size==1&&bq x
   | none,_=>false
where Df (ty:bX):Nat→List TypeId→List AV→Bool
 | _,[],[]=>true
 | 0,_,_=>false
 | n+1,t::ts,x::xs=>qP ty n t x&&Df ty n ts xs
 | _,_,_=>false
theorem Dg {ty:bX}:∀ (n:Nat) (t:TypeId) (x:AV),qP ty n t x=true→br ty t x:=by
 intro n
 induction n using Nat.strongRecOn with
 | _ n ih=>
   intro t x h;cases n with
   | zero=>simp[qP] at h
   | succ n=>
     simp only[qP] at h;split at h
     ·rename_i ts s b z u fs lH;simp only[Bool.and_eq_true,beq_iff_eq] at h;obtain⟨⟨h1,h2⟩,h3⟩:=h;subst h1;have key:∀ (m:Nat),m≤n→∀ (ts:List TypeId) (xs:List AV),qP.Df ty m ts xs=true→xs.length=ts.length∧∀ (i:Nat) (x:AV) (u:TypeId),xs[i]? = some x→ts[i]? = some u→br ty u x:=by
       intro m
       induction m with
       | zero=>
         intro _ ts xs hc;cases ts <;> cases xs <;> simp[qP.Df] at hc ⊢
       | succ m ihm=>
         intro hm ts xs hc;cases ts <;> cases xs <;> simp only[qP.Df,Bool.and_eq_true] at hc <;> try (cases hc)
         ·exact⟨rfl,fun i x u h=>by simp at h⟩
         ·rename_i t0 ts x0 xs sy fp;obtain⟨e1,e2⟩:=ihm (by omega) ts xs fp;refine⟨by simp[e1],fun i y u hy hu=>?_⟩;cases i with
          | zero=>simp at hy hu;subst hy;subst hu;exact ih m (by omega) _ _ sy
          | succ i=>exact e2 i y u (by simpa using hy) (by simpa using hu)
      obtain⟨e1,e2⟩:=key n (Nat.le_refl _) ts fs h3;exact .st lH e1 h2 e2
     ·rename_i m e s b z u es lH;simp only[Bool.and_eq_true,beq_iff_eq,List.all_eq_true] at h;obtain⟨⟨⟨⟨h1,h2⟩,h3⟩,h4⟩,h5⟩:=h;subst h1;exact .ar lH h2 h3 (fun x hx=>ih n (Nat.lt_succ_self _) e x (h4 x hx)) h5
     ·rename_i d lH _ _;simp only[Bool.and_eq_true,beq_iff_eq] at h;obtain⟨⟨h1,h2⟩,h3⟩:=h;exact .leaf lH h1 h2 h3
     ·cases h
def ma:AV→Bool
 | .own ..=>false
 | .ptr ..=>false
 | .fn _ cs=>cs.isEmpty
 | .st _ fs=>vB fs
 | .cE _=>false
 | _=>true
where vB:List AV→Bool
 | []=>true
 | x::r=>ma x&&vB r
mutual
theorem qQ (o:Nat):∀ (x:AV),ma x=true→bA o x=false
 | .own ..,h=>by simp[ma] at h
 | .ptr ..,h=>by simp[ma] at h
 | .fn _ cs,h=>by simp[ma] at h;subst h;rfl
 | .st _ fs,h=>by simp only[bA];exact po o fs (by simpa[ma] using h)
 | .cE _,h=>by simp[ma] at h
 | .undef,_=>rfl
 | .int _ _,_=>rfl
 | .bool _,_=>rfl
 | .str _,_=>rfl
 | .sl _ _ _,_=>rfl
 | .ro _ _ _,_=>rfl
 | .mp _ _ _,_=>rfl
 | .iu,_=>rfl
 | .dY,_=>rfl
 | .ar _ _,_=>rfl
theorem po (o:Nat):∀ (l:List AV),ma.vB l=true→bA.du o l=false
 | [],_=>rfl
 | x::r,h=>by
   simp only[ma.vB,Bool.and_eq_true] at h;simp only[bA.du,qQ o x h.1,po o r h.2,Bool.or_false]
end
def TF (ty:bX) (t:TypeId) (D:kD) (u:TypeDesc) (z:Value):Bool:=
 FG ty D.k u&&l_ (leaves D.zero) z.cells.toList&&(fv D.k== !(match z with | .agg _=>true | _=>false))&&qP ty 40 t D.zero&&closed D.zero&&fresh D.zero&&ma D.zero
theorem aX {P:Program} {ty:bX} {t:TypeId} {D:kD} {u:TypeDesc} {z:Value} (hu:P.underlying t=some u)
 (hi:(P.info? t).map (fun i=>(i.size,i.bytes,i.zero))=some (D.size,D.bytes,some z)) (h:TF ty t D u z=true):bP P ty t D:=by
 simp only[TF,Bool.and_eq_true] at h;obtain⟨⟨⟨⟨⟨⟨h1,h2⟩,h3⟩,h4⟩,h5⟩,h6⟩,h7⟩:=h;obtain⟨i,i1,i2⟩:=Option.map_eq_some_iff.1 hi;simp only[Prod.mk.injEq] at i2;obtain⟨a,b,c⟩:=i2;refine⟨Br hu h1,⟨i,z,i1,a,b,c,Bs _ _ h2,fun hl=>?_⟩,Dg 40 t D.zero h4,fun hl i' z' e1 e2 cs=>?_,h5,h6,fun o=>qQ o _ h7⟩
 ·rw[hl] at h3;cases z <;> first | exact⟨_,rfl⟩ | cases h3
 ·rw[i1] at e1;injection e1 with e1;subst e1
  rw[c] at e2;injection e2 with e2;subst e2
  rw[hl] at h3;rintro rfl;cases h3
theorem lu {α:Type} {t:Nat} {v:α}:∀ {l:List (Nat × α)},aA t l=some v→(t,v) ∈ l
 | [],h=>by simp[aA] at h
 | (u,x)::r,h=>by
   simp only[aA] at h;split at h
   ·rename_i e;subst e;injection h with h;subst h;simp
   ·exact List.mem_cons_of_mem _ (lu h)
def JF (l:List (Nat × kD)):Bool:=
 l.all fun p=>decide (0 < p.2.size)&&(match p.2.k with
  | .struct ts=>ts.all fun u=>(aA u l).isSome
  | .array _ e=>(aA e l).isSome
  | .slice e=>(aA e l).isSome
  | _=>true)
theorem QG {P:Program} {l:List (Nat × kD)} (hr:∀ p ∈ l,bP P (fun t=>aA t l) p.1 p.2) (hc:JF l=true) (he:(l.all fun p=>match p.2.k with | .struct _=>G_ P p.1 | _=>true)=true):dk P (fun t=>aA t l):=by
 have cw:=List.all_eq_true.1 hc;have Bt:∀ {u:TypeId},(aA u l).isSome=true→∃ D,aA u l=some D:=fun h=>Option.isSome_iff_exists.1 h
 refine⟨fun t d h=>hr _ (lu h),fun t ts s b z h u hu=>?_,fun t n e s b z h=>?_,fun t D h=>?_,fun t e s b z h=>?_,fun t ts s b z h=>List.all_eq_true.1 he _ (lu h)⟩
 ·have:=cw _ (lu h);simp only[Bool.and_eq_true] at this;exact Bt (List.all_eq_true.1 this.2 u hu)
 ·have:=cw _ (lu h);simp only[Bool.and_eq_true] at this;exact Bt this.2
 ·have:=cw _ (lu h);simp only[Bool.and_eq_true,decide_eq_true_eq] at this;exact this.1
 ·have:=cw _ (lu h);simp only[Bool.and_eq_true] at this;exact Bt this.2
end Go.Abs
end
section
namespace Go.Proofs.Tryz
open Go Go.Abs
set_option maxRecDepth 100000
abbrev gN:Fl:=⟨true,some true,true⟩
abbrev n4:AV:= .st 27 [.sl 80 gN [],.sl 2 gN [],.sl 9 gN [],.sl 90 gN []]
abbrev zF:AV:= .st 142 [.str ⟨#[]⟩,.bool false,.bool false,.bool false,.bool false]
abbrev zR:AV:= .st 71 [.int .i64 0,.int .i64 0]
abbrev zP:AV:= .st 117 [.int .i64 0,.int .i64 0]
abbrev hN:Nat→Hint:=fun _=>{ tm:=[],ob:=[] }
abbrev NP:=Nat→Prop
abbrev J (n:Int):AV:= .int .i64 n
abbrev pb (o t:Nat):AV:= .ptr o (.box t) []
def tyL:List (Nat × kD):=[
 (2,⟨.int .i64,1,8,J 0⟩),
 (3,⟨.int .i64,1,8,J 0⟩),
 (4,⟨.bool,1,1,.bool false⟩),
 (5,⟨.int .u8,1,1,.int .u8 0⟩),
 (9,⟨.str,1,16,.str ⟨#[]⟩⟩),
 (21,⟨.int .i32,1,4,.int .i32 0⟩),
 (22,⟨.slice 80,1,24,.sl 80 gN []⟩),
 (23,⟨.slice 2,1,24,.sl 2 gN []⟩),
 (24,⟨.slice 9,1,24,.sl 9 gN []⟩),
 (25,⟨.slice 90,1,24,.sl 90 gN []⟩),
 (27,⟨.struct [22,23,24,25],4,96,n4⟩),
 (29,⟨.struct [3,3],2,16,.st 29 [J 0,J 0]⟩),
 (33,⟨.int .i64,1,8,J 0⟩),
 (37,⟨.struct [27,33],5,104,.st 37 [n4,J 0]⟩),
 (42,⟨.slice 29,1,24,.sl 29 gN []⟩),
 (46,⟨.struct [42,33],2,32,.st 46 [.sl 29 gN [],J 0]⟩),
 (50,⟨.array 8 4,8,8,.ar 50 [.bool false,.bool false,.bool false,.bool false,.bool false,.bool false,.bool false,.bool false]⟩),
 (56,⟨.struct [27,42,3,33],7,136,.st 56 [n4,.sl 29 gN [],J 0,J 0]⟩),
 (62,⟨.slice 4,1,24,.sl 4 gN []⟩),
 (68,⟨.slice 74,1,24,.sl 74 gN []⟩),
 (71,⟨.struct [3,2],2,16,zR⟩),
 (72,⟨.array 8 71,16,128,.ar 72 [zR,zR,zR,zR,zR,zR,zR,zR]⟩),
 (74,⟨.struct [4,72],17,136,.st 74 [.bool false,.ar 72 [zR,zR,zR,zR,zR,zR,zR,zR]]⟩),
 (75,⟨.slice 50,1,24,.sl 50 gN []⟩),
 (80,⟨.struct [3,3,3,3,2],5,40,.st 80 [J 0,J 0,J 0,J 0,J 0]⟩),
 (83,⟨.ptr 106,1,8,.iu⟩),
 (87,⟨.struct [27,4],5,104,.st 87 [n4,.bool false]⟩),
 (90,⟨.struct [3,3,9,9],4,48,.st 90 [J 0,J 0,.str ⟨#[]⟩,.str ⟨#[]⟩]⟩),
 (96,⟨.slice 3,1,24,.sl 3 gN []⟩),
 (100,⟨.struct [4,4,4,4,9],5,24,.st 100 [.bool false,.bool false,.bool false,.bool false,.str ⟨#[]⟩]⟩),
 (103,⟨.slice 119,1,24,.sl 119 gN []⟩),
 (104,⟨.slice 109,1,24,.sl 109 gN []⟩),
 (106,⟨.struct [27,103,62,104],7,168,.st 106 [n4,.sl 119 gN [],.sl 4 gN [],.sl 109 gN []]⟩),
 (109,⟨.int .u8,1,1,.int .u8 0⟩),
 (117,⟨.struct [3,2],2,16,zP⟩),
 (119,⟨.array 8 117,16,128,.ar 119 [zP,zP,zP,zP,zP,zP,zP,zP]⟩),
 (130,⟨.func,1,8,.dY⟩),
 (133,⟨.struct [3,4],2,16,.st 133 [J 0,.bool false]⟩),
 (142,⟨.struct [9,4,4,4,4],5,24,zF⟩),
 (152,⟨.struct [2,33],2,16,.st 152 [J 0,J 0]⟩),
 (155,⟨.func,1,8,.dY⟩),
 (158,⟨.array 41 142,205,984,.ar 158 [zF,zF,zF,zF,zF,zF,zF,zF,zF,zF,zF,zF,zF,zF,zF,zF,zF,zF,zF,zF,zF,zF,zF,zF,zF,zF,zF,zF,zF,zF,zF,zF,zF,zF,zF,zF,zF,zF,zF,zF,zF]⟩),
 (161,⟨.func,1,8,.dY⟩),
 (167,⟨.ptr 3,1,8,.iu⟩),
 (168,⟨.slice 167,1,24,.sl 167 gN []⟩),
 (172,⟨.func,1,8,.dY⟩),
 (181,⟨.struct [133,2,33],4,32,.st 181 [.st 133 [J 0,.bool false],J 0,J 0]⟩),
 (190,⟨.int .u64,1,8,.int .u64 0⟩),
 (200,⟨.int .i8,1,1,.int .i8 0⟩),
 (201,⟨.int .i16,1,2,.int .i16 0⟩),
 (202,⟨.int .u16,1,2,.int .u16 0⟩),
 (203,⟨.int .u32,1,4,.int .u32 0⟩),
 (210,⟨.array 4 133,8,64,.ar 210 [.st 133 [J 0,.bool false],.st 133 [J 0,.bool false],.st 133 [J 0,.bool false],.st 133 [J 0,.bool false]]⟩),
 (122,⟨.func,1,8,.dY⟩),
 (124,⟨.map 3 122,1,8,.mp 124 [] []⟩),
 (214,⟨.func,1,8,.dY⟩),
 (216,⟨.map 133 214,1,8,.mp 216 [] []⟩)]
def ty:bX:=fun t=>aA t tyL
theorem FH:ty 2=some ⟨.int .i64,1,8,.int .i64 0⟩:=rfl
theorem oS:ty 3=some ⟨.int .i64,1,8,.int .i64 0⟩:=rfl
theorem vh:ty 4=some ⟨.bool,1,1,.bool false⟩:=rfl
theorem acy:ty 5=some ⟨.int .u8,1,1,.int .u8 0⟩:=rfl
theorem yY:ty 9=some ⟨.str,1,16,.str ⟨#[]⟩⟩:=rfl
theorem TG:ty 21=some ⟨.int .i32,1,4,.int .i32 0⟩:=rfl
theorem zG:ty 22=some ⟨.slice 80,1,24,.sl 80 gN []⟩:=rfl
theorem zH:ty 23=some ⟨.slice 2,1,24,.sl 2 gN []⟩:=rfl
theorem zI:ty 24=some ⟨.slice 9,1,24,.sl 9 gN []⟩:=rfl
theorem zJ:ty 25=some ⟨.slice 90,1,24,.sl 90 gN []⟩:=rfl
theorem Dh:ty 27=some ⟨.struct [22,23,24,25],4,96,n4⟩:=rfl
theorem TH:ty 29=some ⟨.struct [3,3],2,16,.st 29 [.int .i64 0,.int .i64 0]⟩:=rfl
theorem TI:ty 33=some ⟨.int .i64,1,8,.int .i64 0⟩:=rfl
theorem TJ:ty 37=some ⟨.struct [27,33],5,104,.st 37 [n4,.int .i64 0]⟩:=rfl
theorem TL:ty 42=some ⟨.slice 29,1,24,.sl 29 gN []⟩:=rfl
theorem TM:ty 46=some ⟨.struct [42,33],2,32,.st 46 [.sl 29 gN [],.int .i64 0]⟩:=rfl
theorem TN:ty 50=some ⟨.array 8 4,8,8,.ar 50 [.bool false,.bool false,.bool false,.bool false,.bool false,.bool false,.bool false,.bool false]⟩:=rfl
theorem TO:ty 56=some ⟨.struct [27,42,3,33],7,136,.st 56 [n4,.sl 29 gN [],.int .i64 0,.int .i64 0]⟩:=rfl
theorem TP:ty 62=some ⟨.slice 4,1,24,.sl 4 gN []⟩:=rfl
theorem TQ:ty 68=some ⟨.slice 74,1,24,.sl 74 gN []⟩:=rfl
theorem TS:ty 71=some ⟨.struct [3,2],2,16,zR⟩:=rfl
theorem TT:ty 72=some ⟨.array 8 71,16,128,.ar 72 [zR,zR,zR,zR,zR,zR,zR,zR]⟩:=rfl
theorem TU:ty 74=some ⟨.struct [4,72],17,136,.st 74 [.bool false,.ar 72 [zR,zR,zR,zR,zR,zR,zR,zR]]⟩:=rfl
theorem TV:ty 75=some ⟨.slice 50,1,24,.sl 50 gN []⟩:=rfl
theorem Di:ty 80=some ⟨.struct [3,3,3,3,2],5,40,.st 80 [.int .i64 0,.int .i64 0,.int .i64 0,.int .i64 0,.int .i64 0]⟩:=rfl
theorem TW:ty 83=some ⟨.ptr 106,1,8,.iu⟩:=rfl
theorem TX:ty 87=some ⟨.struct [27,4],5,104,.st 87 [n4,.bool false]⟩:=rfl
theorem Dj:ty 90=some ⟨.struct [3,3,9,9],4,48,.st 90 [.int .i64 0,.int .i64 0,.str ⟨#[]⟩,.str ⟨#[]⟩]⟩:=rfl
theorem TZ:ty 96=some ⟨.slice 3,1,24,.sl 3 gN []⟩:=rfl
theorem LW:ty 100=some ⟨.struct [4,4,4,4,9],5,24,.st 100 [.bool false,.bool false,.bool false,.bool false,.str ⟨#[]⟩]⟩:=rfl
theorem LX:ty 103=some ⟨.slice 119,1,24,.sl 119 gN []⟩:=rfl
theorem LY:ty 104=some ⟨.slice 109,1,24,.sl 109 gN []⟩:=rfl
theorem LZ:ty 106=some ⟨.struct [27,103,62,104],7,168,.st 106 [n4,.sl 119 gN [],.sl 4 gN [],.sl 109 gN []]⟩:=rfl
theorem L0:ty 109=some ⟨.int .u8,1,1,.int .u8 0⟩:=rfl
theorem L1:ty 117=some ⟨.struct [3,2],2,16,zP⟩:=rfl
theorem L2:ty 119=some ⟨.array 8 117,16,128,.ar 119 [zP,zP,zP,zP,zP,zP,zP,zP]⟩:=rfl
theorem L3:ty 130=some ⟨.func,1,8,.dY⟩:=rfl
theorem sJ:ty 133=some ⟨.struct [3,4],2,16,.st 133 [.int .i64 0,.bool false]⟩:=rfl
theorem Bu:ty 142=some ⟨.struct [9,4,4,4,4],5,24,zF⟩:=rfl
theorem L4:ty 152=some ⟨.struct [2,33],2,16,.st 152 [.int .i64 0,.int .i64 0]⟩:=rfl
theorem L5:ty 155=some ⟨.func,1,8,.dY⟩:=rfl
theorem Bv:ty 158=some ⟨.array 41 142,205,984,.ar 158 [zF,zF,zF,zF,zF,zF,zF,zF,zF,zF,zF,zF,zF,zF,zF,zF,zF,zF,zF,zF,zF,zF,zF,zF,zF,zF,zF,zF,zF,zF,zF,zF,zF,zF,zF,zF,zF,zF,zF,zF,zF]⟩:=rfl
theorem L6:ty 161=some ⟨.func,1,8,.dY⟩:=rfl
theorem L7:ty 167=some ⟨.ptr 3,1,8,.iu⟩:=rfl
theorem L8:ty 168=some ⟨.slice 167,1,24,.sl 167 gN []⟩:=rfl
theorem L9:ty 172=some ⟨.func,1,8,.dY⟩:=rfl
theorem L_:ty 181=some ⟨.struct [133,2,33],4,32,.st 181 [.st 133 [.int .i64 0,.bool false],.int .i64 0,.int .i64 0]⟩:=rfl
theorem Ma:ty 190=some ⟨.int .u64,1,8,.int .u64 0⟩:=rfl
theorem Mb:ty 200=some ⟨.int .i8,1,1,.int .i8 0⟩:=rfl
theorem Mc:ty 201=some ⟨.int .i16,1,2,.int .i16 0⟩:=rfl
theorem Md:ty 202=some ⟨.int .u16,1,2,.int .u16 0⟩:=rfl
theorem Me:ty 203=some ⟨.int .u32,1,4,.int .u32 0⟩:=rfl
theorem Bw:ty 210=some ⟨.array 4 133,8,64,.ar 210 [.st 133 [.int .i64 0,.bool false],.st 133 [.int .i64 0,.bool false],.st 133 [.int .i64 0,.bool false],.st 133 [.int .i64 0,.bool false]]⟩:=rfl
theorem FI:ty 122=some ⟨.func,1,8,.dY⟩:=rfl
theorem FJ:ty 124=some ⟨.map 3 122,1,8,.mp 124 [] []⟩:=rfl
theorem FK:ty 214=some ⟨.func,1,8,.dY⟩:=rfl
theorem FL:ty 216=some ⟨.map 133 214,1,8,.mp 216 [] []⟩:=rfl
theorem acz:bP Tryz.prog ty 2 ⟨.int .i64,1,8,.int .i64 0⟩:=
 aX Tryz.underlying2 (z:= .int .i64 0) (by kernel_rfl) (by kernel_rfl)
theorem acA:bP Tryz.prog ty 3 ⟨.int .i64,1,8,.int .i64 0⟩:=
 aX Tryz.underlying3 (z:= .int .i64 0) (by kernel_rfl) (by kernel_rfl)
theorem acB:bP Tryz.prog ty 4 ⟨.bool,1,1,.bool false⟩:=
 aX Tryz.underlying4 (z:= .bool false) (by kernel_rfl) (by kernel_rfl)
theorem acC:bP Tryz.prog ty 5 ⟨.int .u8,1,1,.int .u8 0⟩:=
 aX Tryz.underlying5 (z:= .int .u8 0) (by kernel_rfl) (by kernel_rfl)
theorem acD:bP Tryz.prog ty 9 ⟨.str,1,16,.str ⟨#[]⟩⟩:=
 aX Tryz.underlying9 (z:= .string ⟨#[]⟩) (by kernel_rfl) (by kernel_rfl)
theorem Vq:bP Tryz.prog ty 21 ⟨.int .i32,1,4,.int .i32 0⟩:=
 aX Tryz.underlying21 (z:= .int .i32 0) (by kernel_rfl) (by kernel_rfl)
theorem Vr:bP Tryz.prog ty 22 ⟨.slice 80,1,24,.sl 80 gN []⟩:=
 aX Tryz.underlying22 (z:= .slice none 0 0) (by kernel_rfl) (by kernel_rfl)
theorem Vs:bP Tryz.prog ty 23 ⟨.slice 2,1,24,.sl 2 gN []⟩:=
 aX Tryz.underlying23 (z:= .slice none 0 0) (by kernel_rfl) (by kernel_rfl)
theorem Vt:bP Tryz.prog ty 24 ⟨.slice 9,1,24,.sl 9 gN []⟩:=
 aX Tryz.underlying24 (z:= .slice none 0 0) (by kernel_rfl) (by kernel_rfl)
theorem Vu:bP Tryz.prog ty 25 ⟨.slice 90,1,24,.sl 90 gN []⟩:=
 aX Tryz.underlying25 (z:= .slice none 0 0) (by kernel_rfl) (by kernel_rfl)
theorem Vv:bP Tryz.prog ty 27 ⟨.struct [22,23,24,25],4,96,n4⟩:=
 aX Tryz.underlying27 (z:= .agg #[.slice none 0 0,.slice none 0 0,.slice none 0 0,.slice none 0 0]) (by kernel_rfl) (by kernel_rfl)
theorem Vw:bP Tryz.prog ty 29 ⟨.struct [3,3],2,16,.st 29 [.int .i64 0,.int .i64 0]⟩:=
 aX Tryz.underlying29 (z:= .agg #[.int .i64 0,.int .i64 0]) (by kernel_rfl) (by kernel_rfl)
theorem Vx:bP Tryz.prog ty 33 ⟨.int .i64,1,8,.int .i64 0⟩:=
 aX Tryz.underlying33 (z:= .int .i64 0) (by kernel_rfl) (by kernel_rfl)
theorem Vy:bP Tryz.prog ty 37 ⟨.struct [27,33],5,104,.st 37 [n4,.int .i64 0]⟩:=
 aX Tryz.underlying37 (z:= .agg #[.slice none 0 0,.slice none 0 0,.slice none 0 0,.slice none 0 0,.int .i64 0]) (by kernel_rfl) (by kernel_rfl)
theorem Vz:bP Tryz.prog ty 42 ⟨.slice 29,1,24,.sl 29 gN []⟩:=
 aX Tryz.underlying42 (z:= .slice none 0 0) (by kernel_rfl) (by kernel_rfl)
theorem VA:bP Tryz.prog ty 46 ⟨.struct [42,33],2,32,.st 46 [.sl 29 gN [],.int .i64 0]⟩:=
 aX Tryz.underlying46 (z:= .agg #[.slice none 0 0,.int .i64 0]) (by kernel_rfl) (by kernel_rfl)
theorem VB:bP Tryz.prog ty 50 ⟨.array 8 4,8,8,.ar 50 [.bool false,.bool false,.bool false,.bool false,.bool false,.bool false,.bool false,.bool false]⟩:=
 aX Tryz.underlying50 (z:= .agg #[.bool false,.bool false,.bool false,.bool false,.bool false,.bool false,.bool false,.bool false]) (by kernel_rfl) (by kernel_rfl)
theorem VC:bP Tryz.prog ty 56 ⟨.struct [27,42,3,33],7,136,.st 56 [n4,.sl 29 gN [],.int .i64 0,.int .i64 0]⟩:=
 aX Tryz.underlying56 (z:= .agg #[.slice none 0 0,.slice none 0 0,.slice none 0 0,.slice none 0 0,.slice none 0 0,.int .i64 0,.int .i64 0]) (by kernel_rfl) (by kernel_rfl)
theorem VD:bP Tryz.prog ty 62 ⟨.slice 4,1,24,.sl 4 gN []⟩:=
 aX Tryz.underlying62 (z:= .slice none 0 0) (by kernel_rfl) (by kernel_rfl)
theorem VE:bP Tryz.prog ty 68 ⟨.slice 74,1,24,.sl 74 gN []⟩:=
 aX Tryz.underlying68 (z:= .slice none 0 0) (by kernel_rfl) (by kernel_rfl)
theorem VF:bP Tryz.prog ty 71 ⟨.struct [3,2],2,16,zR⟩:=
 aX Tryz.underlying71 (z:= .agg #[.int .i64 0,.int .i64 0]) (by kernel_rfl) (by kernel_rfl)
theorem VG:bP Tryz.prog ty 72 ⟨.array 8 71,16,128,.ar 72 [zR,zR,zR,zR,zR,zR,zR,zR]⟩:=
 aX Tryz.underlying72 (z:= .agg #[.int .i64 0,.int .i64 0,.int .i64 0,.int .i64 0,.int .i64 0,.int .i64 0,.int .i64 0,.int .i64 0,.int .i64 0,.int .i64 0,.int .i64 0,.int .i64 0,.int .i64 0,.int .i64 0,.int .i64 0,.int .i64 0]) (by kernel_rfl) (by kernel_rfl)
theorem VH:bP Tryz.prog ty 74 ⟨.struct [4,72],17,136,.st 74 [.bool false,.ar 72 [zR,zR,zR,zR,zR,zR,zR,zR]]⟩:=
 aX Tryz.underlying74 (z:= .agg #[.bool false,.int .i64 0,.int .i64 0,.int .i64 0,.int .i64 0,.int .i64 0,.int .i64 0,.int .i64 0,.int .i64 0,.int .i64 0,.int .i64 0,.int .i64 0,.int .i64 0,.int .i64 0,.int .i64 0,.int .i64 0,.int .i64 0]) (by kernel_rfl) (by kernel_rfl)
theorem VI:bP Tryz.prog ty 75 ⟨.slice 50,1,24,.sl 50 gN []⟩:=
 aX Tryz.underlying75 (z:= .slice none 0 0) (by kernel_rfl) (by kernel_rfl)
theorem VJ:bP Tryz.prog ty 80 ⟨.struct [3,3,3,3,2],5,40,.st 80 [.int .i64 0,.int .i64 0,.int .i64 0,.int .i64 0,.int .i64 0]⟩:=
 aX Tryz.underlying80 (z:= .agg #[.int .i64 0,.int .i64 0,.int .i64 0,.int .i64 0,.int .i64 0]) (by kernel_rfl) (by kernel_rfl)
theorem VK:bP Tryz.prog ty 83 ⟨.ptr 106,1,8,.iu⟩:=
 aX Tryz.underlying83 (z:= .pointer none) (by kernel_rfl) (by kernel_rfl)
theorem VL:bP Tryz.prog ty 87 ⟨.struct [27,4],5,104,.st 87 [n4,.bool false]⟩:=
 aX Tryz.underlying87 (z:= .agg #[.slice none 0 0,.slice none 0 0,.slice none 0 0,.slice none 0 0,.bool false]) (by kernel_rfl) (by kernel_rfl)
theorem VM:bP Tryz.prog ty 90 ⟨.struct [3,3,9,9],4,48,.st 90 [.int .i64 0,.int .i64 0,.str ⟨#[]⟩,.str ⟨#[]⟩]⟩:=
 aX Tryz.underlying90 (z:= .agg #[.int .i64 0,.int .i64 0,.string ⟨#[]⟩,.string ⟨#[]⟩]) (by kernel_rfl) (by kernel_rfl)
theorem VN:bP Tryz.prog ty 96 ⟨.slice 3,1,24,.sl 3 gN []⟩:=
 aX Tryz.underlying96 (z:= .slice none 0 0) (by kernel_rfl) (by kernel_rfl)
theorem QH:bP Tryz.prog ty 100 ⟨.struct [4,4,4,4,9],5,24,.st 100 [.bool false,.bool false,.bool false,.bool false,.str ⟨#[]⟩]⟩:=
 aX Tryz.underlying100 (z:= .agg #[.bool false,.bool false,.bool false,.bool false,.string ⟨#[]⟩]) (by kernel_rfl) (by kernel_rfl)
theorem QI:bP Tryz.prog ty 103 ⟨.slice 119,1,24,.sl 119 gN []⟩:=
 aX Tryz.underlying103 (z:= .slice none 0 0) (by kernel_rfl) (by kernel_rfl)
theorem QJ:bP Tryz.prog ty 104 ⟨.slice 109,1,24,.sl 109 gN []⟩:=
 aX Tryz.underlying104 (z:= .slice none 0 0) (by kernel_rfl) (by kernel_rfl)
theorem QK:bP Tryz.prog ty 106 ⟨.struct [27,103,62,104],7,168,.st 106 [n4,.sl 119 gN [],.sl 4 gN [],.sl 109 gN []]⟩:=
 aX Tryz.underlying106 (z:= .agg #[.slice none 0 0,.slice none 0 0,.slice none 0 0,.slice none 0 0,.slice none 0 0,.slice none 0 0,.slice none 0 0]) (by kernel_rfl) (by kernel_rfl)
theorem QL:bP Tryz.prog ty 109 ⟨.int .u8,1,1,.int .u8 0⟩:=
 aX Tryz.underlying109 (z:= .int .u8 0) (by kernel_rfl) (by kernel_rfl)
theorem QM:bP Tryz.prog ty 117 ⟨.struct [3,2],2,16,zP⟩:=
 aX Tryz.underlying117 (z:= .agg #[.int .i64 0,.int .i64 0]) (by kernel_rfl) (by kernel_rfl)
theorem QN:bP Tryz.prog ty 119 ⟨.array 8 117,16,128,.ar 119 [zP,zP,zP,zP,zP,zP,zP,zP]⟩:=
 aX Tryz.underlying119 (z:= .agg #[.int .i64 0,.int .i64 0,.int .i64 0,.int .i64 0,.int .i64 0,.int .i64 0,.int .i64 0,.int .i64 0,.int .i64 0,.int .i64 0,.int .i64 0,.int .i64 0,.int .i64 0,.int .i64 0,.int .i64 0,.int .i64 0]) (by kernel_rfl) (by kernel_rfl)
theorem QO:bP Tryz.prog ty 130 ⟨.func,1,8,.dY⟩:=
 aX Tryz.underlying130 (z:= .nilFunc) (by kernel_rfl) (by kernel_rfl)
theorem QP:bP Tryz.prog ty 133 ⟨.struct [3,4],2,16,.st 133 [.int .i64 0,.bool false]⟩:=
 aX Tryz.underlying133 (z:= .agg #[.int .i64 0,.bool false]) (by kernel_rfl) (by kernel_rfl)
theorem QQ:bP Tryz.prog ty 142 ⟨.struct [9,4,4,4,4],5,24,zF⟩:=
 aX Tryz.underlying142 (z:= .agg #[.string ⟨#[]⟩,.bool false,.bool false,.bool false,.bool false]) (by kernel_rfl) (by kernel_rfl)
theorem QR:bP Tryz.prog ty 152 ⟨.struct [2,33],2,16,.st 152 [.int .i64 0,.int .i64 0]⟩:=
 aX Tryz.underlying152 (z:= .agg #[.int .i64 0,.int .i64 0]) (by kernel_rfl) (by kernel_rfl)
theorem QS:bP Tryz.prog ty 155 ⟨.func,1,8,.dY⟩:=
 aX Tryz.underlying155 (z:= .nilFunc) (by kernel_rfl) (by kernel_rfl)
theorem QT:bP Tryz.prog ty 158 ⟨.array 41 142,205,984,.ar 158 [zF,zF,zF,zF,zF,zF,zF,zF,zF,zF,zF,zF,zF,zF,zF,zF,zF,zF,zF,zF,zF,zF,zF,zF,zF,zF,zF,zF,zF,zF,zF,zF,zF,zF,zF,zF,zF,zF,zF,zF,zF]⟩:=
 aX Tryz.underlying158 (z:= .agg #[.string ⟨#[]⟩,.bool false,.bool false,.bool false,.bool false,.string ⟨#[]⟩,.bool false,.bool false,.bool false,.bool false,.string ⟨#[]⟩,.bool false,.bool false,.bool false,.bool false,.string ⟨#[]⟩,.bool false,.bool false,.bool false,.bool false,.string ⟨#[]⟩,.bool false,.bool false,.bool false,.bool false,.string ⟨#[]⟩,.bool false,.bool false,.bool false,.bool false,.string ⟨#[]⟩,.bool false,.bool false,.bool false,.bool false,.string ⟨#[]⟩,.bool false,.bool false,.bool false,.bool false,.string ⟨#[]⟩,.bool false,.bool false,.bool false,.bool false,.string ⟨#[]⟩,.bool false,.bool false,.bool false,.bool false,.string ⟨#[]⟩,.bool false,.bool false,.bool false,.bool false,.string ⟨#[]⟩,.bool false,.bool false,.bool false,.bool false,.string ⟨#[]⟩,.bool false,.bool false,.bool false,.bool false,.string ⟨#[]⟩,.bool false,.bool false,.bool false,.bool false,.string ⟨#[]⟩,.bool false,.bool false,.bool false,.bool false,.string ⟨#[]⟩,.bool false,.bool false,.bool false,.bool false,.string ⟨#[]⟩,.bool false,.bool false,.bool false,.bool false,.string ⟨#[]⟩,.bool false,.bool false,.bool false,.bool false,.string ⟨#[]⟩,.bool false,.bool false,.bool false,.bool false,.string ⟨#[]⟩,.bool false,.bool false,.bool false,.bool false,.string ⟨#[]⟩,.bool false,.bool false,.bool false,.bool false,.string ⟨#[]⟩,.bool false,.bool false,.bool false,.bool false,.string ⟨#[]⟩,.bool false,.bool false,.bool false,.bool false,.string ⟨#[]⟩,.bool false,.bool false,.bool false,.bool false,.string ⟨#[]⟩,.bool false,.bool false,.bool false,.bool false,.string ⟨#[]⟩,.bool false,.bool false,.bool false,.bool false,.string ⟨#[]⟩,.bool false,.bool false,.bool false,.bool false,.string ⟨#[]⟩,.bool false,.bool false,.bool false,.bool false,.string ⟨#[]⟩,.bool false,.bool false,.bool false,.bool false,.string ⟨#[]⟩,.bool false,.bool false,.bool false,.bool false,.string ⟨#[]⟩,.bool false,.bool false,.bool false,.bool false,.string ⟨#[]⟩,.bool false,.bool false,.bool false,.bool false,.string ⟨#[]⟩,.bool false,.bool false,.bool false,.bool false,.string ⟨#[]⟩,.bool false,.bool false,.bool false,.bool false,.string ⟨#[]⟩,.bool false,.bool false,.bool false,.bool false,.string ⟨#[]⟩,.bool false,.bool false,.bool false,.bool false,.string ⟨#[]⟩,.bool false,.bool false,.bool false,.bool false,.string ⟨#[]⟩,.bool false,.bool false,.bool false,.bool false,.string ⟨#[]⟩,.bool false,.bool false,.bool false,.bool false,.string ⟨#[]⟩,.bool false,.bool false,.bool false,.bool false,.string ⟨#[]⟩,.bool false,.bool false,.bool false,.bool false]) (by kernel_rfl) (by kernel_rfl)
theorem QU:bP Tryz.prog ty 161 ⟨.func,1,8,.dY⟩:=
 aX Tryz.underlying161 (z:= .nilFunc) (by kernel_rfl) (by kernel_rfl)
theorem QV:bP Tryz.prog ty 167 ⟨.ptr 3,1,8,.iu⟩:=
 aX Tryz.underlying167 (z:= .pointer none) (by kernel_rfl) (by kernel_rfl)
theorem QW:bP Tryz.prog ty 168 ⟨.slice 167,1,24,.sl 167 gN []⟩:=
 aX Tryz.underlying168 (z:= .slice none 0 0) (by kernel_rfl) (by kernel_rfl)
theorem QX:bP Tryz.prog ty 172 ⟨.func,1,8,.dY⟩:=
 aX Tryz.underlying172 (z:= .nilFunc) (by kernel_rfl) (by kernel_rfl)
theorem QY:bP Tryz.prog ty 181 ⟨.struct [133,2,33],4,32,.st 181 [.st 133 [.int .i64 0,.bool false],.int .i64 0,.int .i64 0]⟩:=
 aX Tryz.underlying181 (z:= .agg #[.int .i64 0,.bool false,.int .i64 0,.int .i64 0]) (by kernel_rfl) (by kernel_rfl)
theorem QZ:bP Tryz.prog ty 190 ⟨.int .u64,1,8,.int .u64 0⟩:=
 aX Tryz.underlying190 (z:= .int .u64 0) (by kernel_rfl) (by kernel_rfl)
theorem Q0:bP Tryz.prog ty 200 ⟨.int .i8,1,1,.int .i8 0⟩:=
 aX Tryz.underlying200 (z:= .int .i8 0) (by kernel_rfl) (by kernel_rfl)
theorem Q1:bP Tryz.prog ty 201 ⟨.int .i16,1,2,.int .i16 0⟩:=
 aX Tryz.underlying201 (z:= .int .i16 0) (by kernel_rfl) (by kernel_rfl)
theorem Q2:bP Tryz.prog ty 202 ⟨.int .u16,1,2,.int .u16 0⟩:=
 aX Tryz.underlying202 (z:= .int .u16 0) (by kernel_rfl) (by kernel_rfl)
theorem Q3:bP Tryz.prog ty 203 ⟨.int .u32,1,4,.int .u32 0⟩:=
 aX Tryz.underlying203 (z:= .int .u32 0) (by kernel_rfl) (by kernel_rfl)
theorem Q4:bP Tryz.prog ty 210 ⟨.array 4 133,8,64,.ar 210 [.st 133 [.int .i64 0,.bool false],.st 133 [.int .i64 0,.bool false],.st 133 [.int .i64 0,.bool false],.st 133 [.int .i64 0,.bool false]]⟩:=
 aX Tryz.underlying210 (z:= .agg #[.int .i64 0,.bool false,.int .i64 0,.bool false,.int .i64 0,.bool false,.int .i64 0,.bool false]) (by kernel_rfl) (by kernel_rfl)
theorem Q5:bP Tryz.prog ty 122 ⟨.func,1,8,.dY⟩:=
 aX Tryz.underlying122 (z:= .nilFunc) (by kernel_rfl) (by kernel_rfl)
theorem Q6:bP Tryz.prog ty 124 ⟨.map 3 122,1,8,.mp 124 [] []⟩:=
 aX Tryz.underlying124 (z:= .map none) (by kernel_rfl) (by kernel_rfl)
theorem Q7:bP Tryz.prog ty 214 ⟨.func,1,8,.dY⟩:=
 aX Tryz.underlying214 (z:= .nilFunc) (by kernel_rfl) (by kernel_rfl)
theorem Q8:bP Tryz.prog ty 216 ⟨.map 133 214,1,8,.mp 216 [] []⟩:=
 aX Tryz.underlying216 (z:= .map none) (by kernel_rfl) (by kernel_rfl)
theorem cF:dk Tryz.prog ty:=QG (by
 intro p hp;simp only[tyL,List.mem_cons,List.not_mem_nil,or_false] at hp;rcases hp with rfl | rfl | rfl | rfl | rfl | rfl | rfl | rfl | rfl | rfl | rfl | rfl | rfl | rfl | rfl | rfl | rfl | rfl | rfl | rfl | rfl | rfl | rfl | rfl | rfl | rfl | rfl | rfl | rfl | rfl | rfl | rfl | rfl | rfl | rfl | rfl | rfl | rfl | rfl | rfl | rfl | rfl | rfl | rfl | rfl | rfl | rfl | rfl | rfl | rfl | rfl | rfl | rfl | rfl | rfl | rfl | rfl
 ·exact acz
 ·exact acA
 ·exact acB
 ·exact acC
 ·exact acD
 ·exact Vq
 ·exact Vr
 ·exact Vs
 ·exact Vt
 ·exact Vu
 ·exact Vv
 ·exact Vw
 ·exact Vx
 ·exact Vy
 ·exact Vz
 ·exact VA
 ·exact VB
 ·exact VC
 ·exact VD
 ·exact VE
 ·exact VF
 ·exact VG
 ·exact VH
 ·exact VI
 ·exact VJ
 ·exact VK
 ·exact VL
 ·exact VM
 ·exact VN
 ·exact QH
 ·exact QI
 ·exact QJ
 ·exact QK
 ·exact QL
 ·exact QM
 ·exact QN
 ·exact QO
 ·exact QP
 ·exact QQ
 ·exact QR
 ·exact QS
 ·exact QT
 ·exact QU
 ·exact QV
 ·exact QW
 ·exact QX
 ·exact QY
 ·exact QZ
 ·exact Q0
 ·exact Q1
 ·exact Q2
 ·exact Q3
 ·exact Q4
 ·exact Q5
 ·exact Q6
 ·exact Q7
 ·exact Q8) (by kernel_rfl) (by kernel_rfl)
end Go.Proofs.Tryz
end
