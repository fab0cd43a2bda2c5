/- Part of the proof of one statement of this seat: an abstract machine for the program, its contracts, and the statement (no condition of our own). -/
import Derived.Laws.AppendOwn
import Derived.LoopN
import Derived.Orders
import Derived.Test.YtbdbjpdlcemeaaaDoorDp00
set_option linter.unusedSimpArgs false
set_option linter.unusedVariables false
section
namespace Go.Abs
open Go Go.RowKit
structure Tabs (P:Program) (ty:Tys):Prop where
 ok:TyOk P ty
 st:∀ t ts s b z,ty t=some ⟨.struct ts,s,b,z⟩→∀ u ∈ ts,∃ D,ty u=some D
 ar:∀ t n e s b z,ty t=some ⟨.array n e,s,b,z⟩→∃ D,ty e=some D
 pos:∀ t D,ty t=some D→0 < D.size
 sl:∀ t e s b z,ty t=some ⟨.slice e,s,b,z⟩→∃ D,ty e=some D
 eq:∀ t ts s b z,ty t=some ⟨.struct ts,s,b,z⟩→eqOkT P t=true
theorem offRT_append {ty:Tys} {r:RT} {p q:List Nat} {u:TypeId} {d e:Nat} (h:r.tyAt ty p=some u) (hd:offRT ty r p=some d) (he:offTy ty u q=some e):offRT ty r (p++q)=some (d+e):=by
 cases r with
 | box t=>exact offTy_append p q h hd he
 | row t=>
   cases p with
   | nil=>simp[RT.tyAt] at h
   | cons i p=>
     simp only[RT.tyAt,offRT,List.cons_append] at h hd ⊢;split at hd
     ·rename_i d' hd';injection hd with hd;subst hd
      rw[offTy_append p q h hd' he];simp[Nat.add_assoc]
     ·cases hd
 | rop t=>
   cases p with
   | nil=>simp[RT.tyAt] at h
   | cons i p=>
     simp only[RT.tyAt,offRT,List.cons_append] at h hd ⊢;split at hd
     ·rename_i d' hd';injection hd with hd;subst hd
      rw[offTy_append p q h hd' he];simp[Nat.add_assoc]
     ·cases hd
theorem add_addr (k o n:Nat):(⟨k,o,none⟩:Addr).add n=⟨k,o+n,none⟩:=add_none k o n
theorem VR.own_inv {c:Cx} {o:Nat} {t:TypeId} {off n:Nat} {v:Value} (h:VR c (.own o t off n) v) :
 (c.β o=none∧off=0∧n=0∧v = .slice none 0 0)∨
 ∃ k cp arr e,c.β o=some k∧c.w.heap[k]? = some (.cells arr e (0,0))∧(off+cp) * szOf c.ty t=arr.size∧n≤cp∧v = .slice (some ⟨k,off * szOf c.ty t,none⟩) n cp:=by
 cases h with
 | cl h=>cases h
 | ownN o t h=>exact .inl ⟨h,rfl,rfl,rfl⟩
 | own o t off n k cp arr e h1 h2 h3 h4=>exact .inr ⟨k,cp,arr,e,h1,h2,h3,h4,rfl⟩
theorem VR.sl_inv {c:Cx} {t:TypeId} {fl:Fl} {es:List AV} {v:Value} (h:VR c (.sl t fl es) v) :
 (es=[]∧fl.nil ≠ some false∧v = .slice none 0 0)∨
 ∃ k off cp,v = .slice (some ⟨k,off,none⟩) es.length cp∧es.length≤cp∧fl.nil ≠ some true∧(es ≠ []→c.okb fl.fr k∧k < c.w.heap.size)∧(∀ x ∈ es,Conf c.ty t x)∧
   ∀ (j:Nat) (y:AV),(leavesL es)[j]? = some y→∃ u,c.w.cell? ⟨k,off+j,none⟩=some u∧LR c.ty c.w (c.okb fl.fr) y u:=by
 cases h with
 | cl h=>
   cases h with
   | slN t fl cc h1 h2=>subst h2;exact .inl ⟨rfl,h1,rfl⟩
   | sl t fl es blk off cc vs h1 h2 h3 h4 h5 h6 h7=>exact .inr ⟨blk,off,cc,rfl,h1,h2,h4,h5,fun j y hy=>⟨vs j,h6 j y hy,h7 j y hy⟩⟩
section
variable {P:Program} {E:Env} {w0 w:World} {σ:St} {a:Act} {β:Nat→Option Nat} {x:AV} {ob:List (Nat × Obj)} {d:Nat} {o:Oper}
theorem run_fieldAt (hT:Tabs P E.ty) {s:TypeId} {ts:List TypeId} {sz bb:Nat} {zz:AV} (hD:E.ty s=some ⟨.struct ts,sz,bb,zz⟩) {f:Nat} {u:TypeId} (hu:ts[f]? = some u) {v:Value} {k dd:Nat}
 (e1:v = .pointer (some ⟨k,dd,none⟩)):(Instr.fieldAt s v f).run P w = .ok (.pointer (some ⟨k,dd+((ts.take f).map (szOf E.ty)).sum,none⟩)) w:=by
 have hk:=(hT.ok s _ hD).kind;simp only[kindOk] at hk;obtain⟨fields,k1,k2,k3⟩:=hk;have hi:f < fields.size:=by rw[k2];exact (List.getElem?_eq_some_iff.1 hu).1
 have hf:fields[f]? = some fields[f]:=by simp[hi]
 obtain⟨g1,g2⟩:=k3 f _ hf;rw[hu] at g1;injection g1 with g1
 obtain⟨Du,hDu⟩:=hT.st s ts sz bb zz hD u (List.mem_of_getElem? hu);have hpos:0 < szOf E.ty u:=by have:=hT.pos u Du hDu;simpa[szOf,hDu] using this
 unfold Instr.fieldAt;simp only[Sem.run_bind,run_underlying k1,Result.andThen_ok,hf,e1,Instr.sureAddr,Sem.run_pure];unfold fieldPlace;simp only[Sem.run_bind,← g1,run_sizeOf_ty hT.ok hDu,Result.andThen_ok];rw[if_neg (by omega)];simp only[Sem.run_pure,Result.andThen_ok,add_addr,g2]
theorem ok_fieldAddr (hT:Tabs P E.ty) (h:Sim E w0 σ a w β) (hG:GlobOk E w0) {s:TypeId} {y:Operand} {f:Nat} (ho:o.op = .fieldAddr s y f) (hr:ares E d σ (.fieldAddr s y f)=some (x,ob)) :
 Post E w0 σ a ob x ((execOp a.eval o).run P w):=by
 simp only[ares] at hr;obtain⟨q,h1,h2⟩:=obind_eq hr;have hq:=val_sound h hG h1;have hexec:(execOp a.eval o)=(do pure (Next.value (← Instr.fieldAt s (a.eval y) f))):=by simp[execOp,ho]
 split at h2
 ·rename_i o' r p;split at h2
  ·rename_i hty;split at h2
   ·rename_i ts sz bb zz hD;split at h2
    ·rename_i hf;injection h2 with h2;injection h2 with h2 h3;subst h2;subst h3
     obtain⟨k,dd,e1,e2,e3⟩:=VR.ptr_inv hq;have hu:ts[f]? = some ts[f]:=by simp[hf]
     refine Post.same h (v:= .pointer (some ⟨k,dd+((ts.take f).map (szOf E.ty)).sum,none⟩)) ?_
      (.ptr _ _ _ k _ e2 (offRT_append hty e3 (by simp only[offTy,cxOf,hD,hu];rfl)))
     rw[hexec];exact run_v (run_fieldAt hT hD hu e1)
    ·cases h2
   ·cases h2
  ·cases h2
 ·rename_i fr u t fs;split at h2
  ·rename_i e0;subst e0;split at h2
   ·rename_i ts sz bb zz hD;obtain⟨u',hu,h3⟩:=obind_eq h2;obtain⟨y',hy',h4⟩:=obind_eq h3;injection h4 with h4;injection h4 with h4 h5;subst h4;subst h5
    obtain⟨k,dd,e1,e2,e3,e4,e5⟩:=VR.ro_inv hq;obtain⟨D,hDu,_⟩:∃ D,E.ty u=some D∧True:=by obtain⟨D,hD'⟩:=e4.ty;exact⟨D,hD',trivial⟩
    have hut:u=t:=by
     cases e4 with
     | leaf _ _ _ q4=>cases q4
     | st _ _ _ _=>rfl
    subst hut;have e4':Conf E.ty u (.st u fs):=e4;obtain⟨_,q2,q3,q4⟩:=e4'.st_inv hD;have hc:=q4 f y' u' hy' hu;refine Post.same h (v:= .pointer (some ⟨k,dd+((ts.take f).map (szOf E.ty)).sum,none⟩)) ?_ (VR.ro_mk e2 e3 hc fun j z hz=>?_)
    ·rw[hexec];exact run_v (run_fieldAt hT hD hu e1)
    ·have hj:j < szOf E.ty u':=by rw[← hc.len];exact (List.getElem?_eq_some_iff.1 hz).1
     have:=leavesL_field fs ts q2 (fun i x u hx hu=>(q4 i x u hx hu).len) f y' u' hy' hu j hj;obtain⟨v,g1,g2⟩:=e5 (((ts.take f).map (szOf E.ty)).sum+j) z (by simp only[leaves];rw[this];exact hz);exact⟨v,by rw[← g1];congr 2;omega,g2⟩
   ·cases h2
  ·cases h2
 ·cases h2
theorem ok_field (hT:Tabs P E.ty) (h:Sim E w0 σ a w β) (hG:GlobOk E w0) {s:TypeId} {y:Operand} {f:Nat} (ho:o.op = .field s y f) (hr:ares E d σ (.field s y f)=some (x,ob)) :
 Post E w0 σ a ob x ((execOp a.eval o).run P w):=by
 simp only[ares] at hr;obtain⟨q,h1,h2⟩:=obind_eq hr;have hq:=val_sound h hG h1;have hexec:(execOp a.eval o)=(do pure (Next.value (← Instr.field s (a.eval y) f))):=by simp[execOp,ho]
 split at h2
 ·rename_i t fs;split at h2
  ·rename_i e0;subst e0;obtain⟨y',hy',h4⟩:=obind_eq h2;injection h4 with h4;injection h4 with h4 h5;subst h4;subst h5
   obtain⟨vs,e1,e2,e3⟩:=hq
   replace e2:Conf E.ty t (.st t fs):=e2
   cases e2 with
   | leaf _ _ _ q4=>cases q4
   | @st _ ts sz bb zz _ hD q2 q3 q4=>
     obtain⟨u,hu⟩:∃ u,ts[f]? = some u:=⟨ts[f]'(by rw[← q2];exact (List.getElem?_eq_some_iff.1 hy').1),by simp⟩
     have hc:=q4 f y' u hy' hu;have hk:=(hT.ok t _ hD).kind;simp only[kindOk] at hk;obtain⟨fields,k1,k2,k3⟩:=hk;have hi:f < fields.size:=by rw[k2];exact (List.getElem?_eq_some_iff.1 hu).1
     have hf:fields[f]? = some fields[f]:=by simp[hi]
     obtain⟨g1,g2⟩:=k3 f _ hf;rw[hu] at g1;injection g1 with g1
     obtain⟨Du,hDu⟩:=hc.ty;have hcells:∀ (j:Nat) (z:AV),(leaves y')[j]? = some z→∃ v,vs[((ts.take f).map (szOf E.ty)).sum+j]? = some v∧OR (cxOf E w0 σ w β) z v:=fun j z hz=>by
      have hj:j < szOf E.ty u:=by rw[← hc.len];exact (List.getElem?_eq_some_iff.1 hz).1
      have:=leavesL_field fs ts q2 (fun i x u hx hu=>(q4 i x u hx hu).len) f y' u hy' hu j hj;obtain⟨v,r1,r2⟩:=e3.get (j:=((ts.take f).map (szOf E.ty)).sum+j) (x:=z) (by simp only[leaves];rw[this];exact hz);exact⟨v,by simpa using r1,r2⟩
     have hlf:=hc.isLeaf_iff hDu;have hrun:(Instr.field t (a.eval y) f).run P w=(part u vs ((ts.take f).map (szOf E.ty)).sum).run P w:=by
      unfold Instr.field;simp only[Sem.run_bind,run_underlying k1,Result.andThen_ok,hf,e1,asAgg,Sem.run_pure,← g1,g2]
     generalize ((ts.take f).map (szOf E.ty)).sum=F at hcells hrun;by_cases hl:leafV y'=true
     ·obtain⟨v,r1,r2⟩:=hcells 0 y' (by rw[leaves_leaf hl];rfl);refine Post.same h (v:=v) ?_ (VR_one ((VR1_leaf hl).2 r2));rw[hexec];refine run_v ?_;rw[hrun];unfold part;rw[Sem.run_bind,run_isAgg_ty hT.ok hDu];simp only[Result.andThen_ok,hlf,hl,Bool.not_true,Bool.false_eq_true,if_false];rw[Nat.add_zero] at r1;rw[r1];rfl
     ·have hl':leafV y'=false:=by simpa using hl
      refine Post.same h (v:= .agg (vs.extract F (F+szOf E.ty u))) ?_ ?_
      ·rw[hexec];refine run_v ?_;rw[hrun];unfold part;rw[Sem.run_bind,run_isAgg_ty hT.ok hDu];simp only[Result.andThen_ok,hlf,hl',Bool.not_false,if_true,Sem.run_bind,run_sizeOf_ty hT.ok hDu,Sem.run_pure]
      ·refine VR1.vr (AR.vr1 (t:=u) hc ?_);have hF:F2 (OR (cxOf E w0 σ w β)) (leaves y') (vs.extract F (F+szOf E.ty u)).toList:=by
        have hsz:F+szOf E.ty u≤vs.size:=by
         rcases Nat.lt_or_ge vs.size (F+szOf E.ty u) with hlt | hge
         ·have hpos:0 < szOf E.ty u:=by have:=hT.pos u Du hDu;simpa[szOf,hDu] using this
          obtain⟨v,r1,_⟩:=hcells (szOf E.ty u - 1) ((leaves y')[szOf E.ty u - 1]'(by rw[hc.len];omega)) (by simp);have:=(Array.getElem?_eq_some_iff.1 r1).1;omega
         ·exact hge
        refine⟨by simp[hc.len];omega,fun i z v hz hv=>?_⟩;obtain⟨v',r1,r2⟩:=hcells i z hz;have hi2:i < szOf E.ty u:=by rw[← hc.len];exact (List.getElem?_eq_some_iff.1 hz).1
        have:(vs.extract F (F+szOf E.ty u))[i]? = some v:=by rw[← Array.getElem?_toList];exact hv
        rw[Array.getElem?_extract] at this;rw[if_pos (by omega),r1] at this;injection this with this;subst this;exact r2
       cases y' with
       | st _ _=>exact⟨_,rfl,hF⟩
       | ar _ _=>exact⟨_,rfl,hF⟩
       | tup _=>exact absurd hc Conf.notTup
       | _=>simp[leafV] at hl
  ·cases h2
 ·cases h2
theorem ok_nilCheck (h:Sim E w0 σ a w β) (hG:GlobOk E w0) {y:Operand} (ho:o.op = .nilCheck y) (hr:ares E d σ (.nilCheck y)=some (x,ob)) :
 Post E w0 σ a ob x ((execOp a.eval o).run P w):=by
 simp only[ares] at hr;obtain⟨q,h1,h2⟩:=obind_eq hr;have hq:=val_sound h hG h1;split at h2
 ·obtain⟨k,dd,e1,_,_⟩:=VR.ptr_inv hq;injection h2 with h2;injection h2 with h2 h3;subst h2;subst h3
  exact Post.same h (v:=a.eval y) (by simp[execOp,ho,e1]) hq
 ·obtain⟨k,dd,e1,_⟩:=VR.ro_inv hq;injection h2 with h2;injection h2 with h2 h3;subst h2;subst h3
  exact Post.same h (v:=a.eval y) (by simp[execOp,ho,e1]) hq
 ·cases h2
theorem ok_extract (h:Sim E w0 σ a w β) (hG:GlobOk E w0) {y:Operand} {i:Nat} (ho:o.op = .extract y i) (hr:ares E d σ (.extract y i)=some (x,ob)) :
 Post E w0 σ a ob x ((execOp a.eval o).run P w):=by
 simp only[ares] at hr;obtain⟨q,h1,h2⟩:=obind_eq hr;have hq:=val_sound h hG h1;split at h2
 ·rename_i vs;split at h2
  ·rename_i v hv;injection h2 with h2;injection h2 with h2 h3;subst h2;subst h3
   obtain⟨us,e1,hF⟩:=hq;obtain⟨u,e2,e3⟩:=hF.get hv;refine Post.same h (v:=u) ?_ (VR_one e3);have e2':us[i]? = some u:=by simpa using e2
   simp[execOp,ho,e1,Instr.extract,e2']
  ·cases h2
 ·cases h2
theorem ok_unOp (h:Sim E w0 σ a w β) (hG:GlobOk E w0) {op:UnOp} {t:TypeId} {y:Operand} (ho:o.op = .unOp op t y) (hr:ares E d σ (.unOp op t y)=some (x,ob)) :
 Post E w0 σ a ob x ((execOp a.eval o).run P w):=by
 simp only[ares] at hr;obtain⟨q,h1,h2⟩:=obind_eq hr;obtain⟨v,h3,h4⟩:=obind_eq h2;injection h4 with h4;injection h4 with h4 h5;subst h4;subst h5
 have hq:=val_sound h hG h1;unfold una at h3;split at h3
 ·rename_i b;have e1:=VR.bool_inv hq;split at h3
  ·injection h3 with h3;subst h3
   exact Post.same h (v:= .bool (!b)) (by simp[execOp,ho,e1,Op.unary]) (.cl (.bool _))
  ·cases h3
 ·rename_i k n;have e1:=VR.int_inv hq;split at h3
  ·injection h3 with h3;subst h3
   exact Post.same h (v:= .int k (k.wrap (-n))) (by simp[execOp,ho,e1,Op.unary,Op.intArith]) (.cl (.int _ _))
  ·injection h3 with h3;subst h3
   exact Post.same h (v:= .int k (bits2 .xor k (if k.signed then -1 else k.max) n)) (by simp[execOp,ho,e1,Op.unary,Op.intBits,bits2]) (.cl (.int _ _))
  ·cases h3
 ·cases h3
theorem equalIn_bool {t:TypeId} (hk:P.underlying t=some .bool) (d:Nat) (m n:Bool) (w:World):(Op.equalIn (d+1) t (.bool m) (.bool n)).run P w = .ok (m==n) w:=by
 simp only[Op.equalIn,Sem.run_bind,run_underlying hk,Result.andThen_ok,Sem.run_pure]
theorem equalIn_sl_nil {t e:TypeId} (hk:P.underlying t=some (.slice e)) (d:Nat) (w:World):(Op.equalIn (d+1) t (.slice none 0 0) (.slice none 0 0)).run P w = .ok true w:=by
 simp only[Op.equalIn,Sem.run_bind,run_underlying hk,Result.andThen_ok,Sem.run_pure];rfl
theorem equalIn_sl_some {t e:TypeId} (hk:P.underlying t=some (.slice e)) (d:Nat) (a:Addr) (n c:Nat) (w:World):(Op.equalIn (d+1) t (.slice (some a) n c) (.slice none 0 0)).run P w = .ok false w:=by
 simp only[Op.equalIn,Sem.run_bind,run_underlying hk,Result.andThen_ok,Sem.run_pure]
theorem eq_leaf (hT:TyOk P E.ty) {c:Cx} {u:TypeId} {x y:AV} {v v':Value} {b:Bool} (h:eqL E.ty u x y=some b) (hx:OR c x v) (hy:OR c y v') (d:Nat) (w:World) :
 (Op.equalIn (d+1) u v v').run P w = .ok b w∧∃ D,E.ty u=some D∧isLeaf D.k=true:=by
 unfold eqL at h;split at h
 ·rename_i k a k' b';split at h
  ·rename_i kk s bb z hD;split at h
   ·rename_i hk;subst hk;injection h with h;subst h
    have e1:=VR.int_inv (c:=c) hx;have e2:=VR.int_inv (c:=c) hy;subst e1;subst e2;have hkk:=(hT u _ hD).kind;simp only[kindOk] at hkk;exact⟨run_equalIn_int w d u k kk a b' hkk,_,hD,rfl⟩
   ·cases h
  ·cases h
 ·rename_i a b';split at h
  ·rename_i hb;injection h with h;subst h
   have e1:=VR.bool_inv (c:=c) hx;have e2:=VR.bool_inv (c:=c) hy;subst e1;subst e2;unfold isBool at hb;split at hb
   ·rename_i s bb z hD;have hkk:=(hT u _ hD).kind;simp only[kindOk] at hkk;exact⟨run_equalIn_bool' w d u a b' hkk,_,hD,rfl⟩
   ·cases hb
  ·cases h
 ·rename_i a b';split at h
  ·rename_i s bb z hD;injection h with h;subst h
   have e1:=VR.str_inv (c:=c) hx;have e2:=VR.str_inv (c:=c) hy;subst e1;subst e2;have hkk:=(hT u _ hD).kind;simp only[kindOk] at hkk;exact⟨run_equalIn_string w d u a b' hkk,_,hD,rfl⟩
  ·cases h
 ·cases h
theorem eq_fields (hT:TyOk P E.ty) {c:Cx} (d:Nat) (w:World) (xs ys:Array Value):∀ (Fs:List Field) (ts:List TypeId) (fs gs:List AV) (i:Nat) (b:Bool),Fs.length=ts.length→
 (∀ (j:Nat) (f:Field),Fs[j]? = some f→ts[j]? = some f.type∧f.offset=i+j∧f.name ≠ "_")→
 (∀ (j:Nat) (x:AV),fs[j]? = some x→∃ v,xs[i+j]? = some v∧OR c x v)→(∀ (j:Nat) (x:AV),gs[j]? = some x→∃ v,ys[i+j]? = some v∧OR c x v)→
 eqFs E.ty ts fs gs=some b→(Op.eqFields (d+1) xs ys Fs).run P w = .ok b w
 | [],ts,fs,gs,i,b,hl,hf,hx,hy,h=>by
   cases ts with
   | nil=>cases fs <;> cases gs <;> simp[eqFs] at h;subst h;rfl
   | cons=>simp at hl
 | f::Fs,[],fs,gs,i,b,hl,hf,hx,hy,h=>by simp at hl
 | f::Fs,u::ts,fs,gs,i,b,hl,hf,hx,hy,h=>by
   cases fs with
   | nil=>simp[eqFs] at h
   | cons x r=>
     cases gs with
     | nil=>simp[eqFs] at h
     | cons y s=>
       simp only[eqFs] at h;obtain⟨b1,h1,h2⟩:=obind_eq h;obtain⟨b2,h3,h4⟩:=obind_eq h2;injection h4 with h4;subst h4
       obtain⟨hu,ho,hn⟩:=hf 0 f rfl;simp at hu;subst hu;obtain⟨v,v1,v2⟩:=hx 0 x rfl;obtain⟨v',v3,v4⟩:=hy 0 y rfl;obtain⟨q1,D,q2,q3⟩:=eq_leaf hT h1 v2 v4 d w;have pt:∀ (zs:Array Value) (z:Value),zs[i+0]? = some z→(part f.type zs f.offset).run P w = .ok z w:=fun zs z hz=>by
        unfold part;simp only[Sem.run_bind,run_isAgg_ty hT q2,Result.andThen_ok,q3,Bool.not_true,Bool.false_eq_true,if_false];rw[ho,hz];rfl
       have ih:=eq_fields hT d w xs ys Fs ts r s (i+1) b2 (by simpa using hl) (fun j f' hf'=>by
        have:=hf (j+1) f' (by simpa using hf');exact⟨by simpa using this.1,by rw[this.2.1];omega,this.2.2⟩)
        (fun j z hz=>by
          obtain⟨v,a1,a2⟩:=hx (j+1) z (by simpa using hz);exact⟨v,by rw[← a1];congr 1;omega,a2⟩)
        (fun j z hz=>by
          obtain⟨v,a1,a2⟩:=hy (j+1) z (by simpa using hz);exact⟨v,by rw[← a1];congr 1;omega,a2⟩) h3
       simp only[Op.eqFields];rw[if_pos hn];simp only[Sem.run_bind,pt xs v v1,pt ys v' v3,Result.andThen_ok,q1];cases b1
       ·simp
       ·simp[ih]
theorem ok_binOp (hT:Tabs P E.ty) (h:Sim E w0 σ a w β) (hG:GlobOk E w0) {op:BinOp} {t u:TypeId} {y z:Operand} (ho:o.op = .binOp op t y z u) (hr:ares E d σ (.binOp op t y z u)=some (x,ob)) :
 Post E w0 σ a ob x ((execOp a.eval o).run P w):=by
 simp only[ares] at hr;obtain⟨p,h1,h2⟩:=obind_eq hr;obtain⟨q,h3,h4⟩:=obind_eq h2;obtain⟨v,h5,h6⟩:=obind_eq h4;injection h6 with h6;injection h6 with h6 h7;subst h6;subst h7
 have hp:=val_sound h hG h1;have hq:=val_sound h hG h3;have hexec:(∀ w,(eqGuard op t y z (a.eval y) (a.eval z)).run P w = .ok () w)→(execOp a.eval o).run P w=((do pure (Next.value (← binOp op t (a.eval y) (a.eval z)))):Sem Next).run P w:=fun hguard=>by
  simp only[execOp,ho,bind_assoc];rw[Sem.run_bind,hguard];rfl
 unfold bin at h5;split at h5
 ·rename_i k m k' n;have e1:=VR.int_inv hp;have e2:=VR.int_inv hq;have hguard:∀ w,(eqGuard op t y z (a.eval y) (a.eval z)).run P w = .ok () w:=fun w=>by
   rw[e1,e2];cases op <;> rfl
  rw[hexec hguard,e1,e2];split at h5
  ·split at h5
   ·cases h5
   ·rename_i hneg;injection h5 with h5;subst h5
    exact Post.same h (v:= .int k (shl2 k m n)) (run_v (by simp[binOp,Op.shift,hneg,shl2])) (.cl (.int _ _))
  ·split at h5
   ·cases h5
   ·rename_i hneg;injection h5 with h5;subst h5
    exact Post.same h (v:= .int k (shr2 k m n)) (run_v (by simp[binOp,Op.shift,hneg,shr2])) (.cl (.int _ _))
  ·rename_i n1 n2;split at h5
   ·rename_i hk;subst hk;unfold b2 at h5;split at h5
    case h_4=>
     split at h5
     ·cases h5
     ·rename_i hz;injection h5 with h5;subst h5
      exact Post.same h (v:= .int k (k.wrap (m.tdiv n))) (run_v (by simp[binOp,Op.intDiv,hz])) (.cl (.int _ _))
    case h_5=>
     split at h5
     ·cases h5
     ·rename_i hz;injection h5 with h5;subst h5
      exact Post.same h (v:= .int k (m.tmod n)) (run_v (by simp[binOp,Op.intDiv,hz])) (.cl (.int _ _))
    all_goals first | (injection h5 with h5;subst h5) | cases h5
    ·exact Post.same h (v:= .int k (k.wrap (m+n))) (run_v (by simp[binOp,Op.intArith])) (.cl (.int _ _))
    ·exact Post.same h (v:= .int k (k.wrap (m - n))) (run_v (by simp[binOp,Op.intArith])) (.cl (.int _ _))
    ·exact Post.same h (v:= .int k (k.wrap (m * n))) (run_v (by simp[binOp,Op.intArith])) (.cl (.int _ _))
    ·exact Post.same h (v:= .int k (bits2 .and k m n)) (run_v (by simp[binOp,Op.intBits,bits2])) (.cl (.int _ _))
    ·exact Post.same h (v:= .int k (bits2 .or k m n)) (run_v (by simp[binOp,Op.intBits,bits2])) (.cl (.int _ _))
    ·exact Post.same h (v:= .int k (bits2 .xor k m n)) (run_v (by simp[binOp,Op.intBits,bits2])) (.cl (.int _ _))
    ·exact Post.same h (v:= .int k (bits2 .andNot k m n)) (run_v (by simp[binOp,Op.intBits,bits2])) (.cl (.int _ _))
    ·exact Post.same h (v:= .bool (m==n)) (run_v (by simp[binOp,Op.intCmp])) (.cl (.bool _))
    ·exact Post.same h (v:= .bool (!(m==n))) (run_v (by simp[binOp,Op.intCmp,bne])) (.cl (.bool _))
    ·exact Post.same h (v:= .bool (decide (m < n))) (run_v (by simp[binOp,Op.intCmp])) (.cl (.bool _))
    ·exact Post.same h (v:= .bool (decide (m≤n))) (run_v (by simp[binOp,Op.intCmp])) (.cl (.bool _))
    ·exact Post.same h (v:= .bool (decide (n < m))) (run_v (by simp[binOp,Op.intCmp])) (.cl (.bool _))
    ·exact Post.same h (v:= .bool (decide (n≤m))) (run_v (by simp[binOp,Op.intCmp])) (.cl (.bool _))
   ·cases h5
 ·rename_i m n;have e1:=VR.bool_inv hp;have e2:=VR.bool_inv hq;have hguard:∀ w,(eqGuard op t y z (a.eval y) (a.eval z)).run P w = .ok () w:=fun w=>by
   rw[e1,e2];cases op <;> rfl
  rw[hexec hguard,e1,e2];split at h5
  ·rename_i hb;unfold isBool at hb;split at hb
   ·rename_i s b zz hD;have hk:=(hT.ok t _ hD).kind;simp only[kindOk] at hk;have heq:(Op.equal t (.bool m) (.bool n)).run P w = .ok (m==n) w:=by
     exact equalIn_bool hk 9999 m n w
    split at h5
    ·injection h5 with h5;subst h5
     exact Post.same h (v:= .bool (m==n)) (run_v (by simp only[binOp,Sem.run_bind,heq,Result.andThen_ok,Sem.run_pure])) (.cl (.bool _))
    ·injection h5 with h5;subst h5
     exact Post.same h (v:= .bool (!(m==n))) (run_v (by simp only[binOp,Sem.run_bind,heq,Result.andThen_ok,Sem.run_pure])) (.cl (.bool _))
    ·cases h5
   ·cases hb
  ·cases h5
 ·rename_i m n;have e1:=VR.str_inv hp;have e2:=VR.str_inv hq;have hguard:∀ w,(eqGuard op t y z (a.eval y) (a.eval z)).run P w = .ok () w:=fun w=>by
   rw[e1,e2];cases op <;> rfl
  rw[hexec hguard,e1,e2];split at h5
  ·injection h5 with h5;subst h5
   exact Post.same h (v:= .bool (m.toList==n.toList)) (run_v (by simp[binOp,Op.stringOp])) (.cl (.bool _))
  ·injection h5 with h5;subst h5
   exact Post.same h (v:= .bool (!(m.toList==n.toList))) (run_v (by simp[binOp,Op.stringOp])) (.cl (.bool _))
  ·split at h5
   ·rename_i hs;injection h5 with h5;subst h5
    refine Post.same h (v:= .string (m++n)) (run_v ?_) (.cl (.str _));simp only[binOp,Op.stringOp];have hm:IntKind.i64.max=9223372036854775807:=by decide
    rw[if_neg (by rw[hm];omega)];rfl
   ·cases h5
  ·cases h5
 ·rename_i u fl es fr tt;have e2:a.eval z = .slice none 0 0:=by
   rcases VR.sl_inv hq with ⟨_,_,e⟩ | ⟨k,off,cp,e,h1,h2,h3⟩
   ·exact e
   ·exact absurd rfl h2
  have hguard:∀ w,(eqGuard op t y z (a.eval y) (a.eval z)).run P w = .ok () w:=fun w=>by
   rw[e2];rcases VR.sl_inv hp with ⟨_,_,e⟩ | ⟨k,off,cp,e,_⟩ <;> rw[e] <;> cases op <;> rfl
  rw[hexec hguard,e2];split at h5
  ·rename_i b hfl;split at h5
   ·rename_i hsl;unfold isSlice at hsl;split at hsl
    ·rename_i e s bb zz hD;have hk:=(hT.ok t _ hD).kind;simp only[kindOk] at hk;have heq:(Op.equal t (a.eval y) (.slice none 0 0)).run P w = .ok b w:=by
      rcases VR.sl_inv hp with ⟨_,h7,e⟩ | ⟨k,off,cp,e,_,h7,_⟩
      ·rw[e];have:b=true:=by rw[hfl] at h7;cases b <;> simp_all
       subst this;exact equalIn_sl_nil hk.1 9999 w
      ·rw[e];have:b=false:=by rw[hfl] at h7;cases b <;> simp_all
       subst this;exact equalIn_sl_some hk.1 9999 _ _ _ w
     have hb1:∀ (v:Value),(∃ a n c,v = .slice a n c)→binOp .eql t v (.slice none 0 0)=(do pure (.bool (← Op.equal t v (.slice none 0 0))))∧binOp .neq t v (.slice none 0 0)=(do pure (.bool (!(← Op.equal t v (.slice none 0 0))))):=fun v hv=>by
      obtain⟨a,n,c,rfl⟩:=hv;exact⟨rfl,rfl⟩
     have hv:∃ aa n c,a.eval y = .slice aa n c:=by
      rcases VR.sl_inv hp with ⟨_,_,e⟩ | ⟨k,off,cp,e,_⟩ <;> exact⟨_,_,_,e⟩
     split at h5
     ·injection h5 with h5;subst h5
      exact Post.same h (v:= .bool b) (run_v (by rw[(hb1 _ hv).1];simp only[Sem.run_bind,heq,Result.andThen_ok,Sem.run_pure])) (.cl (.bool _))
     ·injection h5 with h5;subst h5
      exact Post.same h (v:= .bool (!b)) (run_v (by rw[(hb1 _ hv).2];simp only[Sem.run_bind,heq,Result.andThen_ok,Sem.run_pure])) (.cl (.bool _))
     ·cases h5
    ·cases hsl
   ·cases h5
  ·cases h5
 ·rename_i t1 fs t2 gs;obtain⟨b,h7,h8⟩:=obind_eq h5;unfold eqSt at h7;split at h7
  ·rename_i hc;obtain⟨c1,c2⟩:=hc;subst c1;subst c2;split at h7
   ·rename_i ts sz bb zz hD;obtain⟨xs,e1,hcx,hFx⟩:=hp;obtain⟨ys,e2,hcy,hFy⟩:=hq;have heq:=hT.eq _ ts sz bb zz hD;simp only[eqOkT,Bool.and_eq_true,Bool.not_eq_true',List.all_eq_true,bne_iff_ne] at heq;obtain⟨⟨g1,g2⟩,g3⟩:=heq;have hk:=(hT.ok _ _ hD).kind;simp only[kindOk] at hk;obtain⟨Fs,k1,k2,k3⟩:=hk;have hFs:P.fieldsOf t2=Fs:=by simp[Program.fieldsOf,k1]
    have hguard:∀ w,(eqGuard op t2 y z (a.eval y) (a.eval z)).run P w = .ok () w:=fun w=>by
     rw[e1,e2];exact run_eqGuard_agg w op t2 y z xs ys g2
    have leafs:∀ (ts:List TypeId) (fs gs:List AV) (b:Bool),eqFs E.ty ts fs gs=some b→ts.length=fs.length∧ts.length=gs.length∧(∀ x ∈ fs,leafV x=true)∧(∀ x ∈ gs,leafV x=true)∧∀ u ∈ ts,∃ D,E.ty u=some D∧isLeaf D.k=true:=by
     intro ts
     induction ts with
     | nil=>intro fs gs b h;cases fs <;> cases gs <;> simp[eqFs] at h ⊢
     | cons u ts ih=>
       intro fs gs b h;cases fs with
       | nil=>simp[eqFs] at h
       | cons x r=>
         cases gs with
         | nil=>simp[eqFs] at h
         | cons y s=>
           simp only[eqFs] at h;obtain⟨b1,q1,q2⟩:=obind_eq h;obtain⟨b2,q3,q4⟩:=obind_eq q2;obtain⟨i1,i2,i3,i4,i5⟩:=ih r s b2 q3;have hx:leafV x=true∧leafV y=true∧∃ D,E.ty u=some D∧isLeaf D.k=true:=by
            unfold eqL at q1;split at q1
            ·split at q1
             ·rename_i hD;exact⟨rfl,rfl,_,hD,rfl⟩
             ·cases q1
            ·split at q1
             ·rename_i hb;unfold isBool at hb;split at hb
              ·rename_i hD;exact⟨rfl,rfl,_,hD,rfl⟩
              ·cases hb
             ·cases q1
            ·split at q1
             ·rename_i hD;exact⟨rfl,rfl,_,hD,rfl⟩
             ·cases q1
            ·cases q1
           refine⟨by simp[i1],by simp[i2],fun z hz=>?_,fun z hz=>?_,fun v hv=>?_⟩
           ·rcases List.mem_cons.1 hz with rfl | hz
            ·exact hx.1
            ·exact i3 z hz
           ·rcases List.mem_cons.1 hz with rfl | hz
            ·exact hx.2.1
            ·exact i4 z hz
           ·rcases List.mem_cons.1 hv with rfl | hv
            ·exact hx.2.2
            ·exact i5 v hv
    obtain⟨l1,l2,l3,l4,l5⟩:=leafs ts fs gs b h7;have lv:∀ (l:List AV),(∀ x ∈ l,leafV x=true)→leavesL l=l:=fun l=>by
     induction l with
     | nil=>intro _;rfl
     | cons q r ih=>intro h;simp only[leavesL];rw[leaves_leaf (h q (by simp)),ih fun z hz=>h z (by simp[hz])];rfl
    have e3:leaves (.st t2 fs)=fs:=lv fs l3;have e4:leaves (.st t2 gs)=gs:=lv gs l4;rw[e3] at hFx;rw[e4] at hFy;have sz1:∀ u ∈ ts,szOf E.ty u=1:=fun u hu=>by
     obtain⟨D,d1,d2⟩:=l5 u hu;have hcf:=(hT.ok u D d1).conf;generalize D.zero=zz at hcf;cases hcf with
     | leaf f1 f2 f3 f4=>
       rw[d1] at f1;injection f1 with f1;subst f1
       simp[szOf,d1,f3]
     | st f1=>rw[d1] at f1;injection f1 with f1;subst f1;cases d2
     | ar f1=>rw[d1] at f1;injection f1 with f1;subst f1;cases d2
    have sum1:∀ (l:List TypeId),(∀ u ∈ l,szOf E.ty u=1)→(l.map (szOf E.ty)).sum=l.length:=fun l=>by
     induction l with
     | nil=>intro _;rfl
     | cons q r ih=>intro h;simp[h q (by simp),ih fun z hz=>h z (by simp[hz])];omega
    have get:∀ (l:List AV) (zs:Array Value),F2 (OR (cxOf E w0 σ w β)) l zs.toList→∀ (j:Nat) (x:AV),l[j]? = some x→∃ v,zs[0+j]? = some v∧OR (cxOf E w0 σ w β) x v:=fun l zs hF j x hx=>by
     have hj:j < zs.toList.length:=by rw[← hF.1];exact (List.getElem?_eq_some_iff.1 hx).1
     have hz:zs.toList[j]? = some zs.toList[j]:=List.getElem?_eq_getElem hj;exact⟨_,by rw[Nat.zero_add,← Array.getElem?_toList];exact hz,hF.2 j x _ hx hz⟩
    have hrun:=eq_fields (P:=P) hT.ok (c:=cxOf E w0 σ w β) 9998 w xs ys Fs.toList ts fs gs 0 b (by simpa using k2) (fun j f hf=>by
     obtain⟨a1,a2⟩:=k3 j f (by simpa using hf);refine⟨a1,?_,g3 f (by rw[hFs];exact List.mem_of_getElem? hf)⟩;rw[a2,sum1 _ fun u hu=>sz1 u (List.mem_of_mem_take hu),List.length_take];have:j < ts.length:=by rw[← k2];have:=(List.getElem?_eq_some_iff.1 hf).1;simpa using this
     omega) (get fs xs hFx) (get gs ys hFy) h7
    have hin:(Op.equalIn 10000 t2 (.agg xs) (.agg ys)).run P w = .ok b w:=by
     rw[run_equalIn_struct w 9999 t2 xs ys (by rw[hFs];exact k1) g1,hFs];exact hrun
    rw[hexec hguard,e1,e2];unfold eqRes at h8;split at h8
    ·injection h8 with h8;subst h8
     exact Post.same h (v:= .bool b) (run_v (by rw[run_eql_struct,hin];rfl)) (.cl (.bool _))
    ·injection h8 with h8;subst h8
     exact Post.same h (v:= .bool (!b)) (run_v (by rw[run_neq_struct,hin];rfl)) (.cl (.bool _))
    ·cases h8
   ·cases h7
  ·cases h7
 ·cases h5
end
end Go.Abs
end
section
namespace Go.Abs
open Go Go.RowKit
section
variable {P:Program} {E:Env} {w0 w:World} {σ:St} {a:Act} {β:Nat→Option Nat} {x:AV} {ob:List (Nat × Obj)} {d:Nat} {o:Oper}
theorem ok_indexAddr (hT:Tabs P E.ty) (h:Sim E w0 σ a w β) (hG:GlobOk E w0) {t:TypeId} {y z:Operand} (ho:o.op = .indexAddr t y z) (hr:ares E d σ (.indexAddr t y z)=some (x,ob)) :
 Post E w0 σ a ob x ((execOp a.eval o).run P w):=by
 simp only[ares] at hr;have hexec:(execOp a.eval o)=(do pure (Next.value (← Instr.indexAt t (a.eval y) (a.eval z)))):=by simp[execOp,ho]
 split at hr
 ·rename_i e s b zz hD;obtain⟨p,h1,h2⟩:=obind_eq hr;obtain⟨q,h3,h4⟩:=obind_eq h2;have hp:=val_sound h hG h1;have hq:=val_sound h hG h3;have hk:=(hT.ok t _ hD).kind;simp only[kindOk] at hk;obtain⟨De,hDe⟩:=hT.sl t e s b zz hD;split at h4
  ·rename_i o' u off n kk i;have e2:=VR.int_inv hq;split at h4
   ·rename_i hc;obtain⟨c1,c2,c3⟩:=hc;subst c1;injection h4 with h4;injection h4 with h4 h5;subst h4;subst h5
    rcases VR.own_inv hp with ⟨_,_,hn,_⟩ | ⟨k,cp,arr,e',g1,g2,g3,g4,g5⟩
    ·omega
    ·refine Post.same h (v:= .pointer (some ⟨k,off * szOf E.ty u+i.toNat * szOf E.ty u,none⟩)) ?_ (.ptr _ _ _ k _ g1 ?_)
     ·rw[hexec];refine run_v ?_;unfold Instr.indexAt;simp only[Sem.run_bind,e2,asIntOf,Sem.run_pure,Result.andThen_ok,run_underlying hk.1,g5];rw[if_pos ⟨c2,c3⟩];simp only[Sem.run_bind,run_sizeOf_ty hT.ok hDe,Result.andThen_ok,Sem.run_pure,add_addr];rfl
     ·show offRT E.ty (rtOf E.ty u) [off+i.toNat]=some (off * szOf E.ty u+i.toNat * szOf E.ty u);unfold rtOf;split <;> (simp only[offRT,offTy];rw[Nat.add_mul];rfl)
   ·cases h4
  ·rename_i u fl es kk i;have e2:=VR.int_inv hq;split at h4
   ·rename_i hc;obtain⟨c1,c2⟩:=hc;subst c1;obtain⟨y',h5,h6⟩:=obind_eq h4;injection h6 with h6;injection h6 with h6 h7;subst h6;subst h7
    have hi:i.toNat < es.length:=(List.getElem?_eq_some_iff.1 h5).1;have hne:es ≠ []:=by rintro rfl;simp at hi
    rcases VR.sl_inv hp with ⟨he,_,_⟩ | ⟨k,off,cp,g1,g2,g3,g4,g5,g6⟩
    ·exact absurd he hne
    ·have hc:Conf E.ty u y':=g5 y' (List.mem_of_getElem? h5);refine Post.same h (v:= .pointer (some ⟨k,off+i.toNat * szOf E.ty u,none⟩)) ?_ (VR.ro_mk (g4 hne).1 (g4 hne).2 hc fun j zz hz=>?_)
     ·rw[hexec];refine run_v ?_;unfold Instr.indexAt;simp only[Sem.run_bind,e2,asIntOf,Sem.run_pure,Result.andThen_ok,run_underlying hk.1,g1];rw[if_pos ⟨c2,by omega⟩];simp only[Sem.run_bind,run_sizeOf_ty hT.ok hDe,Result.andThen_ok,Sem.run_pure,add_addr]
     ·have hj:j < szOf E.ty u:=by rw[← hc.len];exact (List.getElem?_eq_some_iff.1 hz).1
      have:=leavesL_at (szOf E.ty u) es (fun q hq=>(g5 q hq).len) i.toNat y' h5 j hj;obtain⟨v,r1,r2⟩:=g6 (i.toNat * szOf E.ty u+j) zz (by rw[this];exact hz);exact⟨v,by rw[← r1];congr 2;omega,r2⟩
   ·cases h4
  ·cases h4
 ·rename_i n e s b zz hD;obtain⟨p,h1,h2⟩:=obind_eq hr;obtain⟨q,h3,h4⟩:=obind_eq h2;have hp:=val_sound h hG h1;have hq:=val_sound h hG h3;have hk:=(hT.ok t _ hD).kind;simp only[kindOk] at hk;obtain⟨De,hDe⟩:=hT.ar t n e s b zz hD;split at h4
  ·rename_i o' r p' kk i;have e2:=VR.int_inv hq;split at h4
   ·rename_i hc;obtain⟨c1,c2,c3⟩:=hc;injection h4 with h4;injection h4 with h4 h5;subst h4;subst h5
    obtain⟨k,dd,e1,g2,g3⟩:=VR.ptr_inv hp;have hin:i.toNat < n:=by omega
    refine Post.same h (v:= .pointer (some ⟨k,dd+i.toNat * szOf E.ty e,none⟩)) ?_
     (.ptr _ _ _ k _ g2 (offRT_append c1 g3 (by simp only[offTy,cxOf,hD];rw[if_pos hin];rfl)))
    rw[hexec];refine run_v ?_;unfold Instr.indexAt;simp only[Sem.run_bind,e2,asIntOf,Sem.run_pure,Result.andThen_ok,run_underlying hk,e1,Instr.sureAddr];rw[if_pos ⟨c2,c3⟩];simp only[Sem.run_bind,run_sizeOf_ty hT.ok hDe,Result.andThen_ok,Sem.run_pure,add_addr]
   ·cases h4
  ·rename_i fr u0 u es kk i;have e2:=VR.int_inv hq;split at h4
   ·rename_i hc;obtain⟨c1,c2⟩:=hc;subst c1;obtain⟨y',h5,h6⟩:=obind_eq h4;injection h6 with h6;injection h6 with h6 h7;subst h6;subst h7
    obtain⟨k,dd,e1,g2,g3,g4,g5⟩:=VR.ro_inv hp;have hu:u0=u:=by
     cases g4 with
     | leaf _ _ _ q4=>cases q4
     | ar _ _ _ _ _=>rfl
    subst hu;have g4':Conf E.ty u0 (.ar u0 es):=g4;obtain⟨_,q2,q3,q4,q5⟩:=g4'.ar_inv hD;have hi:i.toNat < es.length:=(List.getElem?_eq_some_iff.1 h5).1;have hc:Conf E.ty e y':=q4 y' (List.mem_of_getElem? h5);refine Post.same h (v:= .pointer (some ⟨k,dd+i.toNat * szOf E.ty e,none⟩)) ?_ (VR.ro_mk g2 g3 hc fun j zz hz=>?_)
    ·rw[hexec];refine run_v ?_;unfold Instr.indexAt;simp only[Sem.run_bind,e2,asIntOf,Sem.run_pure,Result.andThen_ok,run_underlying hk,e1,Instr.sureAddr];rw[if_pos ⟨c2,by omega⟩];simp only[Sem.run_bind,run_sizeOf_ty hT.ok hDe,Result.andThen_ok,Sem.run_pure,add_addr]
    ·have hj:j < szOf E.ty e:=by rw[← hc.len];exact (List.getElem?_eq_some_iff.1 hz).1
     have:=leavesL_at (szOf E.ty e) es (fun q hq=>(q4 q hq).len) i.toNat y' h5 j hj;obtain⟨v,r1,r2⟩:=g5 (i.toNat * szOf E.ty e+j) zz (by simp only[leaves];rw[this];exact hz);exact⟨v,by rw[← r1];congr 2;omega,r2⟩
   ·cases h4
  ·cases h4
 ·cases hr
theorem vals_sound (h:Sim E w0 σ a w β) (hG:GlobOk E w0):∀ (xs:List Operand) (l:List AV),vals E.G σ xs=some l→
 F2 (VR (cxOf E w0 σ w β)) l (xs.map a.eval)
 | [],l,hl=>by simp[vals] at hl;subst hl;exact⟨rfl,fun i x v hx=>by simp at hx⟩
 | y::r,l,hl=>by
   simp only[vals] at hl;obtain⟨v,h1,h2⟩:=obind_eq hl;obtain⟨l',h3,h4⟩:=obind_eq h2;injection h4 with h4;subst h4
   obtain⟨e1,e2⟩:=vals_sound h hG r l' h3;refine⟨by simp[e1],fun j q p hq hp=>?_⟩;cases j with
   | zero=>simp at hq hp;subst hq;subst hp;exact val_sound h hG h1
   | succ j=>exact e2 j q p (by simpa using hq) (by simpa using hp)
theorem ok_convert (hT:Tabs P E.ty) (h:Sim E w0 σ a w β) (hG:GlobOk E w0) {s t:TypeId} {y:Operand} (ho:o.op = .convert s t y) (hr:ares E d σ (.convert s t y)=some (x,ob)) :
 Post E w0 σ a ob x ((execOp a.eval o).run P w):=by
 simp only[ares] at hr;obtain⟨q,h1,h2⟩:=obind_eq hr;have hq:=val_sound h hG h1;have hexec:(execOp a.eval o)=(do pure (Next.value (← convert s t (a.eval y)))):=by simp[execOp,ho]
 split at h2
 ·rename_i kk n;have e1:=VR.int_inv hq;split at h2
  ·rename_i k sz b zz hD;split at h2
   ·rename_i S hS;injection h2 with h2;injection h2 with h2 h3;subst h2;subst h3
    have hk:=(hT.ok t _ hD).kind;simp only[kindOk] at hk;have hu:∃ ds,P.underlying s=some ds:=by
     have hks:=(hT.ok s S hS).kind;unfold kindOk at hks;split at hks <;> first | exact⟨_,hks⟩ | exact⟨_,hks.1⟩ | (obtain⟨_,hks,_⟩:=hks;exact⟨_,hks⟩) | (obtain⟨_,_,_,hks⟩:=hks;exact⟨_,hks⟩)
    obtain⟨ds,hds⟩:=hu;refine Post.same h (v:= .int k (k.wrap n)) ?_ (.cl (.int _ _));rw[hexec];refine run_v ?_;unfold convert;simp only[Sem.run_bind,run_underlying hds,run_underlying hk,Result.andThen_ok,e1];rfl
   ·cases h2
  ·cases h2
 ·cases h2
theorem ok_makeSlice (hT:Tabs P E.ty) (h:Sim E w0 σ a w β) (hG:GlobOk E w0) {t:TypeId} {y z:Operand} (ho:o.op = .makeSlice t y z) (hr:ares E d σ (.makeSlice t y z)=some (x,ob)) :
 Post E w0 σ a ob x ((execOp a.eval o).run P w):=by
 simp only[ares] at hr;have hexec:(execOp a.eval o)=(do pure (Next.value (← Instr.makeSlice t (a.eval y) (a.eval z)))):=by simp[execOp,ho]
 split at hr
 ·rename_i e s b zz hD;split at hr
  ·rename_i T hDe;obtain⟨p,h1,h2⟩:=obind_eq hr;obtain⟨q,h3,h4⟩:=obind_eq h2;have hp:=val_sound h hG h1;have hq:=val_sound h hG h3;split at h4
   ·rename_i n m;have e1:=VR.int_inv hp;have e2:=VR.int_inv hq;split at h4
    ·rename_i hc;obtain⟨c1,c2,c3,c4,c5,c6⟩:=hc;subst c1;injection h4 with h4;injection h4 with h4 h5;subst h4;subst h5
     have hk:=(hT.ok t _ hD).kind;simp only[kindOk] at hk;obtain⟨i,zv,i1,i2,i3,i4,i5,i6⟩:=(hT.ok e T hDe).info;obtain⟨hcl,hfr,hm⟩:=(hT.ok e T hDe).flatz;have hsz:szOf E.ty e=T.size:=by simp[szOf,hDe]
     have hzc:zv.cells.size=T.size:=by
      have:=i5.1;rw[(hT.ok e T hDe).conf.len,hsz] at this;simpa using this.symm
     have hle:n≤140737488355328:=by
      have:n * 1≤n * (T.bytes:Int):=Int.mul_le_mul_of_nonneg_left (by omega) c2;omega
     have hwrap:IntKind.i64.wrap n=n:=by simp[IntKind.wrap,IntKind.bits,IntKind.signed];omega
     let cells:Array Value:=(Array.range (n.toNat * T.size)).map fun j=>zv.cells[j % zv.cells.size]!
     have hcells:∀ (j:Nat) (q:AV),(leavesL (List.replicate n.toNat T.zero))[j]? = some q→∃ u,cells[j]? = some u∧∀ (w:World) (okb:Nat→Prop),LR E.ty w okb q u:=fun j q hq=>by
      have hlen:(leavesL (List.replicate n.toNat T.zero)).length=n.toNat * T.size:=by
       rw[leavesL_len_const T.size _ (fun x hx=>by rw[List.eq_of_mem_replicate hx,(hT.ok e T hDe).conf.len,hsz])];simp
      have hj:j < n.toNat * T.size:=by rw[← hlen];exact (List.getElem?_eq_some_iff.1 hq).1
      have hdiv:j / T.size < n.toNat:=(Nat.div_lt_iff_lt_mul c4).2 hj;have hmod:j % T.size < T.size:=Nat.mod_lt _ c4;have hat:=leavesL_at T.size (List.replicate n.toNat T.zero) (fun x hx=>by rw[List.eq_of_mem_replicate hx,(hT.ok e T hDe).conf.len,hsz]) (j / T.size) T.zero
       (by rw[List.getElem?_replicate,if_pos hdiv]) (j % T.size) hmod
      rw[Nat.div_add_mod' j T.size,hq] at hat;obtain⟨u,r1,r2⟩:=i5.get hat.symm;refine⟨u,?_,r2⟩;have hc:cells[j]? = some (zv.cells[j % zv.cells.size]!):=by simp[cells,hj]
      rw[hc,hzc];have r1':zv.cells[j % T.size]? = some u:=by simpa using r1
      simp[getElem!_def,r1']
     obtain⟨hS,_⟩:=h.new c6 (b:=⟨.row e,true,List.replicate n.toNat T.zero⟩) (arr:=cells) (e:=e)
      ⟨fun x hx=>by rw[List.eq_of_mem_replicate hx];exact (hT.ok e T hDe).conf,by rw[hsz];exact c4⟩ rfl
      (fun j q hq=>by obtain⟨u,r1,r2⟩:=hcells j q hq;exact⟨u,r1,r2 _ _⟩)
     have hcs:cells.size=n.toNat * T.size:=by simp[cells]
     refine⟨.slice (some ⟨w.heap.size,0,none⟩) n.toNat n.toNat,_,_,.inl ?_,hS,?_⟩
     ·rw[hexec];refine run_v ?_;unfold Instr.makeSlice;simp only[Sem.run_bind,run_underlying hk.1,Result.andThen_ok,e1,e2,asInt,asIntOf,Sem.run_pure,hwrap,typeInfo,run_program,i1];have hb:(i.bytes:Int) * n≤140737488355328:=by rw[i3,Int.mul_comm];exact c3
      have hno:(decide (n < 0) || decide ((i.bytes:Int) * n > 2 ^ 48))=false:=by
       simp only[Bool.or_eq_false_iff,decide_eq_false_iff_not];exact⟨by omega,by omega⟩
      simp only[hno,Bool.false_or];rw[if_neg (by simp;omega)];simp only[run_askRoom,Sem.run_bind,Result.andThen_ok,run_sizeOf_ty hT.ok hDe,hsz];by_cases hn0:n.toNat * T.size=0
      ·rw[if_pos hn0];simp only[Sem.run_pure,Result.andThen_ok,newRow,Sem.run_bind,run_newObj];have:cells = #[]:=Array.eq_empty_of_size_eq_zero (by rw[hcs,hn0]);rw[this,hn0];have e0:(Array.map (fun x=>(#[]:Array Value)[x % (#[]:Array Value).size]!) (Array.range 0)) = #[]:=by simp
       rw[e0];rfl
      ·rw[if_neg hn0];simp only[zeroValue,typeInfo,Sem.run_bind,run_program,Result.andThen_ok,i1,i4,Sem.run_pure,newRow,run_newObj];rfl
     ·have:=OR.own (c:=cxOf E w0 ⟨σ.tm,aput d ⟨.row e,true,List.replicate n.toNat T.zero⟩ σ.ob⟩ (w.alloc (.cells cells e)) (fun o=>if o=d then some w.heap.size else β o))
       d e 0 n.toNat w.heap.size n.toNat cells e (by simp[cxOf]) (by show (w.heap.push _)[w.heap.size]? = _;simp) (by simp[cxOf,hsz,hcs]) (Nat.le_refl _)
      rw[Nat.zero_mul] at this;exact this
    ·cases h4
   ·cases h4
  ·cases hr
 ·cases hr
end
end Go.Abs
end
section
namespace Go.Abs
open Go Go.RowKit
def CR1 (ty:Tys) (w:World) (okb:Bool→Nat→Prop):AV→Value→Prop
 | .st t fs,v=>∃ vs,v = .agg vs∧Conf ty t (.st t fs)∧F2 (fun x u=>LR ty w (okb (frOf x)) x u) (leaves (.st t fs)) vs.toList
 | .ar t es,v=>∃ vs,v = .agg vs∧Conf ty t (.ar t es)∧F2 (fun x u=>LR ty w (okb (frOf x)) x u) (leaves (.ar t es)) vs.toList
 | .tup _,_=>False
 | x,v=>LR ty w (okb (frOf x)) x v
def CR (ty:Tys) (w:World) (okb:Bool→Nat→Prop):AV→Value→Prop
 | .tup xs,v=>∃ vs,v = .tuple vs∧F2 (CR1 ty w okb) xs vs.toList
 | x,v=>CR1 ty w okb x v
theorem CR_one {ty:Tys} {w:World} {okb:Bool→Nat→Prop} {x:AV} {v:Value} (h:CR1 ty w okb x v):CR ty w okb x v:=by cases x <;> first | exact h | exact h.elim
theorem CR1_leaf {ty:Tys} {w:World} {okb:Bool→Nat→Prop} {x:AV} {v:Value} (h:leafV x=true):CR1 ty w okb x v↔LR ty w (okb (frOf x)) x v:=by cases x <;> simp_all [CR1,leafV]
def backOk (base:Nat) (okA:Nat→Prop) (fr:Bool) (b:Nat):Prop:=(fr=true→base≤b)∧(base≤b∨okA b)
def Entr (P:Program) (f:FuncId):Prop:=∃ fn,P.funcs[f]? = some fn∧fn.body.isSome=true∧fn.name ≠ "runtime.NumGoroutine"
def Ret (P:Program) (ty:Tys) (G:Globs) (f:FuncId) (args:List AV) (r:AV):Prop:=
 ∀ (okA:Nat→Prop) (w:World) (vs:List Value),F2 (CR1 ty w fun _=>okA) args vs→(∀ g t x,G g=some (t,x)→LR ty w okA (.ro false t x) (.pointer (some ⟨g,0,none⟩)))→
   Calls P f vs.toArray w fun e w'=>∃ v,e = .returned v∧Below w.heap.size w w'∧CR ty w' (backOk w.heap.size okA) r v
def mcx (ty:Tys) (lo:Option Nat) (okA lent:Nat→Prop) (n:Nat) (ob:List (Nat × Obj)) (w:World) (β:Nat→Option Nat):Cx:=
 ⟨ty,lowOf lo n,w,β,fun k=>(k < n∧¬ okA k)∨∃ o b,aget o ob=some b∧β o=some k,fun k=>n≤k∨(lent k∧¬ okA k)⟩
def Inj (ob:List (Nat × Obj)) (β:Nat→Option Nat):Prop:=∀ o o' b b' k,aget o ob=some b→aget o' ob=some b'→β o=some k→β o'=some k→o=o'
def RetM (P:Program) (ty:Tys) (G:Globs) (f:FuncId) (args:List AV) (ob:List (Nat × Obj)) (r:AV) (ob':List (Nat × Obj)):Prop:=
 ∀ (lo:Option Nat) (okA lent:Nat→Prop) (w:World) (β:Nat→Option Nat) (vs:List Value),
   (∀ o b,aget o ob=some b→ObR (mcx ty lo okA lent w.heap.size ob w β) o b)→Inj ob β→F2 (VR (mcx ty lo okA lent w.heap.size ob w β)) args vs→
   (∀ g t x,G g=some (t,x)→LR ty w okA (.ro false t x) (.pointer (some ⟨g,0,none⟩)))→
   Calls P f vs.toArray w fun e w'=>∃ v β',e = .returned v∧BelowL (fun k=>lent k∧¬ okA k) w.heap.size w w'∧
    (∀ o b,aget o ob'=some b→ObR (mcx ty lo okA lent w.heap.size ob' w' β') o b)∧Inj ob' β'∧VR (mcx ty lo okA lent w.heap.size ob' w' β') r v
structure CSound (P:Program) (E:Env):Prop where
 c:∀ f args r,E.C f args=some r→Entr P f∧Ret P E.ty E.G f args r
 m:∀ f args ob r ob',E.M f args ob=some (r,ob')→Entr P f∧RetM P E.ty E.G f args ob r ob'
theorem newRL_mem:∀ {l:List AV},newR.newRL l=true→∀ x ∈ l,newR x=true
 | [],_,x,h=>by simp at h
 | y::r,hc,x,h=>by
   simp only[newR.newRL,Bool.and_eq_true] at hc;rcases List.mem_cons.1 h with rfl | h
   ·exact hc.1
   ·exact newRL_mem hc.2 x h
theorem newR_leaf {ty:Tys} {t:TypeId} {x:AV} (hc:Conf ty t x) (hn:newR x=true):∀ y ∈ leaves x,frOf y=true:=by
 induction hc with
 | leaf _ _ _ h4=>
   rw[leaves_leaf h4];intro y hy;simp at hy;subst hy;cases y <;> first | exact hn | cases h4
 | @st t ts s b z fs h1 h2 h3 h4 ih=>
   simp only[leaves];intro y hy;obtain⟨x,h5,h6⟩:=mem_leavesL hy;obtain⟨i,hi,e⟩:=List.getElem_of_mem h5;have hx':fs[i]? = some x:=by rw[List.getElem?_eq_getElem hi,e]
   obtain⟨u,hu⟩:∃ u,ts[i]? = some u:=⟨ts[i]'(by omega),by rw[List.getElem?_eq_getElem]⟩
   exact ih i x u hx' hu (newRL_mem (by simpa[newR] using hn) x h5) y h6
 | ar h1 h2 h3 h4 h5 _=>
   simp only[leaves];intro y hy;obtain⟨q,h6,h7⟩:=mem_leavesL hy;have:=(flat_leaf _ q (Nat.lt_succ_self _) (h5 q h6) y h7).2.1;have hl:=(flat_leaf _ q (Nat.lt_succ_self _) (h5 q h6) y h7).2.2.2;cases y <;> first | rfl | exact this | cases hl
theorem CR1.vr {E:Env} {w0 w w':World} {σ:St} {a:Act} {β:Nat→Option Nat} (h:Sim E w0 σ a w β) (hb:Below w.heap.size w w') {okA:Nat→Prop} {x:AV} {v:Value}
 (hA:(∀ b,okA b→¬ (cxOf E w0 σ w β).mu b)∨newR x=true)
 (hx:CR1 E.ty w' (backOk w.heap.size okA) x v):VR1 (cxOf E w0 σ w' β) x v:=by
 have lr:∀ {y:AV} {u:Value},((∀ b,okA b→¬ (cxOf E w0 σ w β).mu b)∨frOf y=true)→LR E.ty w' (backOk w.heap.size okA (frOf y)) y u→LR E.ty w' ((cxOf E w0 σ w' β).okb (frOf y)) y u:=fun hy0 hy=>
  hy.mono fun b hge hlt=>⟨⟨fun hm=>by
   have hm':(cxOf E w0 σ w β).mu b:=hm;have new:w.heap.size≤b→False:=fun hge=>by
    rcases hm' with hm' | hm'
    ·have:=h.below.size;omega
    ·have:=(h.mut_lt hm').2;omega
   rcases hge.2 with h1 | h1
   ·exact new h1
   ·rcases hy0 with h2 | h2
    ·exact h2 b h1 hm'
    ·exact new (hge.1 h2),fun hf=>Nat.le_trans (Nat.le_trans (lowOf_le _ _) h.below.size) (hge.1 hf)⟩,hlt,rfl⟩
 cases x with
 | st t fs=>
   obtain⟨vs,e,hc,hF⟩:=hx;refine⟨vs,e,hc,hF.1,fun i x v hx hv=> .cl (lr ?_ (hF.2 i x v hx hv))⟩;exact hA.imp id fun hn=>newR_leaf hc hn x (List.mem_of_getElem? hx)
 | ar t fs=>
   obtain⟨vs,e,hc,hF⟩:=hx;refine⟨vs,e,hc,hF.1,fun i x v hx hv=> .cl (lr ?_ (hF.2 i x v hx hv))⟩;exact .inr (by
    have hn:newR (.ar t fs)=true∨newR (.ar t fs)=false:=by cases newR (.ar t fs) <;> simp
    cases hc with
    | leaf _ _ _ q4=>cases q4
    | ar h1 h2 h3 h4 h5=>
      have hm:=List.mem_of_getElem? hx;simp only[leaves] at hm;obtain⟨q,h6,h7⟩:=mem_leavesL hm;have h8:=flat_leaf _ q (Nat.lt_succ_self _) (h5 q h6) x h7;cases x <;> first | rfl | exact h8.2.1 | cases h8.2.2.2)
 | tup _=>exact hx.elim
 | _=>exact .cl (lr (hA.imp id fun hn=>hn) hx)
theorem CR.vr {E:Env} {w0 w w':World} {σ:St} {a:Act} {β:Nat→Option Nat} (h:Sim E w0 σ a w β) (hb:Below w.heap.size w w') {okA:Nat→Prop} {x:AV} {v:Value}
 (hA:(∀ b,okA b→¬ (cxOf E w0 σ w β).mu b)∨newR x=true)
 (hx:CR E.ty w' (backOk w.heap.size okA) x v):VR (cxOf E w0 σ w' β) x v:=by
 cases x with
 | tup xs=>obtain⟨vs,e,hF⟩:=hx;exact⟨vs,e,hF.1,fun i x v hx hv=>CR1.vr h hb (hA.imp id fun hn=>newRL_mem (by simpa[newR] using hn) x (List.mem_of_getElem? hx)) (hF.2 i x v hx hv)⟩
 | _=>exact VR_one (CR1.vr h hb hA hx)
theorem LR.any {ty:Tys} {w:World} {okb:Nat→Prop} {x:AV} {v:Value} (h:LR ty w okb x v):LR ty w (fun _=>True) x v:=h.mono fun _ _ hl=>⟨trivial,hl,rfl⟩
theorem LR.reflag {ty:Tys} {w:World} {okb:Nat→Prop} {t:TypeId} {fl:Fl} {es:List AV} {v:Value} (h:LR ty w okb (.sl t fl es) v) (fr:Bool):LR ty w okb (.sl t ⟨fr,fl.nil,fl.tight⟩ es) v:=by
 cases h with
 | slN t fl cc h1 h2=>exact .slN t _ cc h1 h2
 | sl t fl es blk off cc vs h1 h2 h3 h4 h5 h6 h7=>exact .sl t _ es blk off cc vs h1 h2 h3 h4 h5 h6 h7
theorem LR.loose {ty:Tys} {w:World} {okb:Nat→Prop} {t:TypeId} {fl:Fl} {es:List AV} {v:Value} (h:LR ty w okb (.sl t fl es) v):LR ty w okb (.sl t ⟨false,none,false⟩ es) v:=by
 cases h with
 | slN t fl cc h1 h2=>exact .slN t _ cc (by simp) h2
 | sl t fl es blk off cc vs h1 h2 h3 h4 h5 h6 h7=>exact .sl t _ es blk off cc vs h1 (by simp) (by simp) h4 h5 h6 h7
theorem LR.reflagR {ty:Tys} {w:World} {okb:Nat→Prop} {t:TypeId} {f:Bool} {x:AV} {v:Value} (h:LR ty w okb (.ro f t x) v) (fr:Bool):LR ty w okb (.ro fr t x) v:=by
 cases h with
 | ro f t x blk off vs h1 h2 h3 h4 h5=>exact .ro fr t x blk off vs h1 h2 h3 h4 h5
theorem row_cells {E:Env} {w0 w:World} {σ:St} {a:Act} {β:Nat→Option Nat} (h:Sim E w0 σ a w β) {o k:Nat} {b:Obj} {t:TypeId} (hb:aget o σ.ob=some b) (hr:b.r = .row t) (hk:β o=some k) :
 ∃ arr e,w.heap[k]? = some (.cells arr e (0,0))∧(∀ x ∈ b.es,Conf E.ty t x)∧∀ (j:Nat) (x:AV),(leavesL b.es)[j]? = some x→∃ v,arr[j]? = some v∧LR E.ty w ((cxOf E w0 σ w β).okb b.fr) x v:=by
 obtain⟨h1,h2⟩:=h.obs o b hb;simp only[cxOf,hk] at h2;obtain⟨_,arr,e,h3,h4⟩:=h2;unfold ConfB at h1;rw[hr] at h1;refine⟨arr,e,h3,h1.1,fun j x hx=>?_⟩;obtain⟨v,h5,h6⟩:=h4 j x hx;refine⟨v,h5,?_⟩;unfold cellR at h6;rw[hr] at h6;exact h6
theorem leavesL_drop {s:Nat} {es:List AV} (h:∀ x ∈ es,(leaves x).length=s) (n j:Nat):(leavesL (es.drop n))[j]? = (leavesL es)[n * s+j]?:=by
 induction n generalizing es with
 | zero=>simp
 | succ n ih=>
   cases es with
   | nil=>simp[leavesL]
   | cons x r=>
     rw[List.drop_succ_cons,ih (fun y hy=>h y (by simp[hy]))];simp only[leavesL];rw[List.getElem?_append_right (by rw[h x (by simp),Nat.succ_mul];omega),h x (by simp)];congr 1;rw[Nat.succ_mul];omega
theorem leavesL_take_of {es:List AV} (n j:Nat) {y:AV} (hy:(leavesL (es.take n))[j]? = some y):(leavesL es)[j]? = some y:=by
 have e:leavesL es=leavesL (es.take n)++leavesL (es.drop n):=by rw[← leavesL_append,List.take_append_drop]
 rw[e,List.getElem?_append_left (List.getElem?_eq_some_iff.1 hy).1];exact hy
theorem own_read {E:Env} {w0 w:World} {σ:St} {a:Act} {β:Nat→Option Nat} (h:Sim E w0 σ a w β) {o off n:Nat} {b:Obj} {t:TypeId} {v:Value} (hb:aget o σ.ob=some b) (hr:b.r = .row t)
 (hn:off+n≤b.es.length) (hpos:0 < szOf E.ty t) (hv:VR (cxOf E w0 σ w β) (.own o t off n) v) (okb:Nat→Prop) (hok:∀ k,β o=some k→okb k) (hin:∀ k,(cxOf E w0 σ w β).okb b.fr k→okb k) (fl:Fl) (hfl:fl.nil=none) (htl:fl.tight=false) :
 LR E.ty w okb (.sl t fl ((b.es.drop off).take n)) v:=by
 have hlen:((b.es.drop off).take n).length=n:=by simp;omega
 rcases VR.own_inv hv with ⟨_,h1,h2,h3⟩ | ⟨k,cp,arr,e,g1,g2,g3,g4,g5⟩
 ·subst h2;subst h3;exact .slN t fl 0 (by rw[hfl];simp) rfl
 ·obtain⟨arr',e',k1,k2,k3⟩:=row_cells h hb hr g1;have g2':w.heap[k]? = some (.cells arr e (0,0)):=g2;rw[k1] at g2';injection g2' with g2';injection g2' with q1 q2 q3;subst q1;subst q2
  have hs:∀ x ∈ b.es,(leaves x).length=szOf E.ty t:=fun x hx=>(k2 x hx).len
  have hall:∀ (j:Nat) (y:AV),(leavesL ((b.es.drop off).take n))[j]? = some y→∃ u,w.cell? ⟨k,off * szOf E.ty t+j,none⟩=some u∧LR E.ty w okb y u:=fun j y hy=>by
   have h1:=leavesL_take_of n j hy;rw[leavesL_drop hs] at h1;obtain⟨u,r1,r2⟩:=k3 _ y h1;refine⟨u,?_,r2.mono fun b hb hl=>⟨hin b hb,hl,rfl⟩⟩;rw[cell_blk w k _ _ _ _ k1];exact r1
  obtain⟨us,e1,e2⟩:=list_choice (leavesL ((b.es.drop off).take n)) (fun j z u=>w.cell? ⟨k,off * szOf E.ty t+j,none⟩=some u∧LR E.ty w okb z u) hall;have hu:∀ (j:Nat) (z:AV),(leavesL ((b.es.drop off).take n))[j]? = some z→us[j]? = some (us.getD j undef):=fun j z hz=>by
   have:j < us.length:=by rw[e1];exact (List.getElem?_eq_some_iff.1 hz).1
   simp[this]
  have:=LR.sl (ty:=E.ty) (w:=w) (okb:=okb) t fl ((b.es.drop off).take n) k (off * szOf E.ty t) cp (fun j=>us.getD j undef) (by rw[hlen];exact g4) (by rw[hfl];simp) (by rw[htl];simp)
   (fun _=>⟨hok k g1,(Array.getElem?_eq_some_iff.1 k1).1⟩) (fun x hx=>k2 x (List.mem_of_mem_drop (List.mem_of_mem_take hx)))
   (fun j y hy=>(e2 j y _ hy (hu j y hy)).1) (fun j y hy=>(e2 j y _ hy (hu j y hy)).2)
  rw[hlen] at this;rw[g5];exact this
end Go.Abs
end
section
namespace Go.Abs
open Go Go.RowKit
section
variable {P:Program} {E:Env} {w0 w:World} {σ:St} {a:Act} {β:Nat→Option Nat}
def leafS (c:Cx) (T:Nat→Prop) (z z':AV):Prop:=∀ v,(OR c z v∨∃ okb,(∀ b,okb b→T b)∧LR c.ty c.w okb z v)→LR c.ty c.w T z' v
structure TreeOk (c:Cx) (S:AV→AV→Prop) (x y:AV):Prop where
 conf:∀ t,Conf c.ty t x→Conf c.ty t y
 leaf:leafV x=true→leafV y=true∧S x y
 all:∀ t,Conf c.ty t x→∀ (j:Nat) (z':AV),(leaves y)[j]? = some z'→∃ z,(leaves x)[j]? = some z∧S z z'
abbrev ExpoOk (c:Cx) (T:Nat→Prop) (x y:AV):Prop:=TreeOk c (leafS c T) x y
theorem TreeOk.ofLeaf {c:Cx} {S:AV→AV→Prop} {x y:AV} (hx:leafV x=true) (hy:leafV y=true) (hs:S x y):TreeOk c S x y where
 conf:=fun t hc=>by
  cases hc with
  | leaf h1 h2 h3 _=>exact .leaf h1 h2 h3 hy
  | st=>cases hx
  | ar=>cases hx
 leaf:=fun _=>⟨hy,hs⟩
 all:=fun t _ j z' hz=>by
  rw[leaves_leaf hy] at hz;rw[leaves_leaf hx];cases j with
  | zero=>simp at hz;subst hz;exact⟨x,rfl,hs⟩
  | succ j=>simp at hz
theorem expoL_get {ty:Tys} {ob:List (Nat × Obj)}:∀ (k:Nat) (fs gs:List AV),expo.expoL ty ob k fs=some gs→gs.length=fs.length∧
 ∀ (i:Nat) (x:AV),fs[i]? = some x→∃ k' y,k' < k∧gs[i]? = some y∧expo ty ob k' x=some y
 | 0,fs,gs,h=>by cases fs <;> simp[expo.expoL] at h
 | k+1,[],gs,h=>by simp[expo.expoL] at h;subst h;simp
 | k+1,x::r,gs,h=>by
   simp only[expo.expoL] at h;obtain⟨y,h1,h2⟩:=obind_eq h;obtain⟨l,h3,h4⟩:=obind_eq h2;injection h4 with h4;subst h4
   obtain⟨e1,e2⟩:=expoL_get k r l h3;refine⟨by simp[e1],fun i z hz=>?_⟩;cases i with
   | zero=>simp at hz;subst hz;exact⟨k,y,Nat.lt_succ_self _,rfl,h1⟩
   | succ i=>
     obtain⟨k',y',h5,h6,h7⟩:=e2 i z (by simpa using hz);exact⟨k',y',by omega,by simpa using h6,h7⟩
theorem OR.leafV {c:Cx} {x:AV} {v:Value} (h:OR c x v):leafV x=true:=by
 cases h with
 | cl h=>exact h.leaf
 | _=>rfl
theorem take_all {α:Type} (es:List α) (i n:Nat):(if i=0∧n=es.length then es else (es.drop i).take n)=(es.drop i).take n:=by
 split
 ·rename_i h;obtain⟨h1,h2⟩:=h;subst h1;subst h2;simp
 ·rfl
theorem fields_all {ty:Tys} {c:Cx} {S:AV→AV→Prop} (hc:c.ty=ty) {t:TypeId} {fs gs:List AV} (h:Conf ty t (.st t fs)) (hl:gs.length=fs.length)
 (hk:∀ (i:Nat) (x:AV),fs[i]? = some x→∃ y,gs[i]? = some y∧TreeOk c S x y):Conf ty t (.st t gs)∧
 ∀ (j:Nat) (z':AV),(leavesL gs)[j]? = some z'→∃ z,(leavesL fs)[j]? = some z∧S z z':=by
 subst hc;cases h with
 | leaf _ _ _ q4=>cases q4
 | @st _ ts s b z _ h1 h2 h3 h4=>
   have hconf:∀ (i:Nat) (x:AV) (u:TypeId),gs[i]? = some x→ts[i]? = some u→Conf c.ty u x:=fun i y u hy hu=>by
    have hi:i < fs.length:=by rw[← hl];exact (List.getElem?_eq_some_iff.1 hy).1
    obtain⟨y',e1,e2⟩:=hk i fs[i] (by simp[hi]);rw[hy] at e1;injection e1 with e1;subst e1
    exact e2.conf u (h4 i _ u (by simp[hi]) hu)
   refine⟨.st h1 (by rw[hl];exact h2) h3 hconf,?_⟩;have key:∀ (fs gs:List AV) (ts:List TypeId),fs.length=ts.length→gs.length=fs.length→(∀ (i:Nat) (x:AV) (u:TypeId),fs[i]? = some x→ts[i]? = some u→Conf c.ty u x)→
    (∀ (i:Nat) (x:AV) (u:TypeId),gs[i]? = some x→ts[i]? = some u→Conf c.ty u x)→
    (∀ (i:Nat) (x:AV),fs[i]? = some x→∃ y,gs[i]? = some y∧TreeOk c S x y)→∀ (j:Nat) (z':AV),(leavesL gs)[j]? = some z'→∃ z,(leavesL fs)[j]? = some z∧S z z':=by
    intro fs
    induction fs with
    | nil=>intro gs ts _ h2 _ _ _ j z' hz;cases gs with | nil=>simp[leavesL] at hz | cons _ _=>simp at h2
    | cons x r ih=>
      intro gs ts h1 h2 h3 h3' h4 j z' hz;cases gs with
      | nil=>simp at h2
      | cons y q=>
        cases ts with
        | nil=>simp at h1
        | cons u us=>
          obtain⟨y',e1,e2⟩:=h4 0 x rfl;simp at e1;subst e1;have hx:=h3 0 x u rfl rfl;have hy:=h3' 0 y u rfl rfl;simp only[leavesL] at hz ⊢;by_cases hj:j < (leaves x).length
          ·rw[List.getElem?_append_left (by rw[hy.len,← hx.len];exact hj)] at hz;obtain⟨z,r1,r2⟩:=e2.all u hx j z' hz;exact⟨z,by rw[List.getElem?_append_left hj];exact r1,r2⟩
          ·rw[List.getElem?_append_right (by rw[hy.len,← hx.len];omega),hy.len,← hx.len] at hz;obtain⟨z,r1,r2⟩:=ih q us (by simpa using h1) (by simpa using h2) (fun i x u hx hu=>h3 (i+1) x u (by simpa using hx) (by simpa using hu))
            (fun i x u hx hu=>h3' (i+1) x u (by simpa using hx) (by simpa using hu)) (fun i x hx=>by obtain⟨y,a1,a2⟩:=h4 (i+1) x (by simpa using hx);exact⟨y,by simpa using a1,a2⟩) _ z' hz
           exact⟨z,by rw[List.getElem?_append_right (by omega)];exact r1,r2⟩
   exact key fs gs ts h2 hl h4 hconf hk
theorem expo_ok (hT:Tabs P E.ty) (h:Sim E w0 σ a w β) {T:Nat→Prop} (hTm:∀ b,¬ (cxOf E w0 σ w β).mu b→T b):∀ (k:Nat) (x y:AV),(closed x=true∨∀ b,T b)→expo E.ty σ.ob k x=some y→ExpoOk (cxOf E w0 σ w β) T x y:=by
 have toT1:∀ {f:Bool} {z:AV} {v:Value},LR E.ty w ((cxOf E w0 σ w β).okb f) z v→LR E.ty w T z v:=fun hv=>hv.mono fun b hb hl=>⟨hTm b hb.1,hl,rfl⟩
 have toT2:∀ {okb:Nat→Prop} {z:AV} {v:Value},(∀ b,okb b→T b)→LR E.ty w okb z v→LR E.ty w T z v:=fun ho hv=>hv.mono fun b hb hl=>⟨ho b hb,hl,rfl⟩
 intro k
 induction k using Nat.strongRecOn with
 | _ k ih=>
   intro x y hcl hxy;cases k with
   | zero=>simp[expo] at hxy
   | succ k=>
     cases x with
     | undef=>simp[expo] at hxy
     | tup _=>simp[expo] at hxy
     | int kk n=>
       simp only[expo] at hxy;injection hxy with hxy;subst hxy
       refine TreeOk.ofLeaf rfl rfl fun v hv=>?_
       rcases hv with hv | ⟨_,hoo,hv⟩
       ·cases hv with | cl hv=>exact toT1 hv
       ·exact toT2 hoo hv
     | bool b=>
       simp only[expo] at hxy;injection hxy with hxy;subst hxy
       refine TreeOk.ofLeaf rfl rfl fun v hv=>?_
       rcases hv with hv | ⟨_,hoo,hv⟩
       ·cases hv with | cl hv=>exact toT1 hv
       ·exact toT2 hoo hv
     | str s=>
       simp only[expo] at hxy;injection hxy with hxy;subst hxy
       refine TreeOk.ofLeaf rfl rfl fun v hv=>?_
       rcases hv with hv | ⟨_,hoo,hv⟩
       ·cases hv with | cl hv=>exact toT1 hv
       ·exact toT2 hoo hv
     | pnil=>
       simp only[expo] at hxy;injection hxy with hxy;subst hxy
       refine TreeOk.ofLeaf rfl rfl fun v hv=>?_
       rcases hv with hv | ⟨_,hoo,hv⟩
       ·cases hv with | cl hv=>exact toT1 hv
       ·exact toT2 hoo hv
     | fnil=>
       simp only[expo] at hxy;injection hxy with hxy;subst hxy
       refine TreeOk.ofLeaf rfl rfl fun v hv=>?_
       rcases hv with hv | ⟨_,hoo,hv⟩
       ·cases hv with | cl hv=>exact toT1 hv
       ·exact toT2 hoo hv
     | mp _ _ _=>
       simp only[expo] at hxy;injection hxy with hxy;subst hxy
       refine TreeOk.ofLeaf rfl rfl fun v hv=>?_
       rcases hv with hv | ⟨_,hoo,hv⟩
       ·cases hv with | cl hv=>exact toT1 hv
       ·exact toT2 hoo hv
     | sl t fl es=>
       simp only[expo] at hxy;injection hxy with hxy;subst hxy
       refine TreeOk.ofLeaf rfl rfl fun v hv=>?_
       rcases hv with hv | ⟨_,hoo,hv⟩
       ·cases hv with | cl hv=>exact (toT1 hv).loose
       ·exact (toT2 hoo hv).loose
     | ro f t q=>
       simp only[expo] at hxy;injection hxy with hxy;subst hxy
       refine TreeOk.ofLeaf rfl rfl fun v hv=>?_
       rcases hv with hv | ⟨_,hoo,hv⟩
       ·cases hv with | cl hv=>exact (toT1 hv).reflagR false
       ·exact (toT2 hoo hv).reflagR false
     | ar t es=>
       simp only[expo] at hxy;injection hxy with hxy;subst hxy
       refine⟨fun _ hc=>hc,(fun hl=>by cases hl),fun u hc j z' hz=>⟨z',hz,?_⟩⟩;have hflat:closed z'=true∧fresh z'=true∧(∀ fr,reflag fr z'=z')∧leafV z'=true:=by
        cases hc with
        | leaf _ _ _ q4=>cases q4
        | ar h1 h2 h3 h4 h5=>
          have hm:=List.mem_of_getElem? hz;simp only[leaves] at hm;obtain⟨q,h6,h7⟩:=mem_leavesL hm;exact flat_leaf _ q (Nat.lt_succ_self _) (h5 q h6) z' h7
       intro v hv;rcases hv with hv | ⟨_,hoo,hv⟩
       ·exact toT1 (hv.lr hflat.1 (fr:=false) (fun hf=>by cases hf))
       ·exact toT2 hoo hv
     | st t fs=>
       simp only[expo] at hxy;obtain⟨gs,h1,h2⟩:=obind_eq hxy;injection h2 with h2;subst h2
       obtain⟨e1,e2⟩:=expoL_get k fs gs h1;have hk:∀ (i:Nat) (x:AV),fs[i]? = some x→∃ y,gs[i]? = some y∧ExpoOk (cxOf E w0 σ w β) T x y:=fun i x hx=>by
        obtain⟨k',y,h3,h4,h5⟩:=e2 i x hx;exact⟨y,h4,ih k' (by omega) x y (hcl.imp (fun hc=>closedL_mem (by simpa[closed] using hc) x (List.mem_of_getElem? hx)) id) h5⟩
       refine⟨fun u hc=>?_,(fun hl=>by cases hl),fun u hc j z' hz=>?_⟩
       ·have hu:u=t:=by
         cases hc with
         | leaf _ _ _ q4=>cases q4
         | st _ _ _ _=>rfl
        subst hu;exact (fields_all (c:=cxOf E w0 σ w β) rfl hc e1 hk).1
       ·have hu:u=t:=by
         cases hc with
         | leaf _ _ _ q4=>cases q4
         | st _ _ _ _=>rfl
        subst hu;exact (fields_all (c:=cxOf E w0 σ w β) rfl hc e1 hk).2 j z' hz
     | fn f cs=>
       simp only[expo] at hxy;obtain⟨ds,h1,h2⟩:=obind_eq hxy;injection h2 with h2;subst h2
       obtain⟨e1,e2⟩:=expoL_get k cs ds h1;refine TreeOk.ofLeaf rfl rfl fun v hv=>?_
       have key:∀ (us:Array Value),us.size=cs.length→(∀ (i:Nat) (x:AV),cs[i]? = some x→leafV x=true∧(OR (cxOf E w0 σ w β) x (us.getD i undef)∨∃ okb,(∀ b,okb b→T b)∧LR E.ty w okb x (us.getD i undef)))→
        LR E.ty w T (.fn f ds) (.func (.func f) #[] us):=fun us hsz hu=>by
        refine .fn f ds us (by rw[e1];exact hsz) fun i y hy=>?_
        have hi:i < cs.length:=by rw[← e1];exact (List.getElem?_eq_some_iff.1 hy).1
        obtain⟨k',y',h3,h4,h5⟩:=e2 i cs[i] (by simp[hi]);rw[hy] at h4;injection h4 with h4;subst h4
        obtain⟨hl,hu'⟩:=hu i cs[i] (by simp[hi]);exact ((ih k' (by omega) _ y (hcl.imp (fun hc=>by simp[closed] at hc;subst hc;simp at hi) id) h5).leaf hl).2 _ hu'
       rcases hv with hv | ⟨okb,hoo,hv⟩
       ·cases hv with
        | cl hv=>
          cases hv with
          | fn f cs us h3 h4=>exact key us h3 fun i x hx=>⟨(h4 i x hx).leaf,.inr ⟨_,fun b hb=>hTm b hb.1,h4 i x hx⟩⟩
        | fn f cs us h3 h4=>
          exact key us h3 fun i x hx=>⟨(h4 i x hx).leafV,.inl (h4 i x hx)⟩
       ·cases hv with
        | fn f cs us h3 h4=>exact key us h3 fun i x hx=>⟨(h4 i x hx).leaf,.inr ⟨_,hoo,h4 i x hx⟩⟩
     | own o t i n=>
       have hall:∀ b,T b:=hcl.elim (fun hc=>by simp[closed] at hc) id;simp only[expo] at hxy;split at hxy
       ·rename_i u fr es hob;split at hxy
        ·rename_i hc;obtain⟨c1,c2⟩:=hc;subst c1;injection hxy with hxy;subst hxy
         rw[take_all];refine TreeOk.ofLeaf rfl rfl fun v hv=>?_
         have hOR:OR (cxOf E w0 σ w β) (.own o t i n) v:=by
          rcases hv with hv | ⟨_,hoo,hv⟩
          ·exact hv
          ·cases hv
         have hpos:0 < szOf E.ty t:=by
          have:=(h.obs o _ hob).conf;exact this.2
         exact own_read h hob rfl c2 hpos hOR T (fun k _=>hall k) (fun k _=>hall k) _ rfl rfl
        ·cases hxy
       ·cases hxy
     | ptr o r p=>
       have hall:∀ b,T b:=hcl.elim (fun hc=>by simp[closed] at hc) id;simp only[expo] at hxy;split at hxy
       ·rename_i b hob;split at hxy
        ·rename_i hbr;split at hxy
         ·rename_i q hq;split at hxy
          ·rename_i u hu;obtain⟨y',h1,h2⟩:=obind_eq hxy;injection h2 with h2;subst h2
           have hqy:=ih k (Nat.lt_succ_self _) q y' (.inr hall) h1;refine TreeOk.ofLeaf rfl rfl fun v hv=>?_
           have hOR:VR (cxOf E w0 σ w β) (.ptr o r p) v:=by
            rcases hv with hv | ⟨_,hoo,hv⟩
            ·exact hv
            ·cases hv
           obtain⟨kk,dd,e1,e2,e3⟩:=VR.ptr_inv hOR;subst hbr;obtain⟨u',a1,a2,arr,e,a3,a4⟩:=obj_read (h.obs o b hob) e2 hq e3;have hu':u=u':=by
            have:b.r.tyAt E.ty p=some u':=a1;rw[hu] at this;injection this
           subst hu';have hc:=hqy.conf u a2;have hcell:∀ (j:Nat) (z':AV),(leaves y')[j]? = some z'→∃ v,w.cell? ⟨kk,dd+j,none⟩=some v∧LR E.ty w T z' v:=fun j z' hz=>by
            obtain⟨z,r1,r2⟩:=hqy.all u a2 j z' hz;obtain⟨v,r3,r4⟩:=a4 j z r1;refine⟨v,r3,r2 v ?_⟩;unfold cellR at r4;split at r4
            ·exact .inl r4
            ·exact .inr ⟨_,fun b _=>hall b,r4⟩
            ·exact .inl r4
           obtain⟨us,f1,f2⟩:=list_choice (leaves y') (fun j z v=>w.cell? ⟨kk,dd+j,none⟩=some v∧LR E.ty w T z v) hcell;have hus:∀ (j:Nat) (z:AV),(leaves y')[j]? = some z→us[j]? = some (us.getD j undef):=fun j z hz=>by
            have:j < us.length:=by rw[f1];exact (List.getElem?_eq_some_iff.1 hz).1
            simp[this]
           rw[e1];exact .ro false u y' kk dd (fun j=>us.getD j undef) (hall _) (Array.getElem?_eq_some_iff.1 a3).1 hc (fun j y hy=>(f2 j y _ hy (hus j y hy)).1) (fun j y hy=>(f2 j y _ hy (hus j y hy)).2)
          ·cases hxy
         ·cases hxy
        ·cases hxy
       ·cases hxy
theorem expo_sound (hT:Tabs P E.ty) (h:Sim E w0 σ a w β) {T:Nat→Prop} (hTm:∀ b,¬ (cxOf E w0 σ w β).mu b→T b) {k:Nat} {x y:AV} {v:Value} (hcl:closed x=true∨∀ b,T b) (hxy:expo E.ty σ.ob k x=some y) (hx:VR1 (cxOf E w0 σ w β) x v):CR1 E.ty w (fun _=>T) y v:=by
 have ok:=expo_ok hT h hTm k x y hcl hxy;have hshape:∀ vs:Array Value,∀ t,Conf E.ty t x→F2 (OR (cxOf E w0 σ w β)) (leaves x) vs.toList→F2 (LR E.ty w T) (leaves y) vs.toList:=fun vs t hc hF=>by
  have hl:(leaves y).length=(leaves x).length:=by rw[(ok.conf t hc).len,Conf.len (ty:=E.ty) hc];rfl
  refine⟨by rw[hl];exact hF.1,fun i z' u hz hu=>?_⟩;obtain⟨z,r1,r2⟩:=ok.all t hc i z' hz;exact r2 u (.inl (hF.2 i z u r1 hu))
 cases x with
 | st t fs=>
   obtain⟨vs,e,hc,hF⟩:=hx;cases k with
   | zero=>simp[expo] at hxy
   | succ k=>
     simp only[expo] at hxy;obtain⟨gs,h1,h2⟩:=obind_eq hxy;injection h2 with h2;subst h2
     exact⟨vs,e,ok.conf t hc,hshape vs t hc hF⟩
 | ar t es=>
   obtain⟨vs,e,hc,hF⟩:=hx;cases k with
   | zero=>simp[expo] at hxy
   | succ k=>
     simp only[expo] at hxy;injection hxy with hxy;subst hxy
     exact⟨vs,e,hc,hshape vs t hc hF⟩
 | tup _=>exact hx.elim
 | _=>
   obtain⟨h1,h2⟩:=ok.leaf rfl;exact (CR1_leaf h1).2 (h2 v (.inl hx))
end
end Go.Abs
end
section
namespace Go.Abs
open Go Go.RowKit
section
variable {P:Program} {E:Env} {w0 w:World} {σ:St} {a:Act} {β:Nat→Option Nat}
theorem Sim.newNone (h:Sim E w0 σ a w β) {d:Nat} (hf:σ.free d=true) {t:TypeId} {fr:Bool} (hpos:0 < szOf E.ty t) :
 Sim E w0 ⟨σ.tm,aput d ⟨.row t,fr,[]⟩ σ.ob⟩ a w (fun o=>if o=d then none else β o):=by
 simp only[St.free,Bool.and_eq_true] at hf;have m:Mono (cxOf E w0 σ w β) (cxOf E w0 ⟨σ.tm,aput d ⟨.row t,fr,[]⟩ σ.ob⟩ w (fun o=>if o=d then none else β o)):={
  ty:=rfl,base:=rfl,new:=rfl,size:=Nat.le_refl _
  keep:=fun k hk hl=>⟨fun hmu=>hmu.elim (fun q=>hk (.inl q)) fun⟨o,b',h1,h2⟩=>by
   simp only[aget_aput] at h1;dsimp only at h2;by_cases ho:o=d
   ·rw[if_pos ho] at h2;cases h2
   ·rw[if_neg ho] at h2;rw[if_neg (Ne.symm ho)] at h1;exact hk (.inr ⟨o,b',h1,h2⟩),rfl⟩
  rows:=fun k arr' e' hk=>⟨arr',hk,rfl⟩ }
 exact {
  below:=h.below,size:=h.size,defers:=h.defers
  tms:=fun t x hx=>⟨(h.tms t x hx).1,m.vr (h.tms t x hx).2 fun o ho=>by
   show (if o=d then _ else β o)=β o;rw[if_neg];rintro rfl;rw[freeT_get hf.1 t x hx] at ho;cases ho⟩
  obs:=fun o b' ho=>by
   simp only[aget_aput] at ho;split at ho
   ·rename_i e1;subst e1;injection ho with ho;subst ho
    exact⟨⟨by simp,hpos⟩,by simp[cxOf]⟩
   ·rename_i hne;refine m.obR (h.obs o b' ho) (fun o' ho'=>?_) ?_ fun k hk=>rfl
    ·show (if o'=d then _ else β o')=β o';rw[if_neg];rintro rfl;rw[freeO_get hf.2 o b' ho (Ne.symm hne)] at ho';cases ho'
    ·show (if o=d then _ else β o)=β o;rw[if_neg (Ne.symm hne)]
  inj:=fun o o' b1 b2 k h1 h2 k1 k2=>by
   simp only[aget_aput] at h1 h2;by_cases e1:o=d
   ·rw[if_pos e1] at k1;cases k1
   ·by_cases e2:o'=d
    ·rw[if_pos e2] at k2;cases k2
    ·rw[if_neg e1] at k1;rw[if_neg e2] at k2;rw[if_neg (Ne.symm e1)] at h1;rw[if_neg (Ne.symm e2)] at h2;exact h.inj o o' b1 b2 k h1 h2 k1 k2 }
theorem Sim.move (h:Sim E w0 σ a w β) {d o:Nat} (hf:σ.free d=true) {b:Obj} {t:TypeId} (hr:b.r = .row t) (ho:aget o σ.ob=some b) (hod:o ≠ d) :
 Sim E w0 ⟨σ.tm,aput d b (adel o σ.ob)⟩ a w (fun q=>if q=d then β o else β q):=by
 simp only[St.free,Bool.and_eq_true] at hf;have get:∀ q b',aget q (aput d b (adel o σ.ob))=some b'→(q=d∧b'=b)∨(q ≠ d∧q ≠ o∧aget q σ.ob=some b'):=fun q b' hq=>by
  simp only[aget_aput,aget_adel] at hq;split at hq
  ·rename_i e;injection hq with hq;exact .inl ⟨e.symm,hq.symm⟩
  ·rename_i e;split at hq
   ·cases hq
   ·rename_i e2;exact .inr ⟨Ne.symm e,Ne.symm e2,hq⟩
 have m:Mono (cxOf E w0 σ w β) (cxOf E w0 ⟨σ.tm,aput d b (adel o σ.ob)⟩ w (fun q=>if q=d then β o else β q)):={
  ty:=rfl,base:=rfl,new:=rfl,size:=Nat.le_refl _
  keep:=fun k hk hl=>⟨fun hmu=>hmu.elim (fun q=>hk (.inl q)) fun⟨q,b',h1,h2⟩=>by
   dsimp only at h2;rcases get q b' h1 with ⟨e1,e2⟩ | ⟨e1,e2,e3⟩
   ·rw[if_pos e1] at h2;exact hk (.inr ⟨o,b,ho,h2⟩)
   ·rw[if_neg e1] at h2;exact hk (.inr ⟨q,b',e3,h2⟩),rfl⟩
  rows:=fun k arr' e' hk=>⟨arr',hk,rfl⟩ }
 have hβ:∀ q,q ≠ d→(fun q=>if q=d then β o else β q) q=β q:=fun q hq=>if_neg hq
 exact {
  below:=h.below,size:=h.size,defers:=h.defers
  tms:=fun t x hx=>⟨(h.tms t x hx).1,m.vr (h.tms t x hx).2 fun q hq=>hβ q (by
   rintro rfl;rw[freeT_get hf.1 t x hx] at hq;cases hq)⟩
  obs:=fun q b' hq=>by
   rcases get q b' hq with ⟨e1,e2⟩ | ⟨e1,e2,e3⟩
   ·subst e1;subst e2;obtain⟨h1,h2⟩:=h.obs o b' ho;refine⟨by exact h1,?_⟩;simp only[cxOf,if_true] at h2 ⊢;split
    ·rename_i hn;rw[hn] at h2;exact h2
    ·rename_i k hk;rw[hk] at h2;obtain⟨q1,arr,e,q2,q3⟩:=h2;refine⟨q1,arr,e,q2,fun j x hx=>?_⟩;obtain⟨v,r1,r2⟩:=q3 j x hx;refine⟨v,r1,?_⟩;unfold cellR at r2 ⊢;rw[hr] at r2 ⊢;exact m.lr r2
   ·refine m.obR (h.obs q b' e3) (fun o' ho'=>hβ o' ?_) (hβ q e1) fun k hk=>rfl
    rintro rfl;rw[freeO_get hf.2 q b' e3 e1] at ho';cases ho'
  inj:=fun q q' b1 b2 k h1 h2 k1 k2=>by
   rcases get q b1 h1 with ⟨e1,e2⟩ | ⟨e1,e2,e3⟩ <;> rcases get q' b2 h2 with ⟨e1',e2'⟩ | ⟨e1',e2',e3'⟩
   ·omega
   ·rw[if_pos e1] at k1;rw[if_neg e1'] at k2;exact absurd (h.inj o q' b b2 k ho e3' k1 k2) (Ne.symm e2')
   ·rw[if_neg e1] at k1;rw[if_pos e1'] at k2;exact absurd (h.inj q o b1 b k e3 ho k1 k2) e2
   ·rw[if_neg e1] at k1;rw[if_neg e1'] at k2;exact h.inj q q' b1 b2 k e3 e3' k1 k2 }
theorem xsOf_sound (h:Sim E w0 σ a w β) {e:TypeId} {x:AV} {v:Value} {xs:List AV} {fr:Bool} (hx:xsOf σ.ob e x=some (xs,fr)) (hv:VR (cxOf E w0 σ w β) x v) :
 (∀ y ∈ xs,Conf E.ty e y)∧∃ news:List Value,news.length=(leavesL xs).length∧(∀ (j:Nat) (y:AV) (u:Value),(leavesL xs)[j]? = some y→news[j]? = some u→LR E.ty w ((cxOf E w0 σ w β).okb fr) y u)∧
   ((v = .slice none 0 0∧xs=[])∨∃ k off c,v = .slice (some ⟨k,off,none⟩) xs.length c∧∀ j u,news[j]? = some u→w.cell? ⟨k,off+j,none⟩=some u):=by
 have fin:∀ (xs:List AV) (k off:Nat),(∀ (j:Nat) (y:AV),(leavesL xs)[j]? = some y→∃ u,w.cell? ⟨k,off+j,none⟩=some u∧LR E.ty w ((cxOf E w0 σ w β).okb fr) y u)→
  ∃ news:List Value,news.length=(leavesL xs).length∧(∀ (j:Nat) (y:AV) (u:Value),(leavesL xs)[j]? = some y→news[j]? = some u→LR E.ty w ((cxOf E w0 σ w β).okb fr) y u)∧∀ j u,news[j]? = some u→w.cell? ⟨k,off+j,none⟩=some u:=fun xs k off hall=>by
  obtain⟨us,e1,e2⟩:=list_choice (leavesL xs) (fun j z u=>w.cell? ⟨k,off+j,none⟩=some u∧LR E.ty w ((cxOf E w0 σ w β).okb fr) z u) hall;refine⟨us,e1,fun j y u hy hu=>(e2 j y u hy hu).2,fun j u hu=>?_⟩;have hj:j < (leavesL xs).length:=by rw[← e1];exact (List.getElem?_eq_some_iff.1 hu).1
  exact (e2 j _ u (List.getElem?_eq_getElem hj) hu).1
 unfold xsOf at hx;split at hx
 ·rename_i o u i n;split at hx
  ·rename_i u2 fr' es hb;split at hx
   ·rename_i hc;obtain⟨c1,c2,c3⟩:=hc;subst c1;subst c2;injection hx with hx;injection hx with h1 h2;subst h1;subst h2
    rw[take_all];have hlen:((es.drop i).take n).length=n:=by simp;omega
    have hcf:∀ y ∈ es,Conf E.ty u2 y:=(h.obs o _ hb).conf.1;refine⟨fun y hy=>hcf y (List.mem_of_mem_drop (List.mem_of_mem_take hy)),?_⟩;rcases VR.own_inv hv with ⟨_,h1,h2,h3⟩ | ⟨k,cp,arr,e,g1,g2,g3,g4,g5⟩
    ·subst h2;subst h3;exact⟨[],by simp[leavesL],fun j y u hy _=>by simp[leavesL] at hy,.inl ⟨rfl,by simp⟩⟩
    ·obtain⟨arr',e',k1,k2,k3⟩:=row_cells h hb rfl g1;have hs:∀ x ∈ es,(leaves x).length=szOf E.ty u2:=fun x hx=>(k2 x hx).len
     obtain⟨news,n1,n2,n3⟩:=fin ((es.drop i).take n) k (i * szOf E.ty u2) fun j y hy=>by
      have h1:=leavesL_take_of n j hy;rw[leavesL_drop hs] at h1;obtain⟨u,r1,r2⟩:=k3 _ y h1;exact⟨u,by rw[cell_blk w k _ _ _ _ k1];exact r1,r2⟩
     exact⟨news,n1,n2,.inr ⟨k,i * szOf E.ty u2,cp,by rw[g5,hlen];rfl,n3⟩⟩
   ·cases hx
  ·cases hx
 ·rename_i u fl es;split at hx
  ·rename_i hc;injection hx with hx;injection hx with h1 h2;subst h1;subst h2
   rcases VR.sl_inv hv with ⟨q1,_,q3⟩ | ⟨k,off,cp,q1,_,_,_,q4,q5⟩
   ·subst q1;exact⟨by simp,[],by simp[leavesL],fun j y u hy _=>by simp[leavesL] at hy,.inl ⟨q3,rfl⟩⟩
   ·refine⟨fun y hy=>?_,?_⟩
    ·rcases hc with hc | hc
     ·subst hc;exact q4 y hy
     ·have:es=[]:=by simpa using hc
      subst this;cases hy
    ·obtain⟨news,n1,n2,n3⟩:=fin es k off q5;exact⟨news,n1,n2,.inr ⟨k,off,cp,q1,n3⟩⟩
  ·cases hx
 ·cases hx
theorem run_append_none (t ty e:TypeId) (i:TypeInfo) (ht:P.underlying t=some (.slice e)) (hi:P.info? e=some i) (base:Option Addr) (n cap:Nat) (hn:n≤cap) (x:Value) (hx:x = .slice none 0 0∨∃ k c,x = .slice (some k) 0 c) :
 (Builtin.append_ #[t,t] ty #[.slice base n cap,x]).run P w = .ok (.slice base n cap) w:=by
 rcases hx with rfl | ⟨k,c,rfl⟩
 ·cases base with
  | none=>simp[Builtin.append_,run_underlying ht,sizeOf,typeInfo,hi,Builtin.lenOf,hn,run_firstCells_none,storeCells]
  | some b=>simp[Builtin.append_,run_underlying ht,sizeOf,typeInfo,hi,Builtin.lenOf,hn,run_firstCells_none,storeCells]
 ·have hf:=run_firstCells_some (P:=P) w i.size 0 k 0 c [] (by simp) (by simp);cases base with
  | none=>simp[Builtin.append_,run_underlying ht,sizeOf,typeInfo,hi,Builtin.lenOf,hn,hf,storeCells]
  | some b=>simp[Builtin.append_,run_underlying ht,sizeOf,typeInfo,hi,Builtin.lenOf,hn,hf,storeCells]
theorem run_append_in (t ty e:TypeId) (i:TypeInfo) (ht:P.underlying t=some (.slice e)) (hi:P.info? e=some i) (k off n m cap:Nat) (hroom:n+m≤cap) {ad:Addr} {c:Nat} {news:List Value}
 (hl:news.length=m * i.size) (hnews:∀ j u,news[j]? = some u→w.cell? (ad.add j)=some u) {w':World} (hst:(storeCells ⟨k,off+n * i.size,none⟩ news 0).run P w = .ok () w') :
 (Builtin.append_ #[t,t] ty #[.slice (some ⟨k,off,none⟩) n cap,.slice (some ad) m c]).run P w = .ok (.slice (some ⟨k,off,none⟩) (n+m) cap) w':=by
 have hfc:=run_firstCells_some (P:=P) w i.size m ad m c news hl hnews;simp[Builtin.append_,run_underlying ht,sizeOf,typeInfo,hi,Builtin.lenOf,hroom,hfc,Addr.add_lit,hst]
theorem append_new (hT:Tabs P E.ty) (h:Sim E w0 σ a w β) {d:Nat} (hf:σ.free d=true) {e:TypeId} {T:TyD} (hDe:E.ty e=some T) (hpos:0 < T.size) {ys:List AV} {fr:Bool} (hcf:∀ y ∈ ys,Conf E.ty e y)
 {arr:Array Value} {cap:Nat} (hsz:arr.size=cap * T.size) (hcap:ys.length≤cap)
 (hcell:∀ (j:Nat) (y:AV),(leavesL ys)[j]? = some y→∃ v,arr[j]? = some v∧LR E.ty w ((cxOf E w0 σ w β).okb fr) y v) :
 ∃ β',Sim E w0 ⟨σ.tm,aput d ⟨.row e,fr,ys⟩ σ.ob⟩ a (w.drew.alloc (.cells arr e)) β'∧
   VR (cxOf E w0 ⟨σ.tm,aput d ⟨.row e,fr,ys⟩ σ.ob⟩ (w.drew.alloc (.cells arr e)) β') (.own d e 0 ys.length) (.slice (some ⟨w.heap.size,0,none⟩) ys.length cap):=by
 have hs:szOf E.ty e=T.size:=by simp[szOf,hDe]
 have h1:Sim E w0 σ a w.drew β:=h.grow ((Below.refl _ _).drew);obtain⟨hS,_⟩:=h1.new hf (b:=⟨.row e,fr,ys⟩) (arr:=arr) (e:=e) ⟨hcf,by rw[hs];exact hpos⟩ rfl
  (fun j q hq=>by
    obtain⟨u,r1,r2⟩:=hcell j q hq;exact⟨u,r1,show LR E.ty w.drew ((cxOf E w0 σ w.drew β).okb fr) q u from r2.mono fun b hb hl=>⟨hb,hl,rfl⟩⟩)
 refine⟨_,hS,?_⟩;have:=OR.own (c:=cxOf E w0 ⟨σ.tm,aput d ⟨.row e,fr,ys⟩ σ.ob⟩ (w.drew.alloc (.cells arr e)) (fun o=>if o=d then some w.drew.heap.size else β o))
  d e 0 ys.length w.heap.size cap arr e (by simp[cxOf]) (by show (w.drew.heap.push _)[w.heap.size]? = _;show (w.heap.push _)[w.heap.size]? = _;simp) (by simp[cxOf,hs,hsz]) hcap
 rw[Nat.zero_mul] at this;exact this
theorem freeO_adel {d o:Nat}:∀ {l:List (Nat × Obj)},St.free.freeO d l=true→St.free.freeO d (adel o l)=true
 | [],_=>rfl
 | (u,y)::r,h=>by
   simp only[St.free.freeO,Bool.and_eq_true] at h;simp only[adel];split
   ·exact freeO_adel h.2
   ·simp only[St.free.freeO,Bool.and_eq_true];exact⟨h.1,freeO_adel h.2⟩
theorem adel_adel {α:Type} (o:Nat):∀ (l:List (Nat × α)),adel o (adel o l)=adel o l
 | []=>rfl
 | (u,y)::r=>by
   simp only[adel];split
   ·exact adel_adel o r
   ·rename_i e;simp only[adel];rw[if_neg e,adel_adel o r]
theorem app_prefix (hT:Tabs P E.ty) (h:Sim E w0 σ a w β) {t ty:TypeId} {d o u2:Nat} (hfree:σ.free d=true) {T:TyD} (hk:P.underlying t=some (.slice u2)) (hDe:E.ty u2=some T) (hpos:0 < T.size)
 {i:TypeInfo} (i1:P.info? u2=some i) (i2:i.size=T.size) {fr fr':Bool} {es xs:List AV} {n:Nat} (hb:aget o σ.ob=some ⟨.row u2,fr',es⟩) {vs vx:Value} (hs:VR (cxOf E w0 σ w β) (.own o u2 0 n) vs)
 (hcx:∀ y ∈ xs,Conf E.ty u2 y) {news:List Value} (n1:news.length=(leavesL xs).length) (n2:∀ (j:Nat) (y:AV) (u:Value),(leavesL xs)[j]? = some y→news[j]? = some u→LR E.ty w ((cxOf E w0 σ w β).okb fr) y u)
 (n3:(vx = .slice none 0 0∧xs=[])∨∃ k off c,vx = .slice (some ⟨k,off,none⟩) xs.length c∧∀ j u,news[j]? = some u→w.cell? ⟨k,off+j,none⟩=some u) (c3:n+xs.length≤es.length) (c4:o ≠ d) :
 ∃ v w' β',(Builtin.append_ #[t,t] ty #[vs,vx]).run P w = .ok v w'∧Sim E w0 ⟨σ.tm,aput d ⟨.row u2,fr'&&fr,es.take n++(xs++es.drop (n+xs.length))⟩ (adel o σ.ob)⟩ a w' β'∧
   VR (cxOf E w0 ⟨σ.tm,aput d ⟨.row u2,fr'&&fr,es.take n++(xs++es.drop (n+xs.length))⟩ (adel o σ.ob)⟩ w' β') (.own d u2 0 (n+xs.length)) v:=by
 have hsz:szOf E.ty u2=T.size:=by simp[szOf,hDe]
 have hcf:∀ y ∈ es,Conf E.ty u2 y:=(h.obs o _ hb).conf.1;have hnl:news.length=xs.length * i.size:=by
  rw[n1,i2];exact leavesL_len_const T.size _ fun y hy=>by rw[(hcx y hy).len,hsz]
 have hes:∀ x ∈ es,(leaves x).length=T.size:=fun y hy=>by rw[(hcf y hy).len,hsz]
 have hadel:∀ b,adel o (aput o b σ.ob)=adel o σ.ob:=fun b=>by
  simp only[aput,adel,if_true];exact adel_adel o σ.ob
 have hfr2:∀ b:Obj,(∃ t,b.r = .row t)→St.free ⟨σ.tm,aput o b σ.ob⟩ d=true:=fun b hb=>by
  obtain⟨t,hb⟩:=hb;simp only[St.free,Bool.and_eq_true] at hfree ⊢;refine⟨hfree.1,?_⟩;simp only[aput,St.free.freeO,hb,ment.mentL,Bool.not_false,Bool.or_true,Bool.true_and];exact freeO_adel hfree.2
 have hcy:∀ y ∈ es.take n++(xs++es.drop (n+xs.length)),Conf E.ty u2 y:=fun y hy=>by
  rcases List.mem_append.1 hy with hy | hy
  ·exact hcf y (List.mem_of_mem_take hy)
  ·rcases List.mem_append.1 hy with hy | hy
   ·exact hcx y hy
   ·exact hcf y (List.mem_of_mem_drop hy)
 rcases VR.own_inv hs with ⟨q0,_,q1,q2⟩ | ⟨k,cp,arr,e',g1,g2,g3,g4,g5⟩
 ·subst q1;subst q2;have he:es=[]:=by
   have:=(h.obs o _ hb).blk;have q0':β o=none:=q0;simp only[cxOf,q0'] at this;exact this.2
  subst he;have hx0:xs=[]:=List.eq_nil_of_length_eq_zero (by simpa using c3);subst hx0;obtain⟨hM0⟩:Nonempty (Sim E w0 ⟨σ.tm,aput o ⟨.row u2,fr'&&fr,[]⟩ σ.ob⟩ a w β):=⟨by
   have hl:Sim E w0 ⟨σ.tm,σ.ob⟩ a w β:=h;have m:Mono (cxOf E w0 σ w β) (cxOf E w0 ⟨σ.tm,aput o ⟨.row u2,fr'&&fr,[]⟩ σ.ob⟩ w β):={
    ty:=rfl,base:=rfl,new:=rfl,size:=Nat.le_refl _
    keep:=fun k hk hl=>⟨fun hmu=>hmu.elim (fun q=>hk (.inl q)) fun⟨o',b',h1,h2⟩=>by
     simp only[aget_aput] at h1;by_cases ho:o=o'
     ·subst ho;exact hk (.inr ⟨o,_,hb,h2⟩)
     ·rw[if_neg ho] at h1;exact hk (.inr ⟨o',b',h1,h2⟩),rfl⟩
    rows:=fun k arr' e' hk=>⟨arr',hk,rfl⟩ }
   exact {
    below:=h.below,size:=h.size,defers:=h.defers
    tms:=fun t x hx=>⟨(h.tms t x hx).1,m.vr (h.tms t x hx).2 fun _ _=>rfl⟩
    obs:=fun o' b' ho=>by
     simp only[aget_aput] at ho;split at ho
     ·rename_i e1;subst e1;injection ho with ho;subst ho
      refine⟨⟨by simp,by rw[show (cxOf E w0 ⟨σ.tm,aput o ⟨.row u2,fr'&&fr,[]⟩ σ.ob⟩ w β).ty=E.ty from rfl,hsz];exact hpos⟩,?_⟩;have q0':β o=none:=q0;simp[cxOf,q0']
     ·exact m.obR (h.obs o' b' ho) (fun _ _=>rfl) rfl fun _ _=>rfl
    inj:=fun o1 o2 b1 b2 k h1 h2 k1 k2=>by
     simp only[aget_aput] at h1 h2;by_cases e1:o=o1
     ·subst e1;by_cases e2:o=o2
      ·exact e2
      ·rw[if_neg e2] at h2;exact h.inj _ _ _ _ k hb h2 k1 k2
     ·rw[if_neg e1] at h1;by_cases e2:o=o2
      ·subst e2;exact h.inj _ _ _ _ k h1 hb k1 k2
      ·rw[if_neg e2] at h2;exact h.inj _ _ _ _ k h1 h2 k1 k2 }⟩
  have hM:=hM0.move (d:=d) (o:=o) (hfr2 _ ⟨_,rfl⟩) (b:=⟨.row u2,fr'&&fr,[]⟩) (t:=u2) rfl (by rw[aget_aput,if_pos rfl]) c4;simp only[hadel] at hM;refine⟨.slice none 0 0,w,_,run_append_none t ty u2 i hk i1 none 0 0 (Nat.le_refl _) vx ?_,by simpa using hM,?_⟩
  ·rcases n3 with ⟨q,_⟩ | ⟨k,off,c,q,_⟩
   ·exact .inl q
   ·exact .inr ⟨_,c,q⟩
  ·exact .ownN d u2 (by simp only[cxOf,if_true];exact q0)
 ·obtain⟨arr2,e2,k1,k2,k3⟩:=row_cells h hb rfl g1;have g2':w.heap[k]? = some (.cells arr e' (0,0)):=g2;rw[k1] at g2';injection g2' with g2';injection g2' with q1 q2 q3;subst q1;subst q2
  have hles:(leavesL es).length=es.length * T.size:=leavesL_len_const T.size _ hes;have hasz:arr2.size=cp * T.size:=by
   have:(0+cp) * szOf E.ty u2=arr2.size:=g3;rw[← this,hsz,Nat.zero_add]
  have g5':vs = .slice (some ⟨k,0,none⟩) n cp:=by rw[g5,Nat.zero_mul]
  subst g5';have hall:(leavesL es).length≤arr2.size:=by
   refine Nat.le_of_not_lt fun hlt=>?_
   obtain⟨v,r1,_⟩:=k3 arr2.size _ (List.getElem?_eq_getElem hlt);have:=(Array.getElem?_eq_some_iff.1 r1).1;omega
  have hroom:n+xs.length≤cp:=by
   have h1:es.length * T.size≤cp * T.size:=by rw[← hles,← hasz];exact hall
   exact Nat.le_trans c3 (Nat.le_of_mul_le_mul_right h1 hpos)
  have hin:n * T.size+news.length≤arr2.size:=by
   rw[hasz,hnl,i2,← Nat.add_mul];exact Nat.mul_le_mul_right _ hroom
  have hone:∀ v ∈ news,oneCell v:=fun v hv=>by
   obtain⟨j,hj,e⟩:=List.getElem_of_mem hv;have hj':j < (leavesL xs).length:=by rw[← n1];exact hj
   rw[← e];exact (n2 j _ _ (List.getElem?_eq_getElem hj') (List.getElem?_eq_getElem hj)).one
  have hst:=run_storeCells_blk P k (0+n * i.size) e2 news 0 w arr2 k1 (by rw[i2];omega) hone;have hrun:(Builtin.append_ #[t,t] ty #[.slice (some ⟨k,0,none⟩) n cp,vx]).run P w = .ok (.slice (some ⟨k,0,none⟩) (n+xs.length) cp) (setBlk w k (.cells (spl arr2 (0+n * i.size+0) news) e2 (0,0))):=by
   rcases n3 with ⟨q,q'⟩ | ⟨k',off,c,q,q2⟩
   ·subst q';have hn0:news=[]:=List.eq_nil_of_length_eq_zero (by rw[hnl];simp);subst hn0;rw[spl,setBlk_self w k _ k1];exact run_append_none t ty u2 i hk i1 _ n cp g4 vx (.inl q)
   ·subst q;exact run_append_in t ty u2 i hk i1 k 0 n xs.length cp hroom hnl (fun j u hu=>by rw[Addr.add_lit];exact q2 j u hu) hst
  have e0:0+n * i.size+0=n * T.size:=by rw[i2];omega
  rw[e0] at hrun;have htl:(leavesL (es.take n)).length=n * T.size:=by
   rw[leavesL_len_const T.size _ fun y hy=>hes y (List.mem_of_mem_take hy),List.length_take];congr 1;omega
  obtain⟨hW,_⟩:=h.write (b':=⟨.row u2,fr'&&fr,es.take n++(xs++es.drop (n+xs.length))⟩) (arr':=spl arr2 (n * T.size) news) hb g1 k1 (by simp) ⟨hcy,by rw[hsz];exact hpos⟩ (fun j y hy=>by
   show ∃ v,_∧LR E.ty w ((cxOf E w0 σ w β).okb (fr'&&fr)) y v;rw[leavesL_append,leavesL_append] at hy;rw[spl_get _ _ _ _ hin];by_cases hj:j < n * T.size
   ·rw[List.getElem?_append_left (by omega)] at hy;obtain⟨v,r1,r2⟩:=k3 j y (leavesL_take_of n j hy);rw[if_neg (by omega)];exact⟨v,r1,okb_weak (c:=cxOf E w0 σ w β) r2 fun hq=>by simp at hq;exact hq.1⟩
   ·rw[List.getElem?_append_right (by omega),htl] at hy;by_cases hj2:j - n * T.size < news.length
    ·rw[List.getElem?_append_left (by rw[← n1];exact hj2)] at hy;rw[if_pos (by omega)];exact⟨_,List.getElem?_eq_getElem hj2,okb_weak (c:=cxOf E w0 σ w β) (n2 _ y _ hy (List.getElem?_eq_getElem hj2)) fun hq=>by simp at hq;exact hq.2⟩
    ·rw[List.getElem?_append_right (by rw[← n1];omega),leavesL_drop hes] at hy;have hx:(leavesL xs).length=xs.length * T.size:=by rw[← n1,hnl,i2]
     have e3:(n+xs.length) * T.size+(j - n * T.size - (leavesL xs).length)=j:=by
      rw[hx,Nat.add_mul];rw[n1,hx] at hj2;omega
     rw[e3] at hy;obtain⟨v,r1,r2⟩:=k3 j y hy;rw[if_neg (by omega)];exact⟨v,r1,okb_weak (c:=cxOf E w0 σ w β) r2 fun hq=>by simp at hq;exact hq.1⟩)
  have hM:=hW.move (d:=d) (o:=o) (hfr2 _ ⟨_,rfl⟩) (b:=⟨.row u2,fr'&&fr,es.take n++(xs++es.drop (n+xs.length))⟩) (t:=u2) rfl (by rw[aget_aput,if_pos rfl]) c4;simp only[hadel] at hM;refine⟨_,_,_,hrun,hM,?_⟩;have hklt:k < w.heap.size:=(Array.getElem?_eq_some_iff.1 k1).1;have:=OR.own (c:=cxOf E w0 ⟨σ.tm,aput d ⟨.row u2,fr'&&fr,es.take n++(xs++es.drop (n+xs.length))⟩ (adel o σ.ob)⟩ (setBlk w k (.cells (spl arr2 (n * T.size) news) e2 (0,0))) (fun q=>if q=d then β o else β q))
   d u2 0 (n+xs.length) k cp (spl arr2 (n * T.size) news) e2 (by simp[cxOf];exact g1) (setBlk_same w k _ hklt) (by simp[cxOf,hsz,hasz]) hroom
  rw[Nat.zero_mul] at this;exact this
theorem ok_append (hT:Tabs P E.ty) (h:Sim E w0 σ a w β) {t ty:TypeId} {d:Nat} {s x r:AV} {ob:List (Nat × Obj)} (hr:appd E d σ t s x=some (r,ob)) {vs vx:Value} (hs:VR (cxOf E w0 σ w β) s vs) (hx:VR (cxOf E w0 σ w β) x vx) :
 ∃ v w' β',(Builtin.append_ #[t,t] ty #[vs,vx]).run P w = .ok v w'∧Sim E w0 ⟨σ.tm,ob⟩ a w' β'∧VR (cxOf E w0 ⟨σ.tm,ob⟩ w' β') r v:=by
 unfold appd at hr;split at hr
 ·rename_i e sz by_ zz hD;split at hr
  ·rename_i T hDe;obtain⟨⟨xs,fr⟩,h1,h2⟩:=obind_eq hr;dsimp only at h2;split at h2
   ·rename_i hc;obtain⟨hpos,hfree⟩:=hc;have hk:=(hT.ok t _ hD).kind;simp only[kindOk] at hk;obtain⟨i,zv,i1,i2,i3,i4,i5,i6⟩:=(hT.ok e T hDe).info;have hsz:szOf E.ty e=T.size:=by simp[szOf,hDe]
    have hzc:zv.cells.size=T.size:=by
     have:=i5.1;rw[(hT.ok e T hDe).conf.len,hsz] at this;simpa using this.symm
    obtain⟨hcx,news,n1,n2,n3⟩:=xsOf_sound h h1 hx;have hlx:(leavesL xs).length=xs.length * T.size:=leavesL_len_const T.size _ fun y hy=>by rw[(hcx y hy).len,hsz]
    have hnl:news.length=xs.length * i.size:=by rw[n1,hlx,i2]
    have get:∀ (l:List Value) (zs:Array Value) (j:Nat),j < l.length→(l.toArray++zs)[j]? = l[j]?:=fun l zs j hj=>by
     rw[Array.getElem?_append_left (by simpa using hj)];simp
    have onNil:∀ {σ1:St} {g:Bool},(g=true→fr=true)→Sim E w0 σ1 a w β→σ1.tm=σ.tm→(∀ k,(cxOf E w0 σ w β).okb fr k→(cxOf E w0 σ1 w β).okb fr k)→σ1.free d=true→xs.length * T.bytes≤140737488355328→xs.length≤140737488355328→∃ v w' β',(Builtin.append_ #[t,t] ty #[.slice none 0 0,vx]).run P w = .ok v w'∧
     Sim E w0 ⟨σ1.tm,aput d ⟨.row e,g,xs⟩ σ1.ob⟩ a w' β'∧VR (cxOf E w0 ⟨σ1.tm,aput d ⟨.row e,g,xs⟩ σ1.ob⟩ w' β') (.own d e 0 xs.length) v:=fun {σ1 g} hg hS1 _ hokb hfr hb1 hb2=>by
     by_cases hxs:xs=[]
     ·subst hxs;refine⟨.slice none 0 0,w,_,run_append_none t ty e i hk.1 i1 none 0 0 (Nat.le_refl _) vx ?_,hS1.newNone hfr (by rw[hsz];exact hpos),?_⟩
      ·rcases n3 with ⟨q,_⟩ | ⟨k,off,c,q,_⟩
       ·exact .inl q
       ·exact .inr ⟨_,c,q⟩
      ·exact .ownN d e (by simp[cxOf])
     ·have hm:0 < xs.length:=List.length_pos_iff.2 hxs;rcases n3 with ⟨_,q⟩ | ⟨k,off,c,q,q2⟩
      ·exact absurd q hxs
      ·subst q;have hrun:=run_append_nil (P:=P) w t ty e i zv hk.1 i1 i4 ⟨k,off,none⟩ xs.length c news hnl (fun j u hu=>by rw[Addr.add_lit];exact q2 j u hu) hm (by omega) (by rw[i3];omega);have hge:=grownCap_ge w xs.length 0 e;obtain⟨β',hS,hV⟩:=append_new hT hS1 hfr hDe hpos (ys:=xs) (fr:=g) hcx (arr:=news.toArray++Builtin.zeroCells zv.cells (grownCap w xs.length 0 e - xs.length)) (cap:=grownCap w xs.length 0 e)
        (by rw[Array.size_append,size_zeroCells,hzc,List.size_toArray,hnl,i2,← Nat.add_mul];congr 1;omega) hge (fun j y hy=>by
          have hj:j < news.length:=by rw[n1];exact (List.getElem?_eq_some_iff.1 hy).1
          refine⟨news[j],by rw[get _ _ _ hj];exact List.getElem?_eq_getElem hj,(n2 j y _ hy (List.getElem?_eq_getElem hj)).mono fun b hb hl=>⟨⟨(hokb b hb).1,fun hq=>(hokb b hb).2 (hg hq)⟩,hl,rfl⟩⟩)
       exact⟨_,_,β',hrun,hS,hV⟩
    split at h2
    ·rename_i t0 fl es0;split at h2
     ·rename_i hc2;obtain⟨c1,c2,c3⟩:=hc2;injection h2 with h2;injection h2 with h2 h3;subst h2;subst h3
      rcases VR.sl_inv hs with ⟨_,_,q⟩ | ⟨_,_,_,_,_,q,_⟩
      ·subst q;exact onNil (fun h=>h) h rfl (fun _ hb=>hb) hfree (by simpa[roomy] using c2) c3
      ·exact absurd c1 q
     ·cases h2
    ·rename_i o u n;split at h2
     ·rename_i u2 fr' es hb;split at h2
      ·rename_i hc2;obtain⟨c1,c2,c3,c4,c5,c6⟩:=hc2;subst c1;subst c2;injection h2 with h2;injection h2 with h2 h3;subst h2;subst h3
       have c5':(n+xs.length) * T.bytes≤140737488355328:=by simpa[roomy] using c5
       have hcf:∀ y ∈ es,Conf E.ty u2 y:=(h.obs o _ hb).conf.1;have hless:Sim E w0 ⟨σ.tm,adel o σ.ob⟩ a w β:=h.less (fun _ _ hx=>hx) fun q b hq=>by
        rw[aget_adel] at hq;split at hq
        ·cases hq
        ·exact hq
       have hfr1:St.free ⟨σ.tm,adel o σ.ob⟩ d=true:=by
        simp only[St.free,Bool.and_eq_true] at hfree ⊢;exact⟨hfree.1,freeO_adel hfree.2⟩
       have hokb1:∀ (g:Bool) k,(cxOf E w0 σ w β).okb g k→(cxOf E w0 ⟨σ.tm,adel o σ.ob⟩ w β).okb g k:=fun g k hk=>⟨fun hmu=>hmu.elim (fun z=>hk.1 (.inl z)) fun⟨q,b,q1,q2⟩=>hk.1 (.inr (by
        rw[aget_adel] at q1;split at q1
        ·cases q1
        ·exact⟨q,b,q1,q2⟩)),hk.2⟩
       rcases VR.own_inv hs with ⟨q0,_,q1,q2⟩ | ⟨k,cp,arr,e',g1,g2,g3,g4,g5⟩
       ·
        subst q1;subst q2;have hes:es=[]:=List.eq_nil_of_length_eq_zero c3.symm;subst hes;have:=onNil (g:=fr'&&fr) (fun hq=>by simp at hq;exact hq.2) hless rfl (hokb1 fr) hfr1 (by simpa using c5') (by simpa using c6);rw[Nat.zero_add];exact this
       ·obtain⟨arr2,e2,k1,k2,k3⟩:=row_cells h hb rfl g1;have g2':w.heap[k]? = some (.cells arr e' (0,0)):=g2;rw[k1] at g2';injection g2' with g2';injection g2' with q1 q2 q3;subst q1;subst q2
        have hles:(leavesL es).length=n * T.size:=by rw[c3];exact leavesL_len_const T.size _ fun y hy=>by rw[(hcf y hy).len,hsz]
        have hasz:arr2.size=cp * T.size:=by
         have:(0+cp) * szOf E.ty u2=arr2.size:=g3;rw[← this,hsz,Nat.zero_add]
        have hn:n * T.size≤arr2.size:=by rw[hasz];exact Nat.mul_le_mul_right _ g4
        have g5':vs = .slice (some ⟨k,0,none⟩) n cp:=by rw[g5,Nat.zero_mul]
        subst g5';have hcy:∀ y ∈ es++xs,Conf E.ty u2 y:=fun y hy=>by
         rcases List.mem_append.1 hy with hy | hy
         ·exact hcf y hy
         ·exact hcx y hy
        have hlen:(es++xs).length=n+xs.length:=by rw[List.length_append,c3]
        by_cases hroom:n+xs.length≤cp
        ·
         have hin:n * T.size+news.length≤arr2.size:=by
          rw[hasz,hnl,i2,← Nat.add_mul];exact Nat.mul_le_mul_right _ hroom
         have hone:∀ v ∈ news,oneCell v:=fun v hv=>by
          obtain⟨j,hj,e⟩:=List.getElem_of_mem hv;have hj':j < (leavesL xs).length:=by rw[← n1];exact hj
          rw[← e];exact (n2 j _ _ (List.getElem?_eq_getElem hj') (List.getElem?_eq_getElem hj)).one
         have hst:=run_storeCells_blk P k (0+n * i.size) e2 news 0 w arr2 k1 (by rw[i2];omega) hone;have hrun:(Builtin.append_ #[t,t] ty #[.slice (some ⟨k,0,none⟩) n cp,vx]).run P w = .ok (.slice (some ⟨k,0,none⟩) (n+xs.length) cp) (setBlk w k (.cells (spl arr2 (0+n * i.size+0) news) e2 (0,0))):=by
          rcases n3 with ⟨q,q'⟩ | ⟨k',off,c,q,q2⟩
          ·subst q';have hn0:news=[]:=List.eq_nil_of_length_eq_zero (by rw[hnl];simp);subst hn0;rw[spl,setBlk_self w k _ k1];exact run_append_none t ty u2 i hk.1 i1 _ n cp g4 vx (.inl q)
          ·subst q;exact run_append_in t ty u2 i hk.1 i1 k 0 n xs.length cp hroom hnl (fun j u hu=>by rw[Addr.add_lit];exact q2 j u hu) hst
         have e0:0+n * i.size+0=n * T.size:=by rw[i2];omega
         rw[e0] at hrun;obtain⟨hW,_⟩:=h.write (b':=⟨.row u2,fr'&&fr,es++xs⟩) (arr':=spl arr2 (n * T.size) news) hb g1 k1 (by simp) ⟨hcy,by rw[hsz];exact hpos⟩ (fun j y hy=>by
          show ∃ v,_∧LR E.ty w ((cxOf E w0 σ w β).okb (fr'&&fr)) y v;rw[leavesL_append] at hy;rw[spl_get _ _ _ _ hin];by_cases hj:j < n * T.size
          ·rw[List.getElem?_append_left (by omega)] at hy;obtain⟨v,r1,r2⟩:=k3 j y hy;rw[if_neg (by omega)];exact⟨v,r1,okb_weak (c:=cxOf E w0 σ w β) r2 fun hq=>by simp at hq;exact hq.1⟩
          ·rw[List.getElem?_append_right (by omega),hles] at hy;have hj2:j - n * T.size < news.length:=by rw[n1];exact (List.getElem?_eq_some_iff.1 hy).1
           rw[if_pos (by omega)];exact⟨_,List.getElem?_eq_getElem hj2,okb_weak (c:=cxOf E w0 σ w β) (n2 _ y _ hy (List.getElem?_eq_getElem hj2)) fun hq=>by simp at hq;exact hq.2⟩)
         have hfr2:St.free ⟨σ.tm,aput o ⟨.row u2,fr'&&fr,es++xs⟩ σ.ob⟩ d=true:=by
          simp only[St.free,Bool.and_eq_true] at hfree ⊢;refine⟨hfree.1,?_⟩;simp only[aput,St.free.freeO,ment.mentL,Bool.not_false,Bool.or_true,Bool.true_and];exact freeO_adel hfree.2
         have hM:=hW.move (d:=d) (o:=o) hfr2 (b:=⟨.row u2,fr'&&fr,es++xs⟩) (t:=u2) rfl (by rw[aget_aput,if_pos rfl]) c4;have hadel:adel o (aput o ⟨.row u2,fr'&&fr,es++xs⟩ σ.ob)=adel o σ.ob:=by
          simp only[aput,adel,if_true];exact adel_adel o σ.ob
         simp only[hadel] at hM;refine⟨_,_,_,hrun,hM,?_⟩;have hklt:k < w.heap.size:=(Array.getElem?_eq_some_iff.1 k1).1;have:=OR.own (c:=cxOf E w0 ⟨σ.tm,aput d ⟨.row u2,fr'&&fr,es++xs⟩ (adel o σ.ob)⟩ (setBlk w k (.cells (spl arr2 (n * T.size) news) e2 (0,0))) (fun q=>if q=d then β o else β q))
          d u2 0 (n+xs.length) k cp (spl arr2 (n * T.size) news) e2 (by simp[cxOf];exact g1) (setBlk_same w k _ hklt) (by simp[cxOf,hsz,hasz]) hroom
         rw[Nat.zero_mul] at this;exact this
        ·
         rcases n3 with ⟨_,q⟩ | ⟨k',off,c,q,q2⟩
         ·subst q;exact absurd g4 (by simpa using hroom)
         ·subst q;have hol:(arr2.toList.take (n * T.size)).length=n * i.size:=by rw[i2];simp;omega
          have hfit:=growslice_fits (need:=n+xs.length) (old:=cp) (bytes:=i.bytes) (by omega) (by rw[i3];exact c5');have hrun:=run_append_grow (P:=P) w t ty u2 i zv hk.1 i1 i4 ⟨k,0,none⟩ n cp (arr2.toList.take (n * T.size)) hol (fun j u hu=>by
           have hj:j < n * T.size:=by
            have:=(List.getElem?_eq_some_iff.1 hu).1;rw[hol,i2] at this;exact this
           rw[List.getElem?_take_of_lt hj,Array.getElem?_toList] at hu;rw[Addr.add_lit,cell_blk w k _ _ _ _ k1,Nat.zero_add];exact hu) ⟨k',off,none⟩ xs.length c news hnl (fun j u hu=>by rw[Addr.add_lit];exact q2 j u hu) (by omega) (by omega) hfit
          have hge:=grownCap_ge w (n+xs.length) cp u2;obtain⟨β',hS,hV⟩:=append_new hT hless hfr1 hDe hpos (ys:=es++xs) (fr:=fr'&&fr) hcy
           (arr:=(arr2.toList.take (n * T.size)).toArray++news.toArray++Builtin.zeroCells zv.cells (grownCap w (n+xs.length) cp u2 - (n+xs.length))) (cap:=grownCap w (n+xs.length) cp u2)
           (by rw[Array.size_append,Array.size_append,size_zeroCells,hzc,List.size_toArray,List.size_toArray,hol,hnl,i2,← Nat.add_mul,← Nat.add_mul];congr 1;omega) (by rw[hlen];exact hge) (fun j y hy=>by
             rw[leavesL_append] at hy;have hol':(arr2.toList.take (n * T.size)).length=n * T.size:=by rw[hol,i2]
             by_cases hj:j < n * T.size
             ·rw[List.getElem?_append_left (by omega)] at hy;obtain⟨v,r1,r2⟩:=k3 j y hy;refine⟨v,?_,(okb_weak (c:=cxOf E w0 σ w β) r2 fun (hq:(fr'&&fr)=true)=>by simp at hq;exact hq.1).mono fun b hb hl=>⟨hokb1 _ b hb,hl,rfl⟩⟩;rw[Array.append_assoc,get _ _ _ (by omega),List.getElem?_take_of_lt hj,Array.getElem?_toList];exact r1
             ·rw[List.getElem?_append_right (by omega),hles] at hy;have hj2:j - n * T.size < news.length:=by rw[n1];exact (List.getElem?_eq_some_iff.1 hy).1
              refine⟨news[j - n * T.size],?_,(okb_weak (c:=cxOf E w0 σ w β) (n2 _ y _ hy (List.getElem?_eq_getElem hj2)) fun (hq:(fr'&&fr)=true)=>by simp at hq;exact hq.2).mono fun b hb hl=>⟨hokb1 _ b hb,hl,rfl⟩⟩;rw[Array.append_assoc,Array.getElem?_append_right (by simp only[List.size_toArray];omega),List.size_toArray,hol',get _ _ _ hj2];exact List.getElem?_eq_getElem hj2)
          rw[hlen] at hV;exact⟨_,_,β',hrun,hS,hV⟩
      ·split at h2
       ·rename_i hc2;obtain⟨c1,c2,c3,c4⟩:=hc2;subst c1;subst c2;injection h2 with h2;injection h2 with h2 h3;subst h2;subst h3
        exact app_prefix hT h hfree hk.1 hDe hpos i1 i2 hb hs hcx n1 n2 n3 c3 c4
       ·cases h2
     ·cases h2
    ·cases h2
   ·cases h2
  ·cases hr
 ·cases hr
end
end Go.Abs
end
section
namespace Go.Abs
open Go Go.RowKit
section
variable {P:Program} {E:Env} {w0 w:World} {σ:St} {a:Act} {β:Nat→Option Nat} {x:AV} {ob:List (Nat × Obj)} {d:Nat} {o:Oper}
theorem bnd_sound (h:Sim E w0 σ a w β) (hG:GlobOk E w0) {p:Option Operand} {n l:Nat} (hb:bnd E.G σ p n=some l) :
 (p=none∧l=n)∨∃ y k,p=some y∧a.eval y = .int k (l:Int):=by
 unfold bnd at hb;split at hb
 ·injection hb with hb;exact .inl ⟨rfl,hb.symm⟩
 ·rename_i y;obtain⟨v,h1,h2⟩:=obind_eq hb;have hv:=val_sound h hG h1;split at h2
  ·rename_i k i;split at h2
   ·rename_i h0;injection h2 with h2
    refine .inr ⟨y,k,rfl,?_⟩;rw[VR.int_inv hv,← h2,Int.toNat_of_nonneg h0]
   ·cases h2
  ·cases h2
theorem run_sliceBound {k:IntKind} {l y:Nat} {code:BoundsCode} (h:l≤y):(Instr.sliceBound (.int k (l:Int)) y code).run P w = .ok l w:=by
 have:(0:Int)≤(l:Int)∧(l:Int)≤(y:Int):=⟨by omega,by omega⟩
 simp[Instr.sliceBound,asIntOf,Sem.run_bind,this]
def Bd (v:Option Value) (n l:Nat):Prop:=(v=none∧l=n)∨∃ k,v=some (.int k (l:Int))
theorem run_sliceBounds {s:Bool} {len cap l h:Nat} {lo hi:Option Value} (hl:Bd lo 0 l) (hh:Bd hi len h) (h1:l≤h) (h2:h≤cap) :
 (Instr.sliceBounds s len cap lo hi none).run P w = .ok (l,h,cap) w:=by
 rcases hl with ⟨rfl,rfl⟩ | ⟨k,rfl⟩ <;> rcases hh with ⟨rfl,rfl⟩ | ⟨k',rfl⟩ <;>
  simp[Instr.sliceBounds,Sem.run_bind,run_sliceBound,h1,h2]
theorem run_sliceBounds3 {s:Bool} {len cap l h m:Nat} {lo hi mx:Option Value} {n:Nat} (hl:Bd lo 0 l) {k k':IntKind} (hh:hi=some (.int k (h:Int))) (hm:mx=some (.int k' (m:Int))) (h1:l≤h) (h2:h≤m) (h3:m≤cap) :
 (Instr.sliceBounds s len cap lo hi mx).run P w = .ok (l,h,m) w:=by
 subst hh;subst hm;rcases hl with ⟨rfl,rfl⟩ | ⟨k,rfl⟩ <;>
  simp[Instr.sliceBounds,Sem.run_bind,run_sliceBound,h1,h2,h3]
theorem szEl_eq {ty:Tys} {t u:TypeId} (h:slc.szEl ty t=some u):∃ s b z,ty t=some ⟨.slice u,s,b,z⟩:=by
 unfold slc.szEl at h;split at h
 ·rename_i e s b z hD;injection h with h;subst h;exact⟨s,b,z,hD⟩
 ·cases h
theorem rowLen_le (h:Sim E w0 σ a w β) {o u off n:Nat}:(β o=none→rowLen σ.ob (.own o u off n)=0)∧∀ k arr e cp,β o=some k→w.heap[k]? = some (.cells arr e (0,0))→(off+cp) * szOf E.ty u=arr.size→rowLen σ.ob (.own o u off n)≤off+cp:=by
 unfold rowLen;dsimp only;cases hb:aget o σ.ob with
 | none=>simp
 | some b=>
   obtain⟨r,fr,es⟩:=b;cases r with
   | box _=>simp
   | rop _=>simp
   | row v=>
     dsimp only;split;rotate_left
     ·exact⟨fun _=>rfl,fun _ _ _ _ _ _ _=>Nat.zero_le _⟩
     rename_i hv;subst hv;obtain⟨h1,h2⟩:=h.obs o _ hb;refine⟨fun hn=>?_,fun k arr e cp hk ha hs=>?_⟩
     ·simp only[cxOf,hn] at h2;rw[h2.2];rfl
     ·simp only[cxOf,hk] at h2;obtain⟨_,arr',e',h3,h4⟩:=h2;rw[ha] at h3;injection h3 with h3;injection h3 with h3 h5;subst h3
      have hl:(leavesL es).length=es.length * szOf E.ty v:=leavesL_len_const _ _ fun y hy=>(h1.1 y hy).len
      have hall:(leavesL es).length≤arr.size:=by
       refine Nat.le_of_not_lt fun hlt=>?_
       obtain⟨v,r1,_⟩:=h4 arr.size _ (List.getElem?_eq_getElem hlt);have:=(Array.getElem?_eq_some_iff.1 r1).1;omega
      rw[hl,← hs] at hall;exact Nat.le_of_mul_le_mul_right hall h1.2
theorem cut_sound (hT:Tabs P E.ty) (h:Sim E w0 σ a w β) {t:TypeId} {x y:AV} {l hh:Nat} {m:Option Nat} {rl:Nat} (hrl:rl≤rowLen σ.ob x) (hmrl:m ≠ none→rl=0) {v:Value} (hx:VR (cxOf E w0 σ w β) x v) (hr:slc E.ty t x l hh m rl=some y)
 {lo hi mx:Option Value} (hlo:Bd lo 0 l) (hhi:Bd hi (lenAV x) hh) (hm:(mx=none∧m=none)∨∃ m' k k',m=some m'∧mx=some (.int k (m':Int))∧hi=some (.int k' (hh:Int))) :
 ∃ v',(Instr.sliceAt t v lo hi mx).run P w = .ok v' w∧VR (cxOf E w0 σ w β) y v':=by
 have slice_run:∀ {e:TypeId} {s b:Nat} {z:AV},E.ty t=some ⟨.slice e,s,b,z⟩→∀ (ba:Option Addr) (len cap l h m:Nat) (lo hi mx:Option Value),(Instr.sliceBounds true len cap lo hi mx).run P w = .ok (l,h,m) w→
  ∀ {T:TyD},E.ty e=some T→(Instr.sliceAt t (.slice ba len cap) lo hi mx).run P w = .ok (.slice (if m=l then ba else ba.map (·.add (l * T.size))) (h - l) (m - l)) w:=fun {e s b z} hD ba len cap l h m lo hi mx hb {T} hDe=>by
  have hk:=(hT.ok t _ hD).kind;simp only[kindOk] at hk;have hsz:szOf E.ty e=T.size:=by simp[szOf,hDe]
  simp only[Instr.sliceAt,Instr.slice,Sem.run_bind,run_underlying hk.1,Result.andThen_ok,hb,run_sizeOf_ty hT.ok hDe,hsz,Sem.run_pure]
 unfold slc at hr;split at hr
 ·rename_i o u off n;split at hr
  ·rename_i hc;obtain⟨c1,c2,c3,c4,c5⟩:=hc;obtain⟨s,b,z,hD⟩:=szEl_eq c5;obtain⟨T,hDe⟩:∃ T,E.ty u=some T:=by
    simp only[slc.szOf0,hD] at c4;split at c4
    ·rename_i T hT';exact⟨T,hT'⟩
    ·omega
   have hpos:0 < T.size:=by simpa[slc.szOf0,hD,hDe] using c4
   have hsz:szOf E.ty u=T.size:=by simp[szOf,hDe]
   rcases VR.own_inv hx with ⟨q0,q1,q2,q3⟩ | ⟨k,cp,arr,e',g1,g2,g3,g4,g5⟩
   ·subst q1;subst q2;subst q3;have e0:rl=0:=by have:=(rowLen_le h (o:=o) (u:=u) (off:=0) (n:=0)).1 q0;omega
    have e1:hh=0:=by omega
    have e2:l=0:=by omega
    subst e1;subst e2;split at hr
    ·rename_i m';split at hr
     ·rename_i hq;injection hr with hr;subst hr
      rcases hm with ⟨_,q⟩ | ⟨m2,k,k',q1,q2,q3⟩
      ·cases q
      ·injection q1 with q1;subst q1
       exact⟨_,slice_run hD none 0 0 0 0 m' lo hi mx (run_sliceBounds3 (n:=0) hlo q3 q2 (Nat.le_refl _) hq.1 hq.2) hDe,.undef _⟩
     ·cases hr
    ·rw[if_pos rfl] at hr;injection hr with hr;subst hr
     rcases hm with ⟨q,_⟩ | ⟨m2,k,k',q1,q2,q3⟩
     ·subst q;refine⟨_,slice_run hD none 0 0 0 0 0 lo hi none (run_sliceBounds hlo hhi (Nat.le_refl _) (Nat.le_refl _)) hDe,?_⟩;exact .ownN o u q0
     ·cases q1
   ·subst g5;have e0:rl≤off+cp:=Nat.le_trans hrl ((rowLen_le h (o:=o) (u:=u) (off:=off) (n:=n)).2 k arr e' cp g1 g2 g3);have c3':hh≤cp:=by omega
    split at hr
    ·rename_i m';have e00:=hmrl (by simp);split at hr
     ·rename_i hq;injection hr with hr;subst hr
      rcases hm with ⟨_,q⟩ | ⟨m2,k,k',q1,q2,q3⟩
      ·cases q
      ·injection q1 with q1;subst q1
       exact⟨_,slice_run hD _ n cp l hh m' lo hi mx (run_sliceBounds3 (n:=0) hlo q3 q2 c2 hq.1 (by omega)) hDe,.undef _⟩
     ·cases hr
    ·rcases hm with ⟨q,_⟩ | ⟨m2,k,k',q1,q2,q3⟩
     ·subst q;refine⟨_,slice_run hD _ n cp l hh cp lo hi none (run_sliceBounds hlo hhi c2 (by omega)) hDe,?_⟩;have g3':(off+cp) * T.size=arr.size:=by rw[← hsz];exact g3
      split at hr
      ·rename_i e;subst e;injection hr with hr;subst hr
       have:=OR.own (c:=cxOf E w0 σ w β) o u off hh k cp arr e' g1 g2 g3 (by omega);have e2:(if cp=0 then some (⟨k,off * szOf (cxOf E w0 σ w β).ty u,none⟩:Addr) else (some (⟨k,off * szOf (cxOf E w0 σ w β).ty u,none⟩:Addr)).map (·.add (0 * T.size)))=some ⟨k,off * szOf (cxOf E w0 σ w β).ty u,none⟩:=by
        split
        ·rfl
        ·simp[Addr.add]
       rw[e2];exact this
      ·split at hr
       ·rename_i e1 e2;injection hr with hr;subst hr
        rw[if_neg (by omega)];have:=OR.own (c:=cxOf E w0 σ w β) o u (off+l) (hh - l) k (cp - l) arr e' g1 g2 (by
         show (off+l+(cp - l)) * szOf E.ty u=arr.size;rw[hsz,← g3'];congr 1;omega) (by omega)
        have e3:(some (⟨k,off * szOf (cxOf E w0 σ w β).ty u,none⟩:Addr)).map (·.add (l * T.size))=some ⟨k,(off+l) * szOf (cxOf E w0 σ w β).ty u,none⟩:=by
         have:szOf (cxOf E w0 σ w β).ty u=T.size:=hsz;rw[this,Option.map_some,Addr.add_lit,Nat.add_mul]
        rw[e3];exact this
       ·rename_i e1 e2;injection hr with hr;subst hr
        have e3:hh - l=0:=by omega
        rw[e3];have hex:∃ k2 off2,(if cp=l then some (⟨k,off * szOf (cxOf E w0 σ w β).ty u,none⟩:Addr) else (some (⟨k,off * szOf (cxOf E w0 σ w β).ty u,none⟩:Addr)).map (·.add (l * T.size)))=some ⟨k2,off2,none⟩:=by
         split
         ·exact⟨_,_,rfl⟩
         ·exact⟨_,_,by rw[Option.map_some,Addr.add_lit]⟩
        obtain⟨k2,off2,e4⟩:=hex;rw[e4];exact .cl (.sl u ⟨true,some false,false⟩ [] k2 off2 (cp - l) (fun _=>undef) (Nat.zero_le _) (by simp) (by simp) (by simp) (by simp) (by simp[leavesL]) (by simp[leavesL]))
     ·cases q1
  ·cases hr
 ·rename_i u fl es;split at hr
  ·rename_i hc;obtain⟨c1,c2,c3,c4,c5⟩:=hc;obtain⟨e,s,b,z,hD⟩:∃ e s b z,E.ty t=some ⟨.slice e,s,b,z⟩:=by
    unfold isSlice at c1;split at c1
    ·rename_i e s b z hD;exact⟨e,s,b,z,hD⟩
    ·cases c1
   obtain⟨T,hDe⟩:∃ T,E.ty e=some T:=by
    simp only[slc.szOf0,hD] at c4;split at c4
    ·rename_i T hT';exact⟨T,hT'⟩
    ·omega
   rcases VR.sl_inv hx with ⟨q1,q2,q3⟩ | ⟨k,off,cp,q1,q2,q3,q4,q5,q6⟩
   ·subst q1;subst q3;have e1:hh=0:=by simpa using c3
    have e2:l=0:=by omega
    subst e1;subst e2;split at hr
    ·rename_i m';split at hr
     ·rename_i hq;injection hr with hr;subst hr
      rcases hm with ⟨_,q⟩ | ⟨m2,k,k',q1,q2,q3⟩
      ·cases q
      ·injection q1 with q1;subst q1
       exact⟨_,slice_run hD none 0 0 0 0 m' lo hi mx (run_sliceBounds3 (n:=0) hlo q3 q2 (Nat.le_refl _) hq.1 hq.2) hDe,.undef _⟩
     ·cases hr
    ·injection hr with hr;subst hr
     rcases hm with ⟨q,_⟩ | ⟨m2,k,k',q1,q2,q3⟩
     ·subst q;refine⟨_,slice_run hD none 0 0 0 0 0 lo hi none (run_sliceBounds hlo hhi (Nat.le_refl _) (Nat.le_refl _)) hDe,?_⟩;exact .cl (.slN u _ 0 q2 rfl)
     ·cases q1
   ·subst q1;split at hr
    ·rename_i m';split at hr
     ·rename_i hq;injection hr with hr;subst hr
      rcases hm with ⟨_,q⟩ | ⟨m2,k,k',q1,q2,q3⟩
      ·cases q
      ·injection q1 with q1;subst q1
       exact⟨_,slice_run hD _ es.length cp l hh m' lo hi mx (run_sliceBounds3 (n:=0) hlo q3 q2 c2 hq.1 (by omega)) hDe,.undef _⟩
     ·cases hr
    ·injection hr with hr;subst hr
     rcases hm with ⟨q,_⟩ | ⟨m2,k,k',q1,q2,q3⟩
     ·subst q;refine⟨_,slice_run hD _ es.length cp l hh cp lo hi none (run_sliceBounds hlo hhi c2 (by omega)) hDe,?_⟩;have hlen:((es.drop l).take (hh - l)).length=hh - l:=by simp;omega
      by_cases hemp:hh=l
      ·have e3:hh - l=0:=by omega
       have hex:∃ k2 off2,(if cp=l then some (⟨k,off,none⟩:Addr) else (some (⟨k,off,none⟩:Addr)).map (·.add (l * T.size)))=some ⟨k2,off2,none⟩:=by
        split
        ·exact⟨_,_,rfl⟩
        ·exact⟨_,_,by rw[Option.map_some,Addr.add_lit]⟩
       obtain⟨k2,off2,e4⟩:=hex;rw[e4,e3,List.take_zero];exact .cl (.sl u ⟨fl.fr,fl.nil,false⟩ [] k2 off2 (cp - l) (fun _=>undef) (Nat.zero_le _) q3 (by simp) (by simp) (by simp) (by simp[leavesL]) (by simp[leavesL]))
      ·rw[if_neg (by omega),Option.map_some,Addr.add_lit];have hne:es ≠ []:=by rintro rfl;simp at c3;omega
       have hue:u=e:=by
        rcases c5 with c5 | c5
        ·simp only[slc.szEl,hD] at c5;injection c5 with c5;exact c5.symm
        ·simp at c5;exact absurd c5 hne
       subst hue;have hsz:szOf E.ty u=T.size:=by simp[szOf,hDe]
       have hs:∀ x ∈ es,(leaves x).length=T.size:=fun x hx=>by rw[(q5 x hx).len];exact hsz
       have hall:∀ (j:Nat) (y:AV),(leavesL ((es.drop l).take (hh - l)))[j]? = some y→∃ v,w.cell? ⟨k,off+l * T.size+j,none⟩=some v∧LR E.ty w ((cxOf E w0 σ w β).okb fl.fr) y v:=fun j y hy=>by
        have h1:=leavesL_take_of (hh - l) j hy;rw[leavesL_drop hs] at h1;obtain⟨v,r1,r2⟩:=q6 _ y h1;exact⟨v,by rw[← r1];congr 2;omega,r2⟩
       have:=LR.sl (ty:=E.ty) (w:=w) (okb:=(cxOf E w0 σ w β).okb fl.fr) u ⟨fl.fr,fl.nil,false⟩ ((es.drop l).take (hh - l)) k (off+l * T.size) (cp - l) (fun j=>(w.cell? ⟨k,off+l * T.size+j,none⟩).getD undef)
        (by rw[hlen];omega) q3 (by simp) (fun _=>q4 hne) (fun x hx=>q5 x (List.mem_of_mem_drop (List.mem_of_mem_take hx)))
        (fun j y hy=>by obtain⟨v,r1,r2⟩:=hall j y hy;rw[r1];rfl) (fun j y hy=>by obtain⟨v,r1,r2⟩:=hall j y hy;rw[r1];exact r2)
       rw[hlen] at this;exact .cl this
     ·cases q1
  ·cases hr
 ·rename_i s;split at hr
  ·split at hr
   ·rename_i hc;obtain⟨c1,c2,c3⟩:=hc;injection hr with hr;subst hr
    have e:=VR.str_inv hx;subst e;rcases hm with ⟨q,_⟩ | ⟨m2,k,k',q1,q2,q3⟩
    ·subst q;refine⟨.string (s.extract l hh),?_,.cl (.str _)⟩;unfold isStr at c1;split at c1
     ·rename_i sz b zz hD;have hk:=(hT.ok t _ hD).kind;simp only[kindOk] at hk;have hb:=run_sliceBounds (P:=P) (w:=w) (s:=false) (len:=s.size) (cap:=s.size) hlo hhi c2 c3;simp[Instr.sliceAt,Instr.slice,Sem.run_bind,run_underlying hk,Result.andThen_ok,hb,Sem.run_pure]
     ·cases c1
    ·cases q1
   ·cases hr
  ·cases hr
 ·cases hr
theorem ok_slice (hT:Tabs P E.ty) (h:Sim E w0 σ a w β) (hG:GlobOk E w0) {t:TypeId} {y:Operand} {lo hi mx:Option Operand} (ho:o.op = .slice t y lo hi mx) (hr:ares E d σ (.slice t y lo hi mx)=some (x,ob)) :
 Post E w0 σ a ob x ((execOp a.eval o).run P w):=by
 simp only[ares] at hr;have hexec:(execOp a.eval o)=(do pure (Next.value (← Instr.sliceAt t (a.eval y) (lo.map a.eval) (hi.map a.eval) (mx.map a.eval)))):=by simp[execOp,ho]
 obtain⟨xv,h1,h2⟩:=obind_eq hr;obtain⟨l,h3,h4⟩:=obind_eq h2;obtain⟨hh,h5,h6⟩:=obind_eq h4;have hx:=val_sound h hG h1;have bd:∀ {p:Option Operand} {n l:Nat},bnd E.G σ p n=some l→Bd (p.map a.eval) n l:=fun {p n l} hb=>by
  rcases bnd_sound h hG hb with ⟨q1,q2⟩ | ⟨y,k,q1,q2⟩
  ·subst q1;exact .inl ⟨rfl,q2⟩
  ·subst q1;exact .inr ⟨k,by simp[q2]⟩
 split at h6
 ·obtain⟨v,h7,h8⟩:=obind_eq h6;injection h8 with h8;injection h8 with h8 h9;subst h8;subst h9
  obtain⟨v',r1,r2⟩:=cut_sound hT h (Nat.le_refl _) (by simp) hx h7 (bd h3) (bd h5) (mx:=none) (.inl ⟨rfl,rfl⟩);exact Post.same h (by rw[hexec];exact run_v r1) r2
 ·rename_i mm;split at h6
  ·rename_i his;obtain⟨m,h7,h8⟩:=obind_eq h6;obtain⟨v,h9,h10⟩:=obind_eq h8;injection h10 with h11;injection h11 with h11 h12;subst h11;subst h12
   obtain⟨hy,rfl⟩:=Option.isSome_iff_exists.1 his;have e1:∃ k,(some hy).map a.eval=some (.int k (hh:Int)):=by
    rcases bd h5 with ⟨q,_⟩ | ⟨k,q⟩
    ·cases q
    ·exact⟨k,q⟩
   have e2:∃ k,(some mm).map a.eval=some (.int k (m:Int)):=by
    rcases bd h7 with ⟨q,_⟩ | ⟨k,q⟩
    ·cases q
    ·exact⟨k,q⟩
   obtain⟨k',e1⟩:=e1;obtain⟨k,e2⟩:=e2;obtain⟨v',r1,r2⟩:=cut_sound hT h (Nat.zero_le _) (fun _=>rfl) hx h9 (bd h3) (bd h5) (mx:=(some mm).map a.eval) (.inr ⟨m,k,k',rfl,e2,e1⟩);exact Post.same h (by rw[hexec];exact run_v r1) r2
  ·cases h6
end
end Go.Abs
end
section
namespace Go.Abs
open Go Go.RowKit
section
variable {P:Program} {E:Env} {w0 w:World} {σ:St} {a:Act} {β:Nat→Option Nat} {x:AV} {ob:List (Nat × Obj)} {d:Nat} {o:Oper}
theorem VR.leafO {c:Cx} {x:AV} {v:Value} (h:VR c x v) (hl:leafV x=true):OR c x v:=by cases x <;> first | exact h | cases hl
theorem ok_makeFunc (h:Sim E w0 σ a w β) (hG:GlobOk E w0) {fn:Fn} {first captured:Array Operand} (ho:o.op = .makeFunc fn first captured) (hr:ares E d σ (.makeFunc fn first captured)=some (x,ob)) :
 Post E w0 σ a ob x ((execOp a.eval o).run P w):=by
 simp only[ares] at hr;split at hr
 ·rename_i f;split at hr
  ·rename_i hf;obtain⟨l,h1,h2⟩:=obind_eq hr;split at h2
   ·rename_i hall;injection h2 with h2;injection h2 with h2 h3;subst h2;subst h3
    have hl:=vals_sound h hG captured.toList l h1;have hfirst:first = #[]:=Array.eq_empty_of_size_eq_zero hf
    refine Post.same h (v:= .func (.func f) #[] (captured.map a.eval)) (by simp[execOp,ho,Instr.makeFunc,hfirst]) ?_;refine OR.fn f l _ (by have:=hl.1;simp at this ⊢;exact this.symm) fun i y hy=>?_
    have hi:i < (captured.toList.map a.eval).length:=by rw[← hl.1];exact (List.getElem?_eq_some_iff.1 hy).1
    have e1:(captured.toList.map a.eval)[i]? = some (captured.toList.map a.eval)[i]:=List.getElem?_eq_getElem hi;have e2:=hl.2 i y _ hy e1;have e1':(captured.map a.eval)[i]? = some (captured.toList.map a.eval)[i]:=by
     rw[← Array.getElem?_toList,Array.toList_map];exact e1
    have:(captured.map a.eval).getD i undef=(captured.toList.map a.eval)[i]:=by simp[Array.getD_eq_getD_getElem?,e1']
    rw[this];exact e2.leafO (List.all_eq_true.1 hall y (List.mem_of_getElem? hy))
   ·cases h2
  ·cases hr
 ·cases hr
theorem ok_index (hT:Tabs P E.ty) (h:Sim E w0 σ a w β) (hG:GlobOk E w0) {t:TypeId} {y z:Operand} (ho:o.op = .index t y z) (hr:ares E d σ (.index t y z)=some (x,ob)) :
 Post E w0 σ a ob x ((execOp a.eval o).run P w):=by
 simp only[ares] at hr;obtain⟨p,h1,h2⟩:=obind_eq hr;obtain⟨q,h3,h4⟩:=obind_eq h2;have hp:=val_sound h hG h1;have hq:=val_sound h hG h3;have hexec:(execOp a.eval o)=(do pure (Next.value (← Instr.index t (a.eval y) (a.eval z)))):=by simp[execOp,ho]
 split at h4
 ·rename_i s kk i;have e1:=VR.str_inv hp;have e2:=VR.int_inv hq;split at h4
  ·rename_i hc;obtain⟨c1,c2⟩:=hc;obtain⟨b,h5,h6⟩:=obind_eq h4;injection h6 with h6;injection h6 with h6 h7;subst h6;subst h7
   unfold isStr at c1;split at c1
   ·rename_i sz bb zz hD;have hk:=(hT.ok t _ hD).kind;simp only[kindOk] at hk;refine Post.same h (v:= .int .u8 b.toNat) ?_ (.cl (.int _ _));rw[hexec];refine run_v ?_;unfold Instr.index;simp only[Sem.run_bind,e1,e2,asIntOf,Sem.run_pure,Result.andThen_ok,run_underlying hk];rw[if_pos c2,h5];rfl
   ·cases c1
  ·cases h4
 ·cases h4
def Goes (P:Program) (E:Env) (w0:World) (σ:St) (a:Act) (ob:List (Nat × Obj)) (x:AV) (o:Oper) (w:World):Prop:=
 ∀ (next:Act→World→Prop) (Q:Exit→Act→World→Prop),
   (∀ v w' β',Sim E w0 ⟨σ.tm,ob⟩ a w' β'→VR (cxOf E w0 ⟨σ.tm,ob⟩ w' β') x v→next (a.put o.dst v) w')→o.wp P a w next Q
theorem Post.goes (h:Post E w0 σ a ob x ((execOp a.eval o).run P w)):Goes P E w0 σ a ob x o w:=fun next Q K=>by
 obtain⟨v,w',β',hr,hS,hV⟩:=h;unfold Oper.wp;rcases hr with hr | ⟨hv,hr⟩
 ·rw[hr];exact K v w' β' hS hV
 ·rw[hr];subst hv;exact K undef w' β' hS hV
theorem goes_call (hT:Tabs P E.ty) (hC:CSound P E) (h:Sim E w0 σ a w β) (hG:GlobOk E w0) {c:Call} (ho:o.op = .call c) (hr:ares E d σ (.call c)=some (x,ob))
 (hq:∀ g l,c.callee = .value g→isQ E.Q g=true→vals E.G σ c.args.toList=some l→qcall E d σ (fidOf g) l=some (x,ob)→Goes P E w0 σ a ob x o w):Goes P E w0 σ a ob x o w:=by
 simp only[ares] at hr;split at hr
 ·rename_i g hcal;split at hr
  ·rename_i hisq;obtain⟨l,h1,h2⟩:=obind_eq hr;exact hq g l hcal hisq h1 h2
  obtain⟨gv,h1,h2⟩:=obind_eq hr;obtain⟨l,h3,h4⟩:=obind_eq h2;have hg:=val_sound h hG h1;have hl:=vals_sound h hG c.args.toList l h3;split at h4
  ·rename_i f cs;obtain⟨l',h5,h6⟩:=obind_eq h4;obtain⟨r,h7,h8⟩:=obind_eq h6;split at h8;rotate_left
   ·cases h8
   rename_i hbk;injection h8 with h8;injection h8 with h8 h9;subst h8;subst h9
   obtain⟨hen,hret⟩:=hC.c f l' r h7;obtain⟨T,hTm,hTc,hTb⟩:∃ T:Nat→Prop,(∀ b,¬ (cxOf E w0 σ w β).mu b→T b)∧(closed.closedL (l++cs)=true∨∀ b,T b)∧((∀ b,T b→¬ (cxOf E w0 σ w β).mu b)∨newR r=true):=by
    rcases hbk with hb | hb
    ·exact⟨fun b=>¬ (cxOf E w0 σ w β).mu b,fun _ h=>h,.inl hb,.inl fun _ h=>h⟩
    ·exact⟨fun _=>True,fun _ _=>trivial,.inr fun _=>trivial,.inr hb⟩
   obtain⟨us,e1,e2⟩:∃ us:Array Value,a.eval g = .func (.func f) #[] us∧(us.size=cs.length∧∀ (i:Nat) (y:AV),cs[i]? = some y→VR1 (cxOf E w0 σ w β) y (us.getD i undef)):=by
    have hg':OR (cxOf E w0 σ w β) (.fn f cs) (a.eval g):=hg;generalize a.eval g=gg at hg';cases hg' with
    | cl hg'=>
      cases hg' with
      | fn f cs us q1 q2=>exact⟨us,rfl,q1,fun i y hy=>by
         have:=q2 i y hy;exact (VR1_leaf this.leaf).2 (.cl (this.mono fun b hb hlt=>⟨⟨hb.1,fun hf=>hb.2 (by simp[frOf])⟩,hlt,rfl⟩))⟩
    | fn f cs us q1 q2=>exact⟨us,rfl,q1,fun i y hy=>(VR1_leaf (q2 i y hy).leafV).2 (q2 i y hy)⟩
   have hrun:(execOp a.eval o).run P w = .ok (.enter f (c.args.map a.eval++us)) w:=by
    obtain⟨fn,q1,q2,q3⟩:=hen;obtain⟨body,hb⟩:=Option.isSome_iff_exists.1 q2;simp[execOp,ho,resolve,hcal,e1,Deferred.ofValue,invoke,callFunc,q1,q3,hb]
   have hvs:F2 (CR1 E.ty w (fun _=>T)) l' (c.args.map a.eval++us).toList:=by
    obtain⟨e3,e4⟩:=expoL_get 30 (l++cs) l' h5;have hlen:l.length=(c.args.toList.map a.eval).length:=hl.1;refine⟨by rw[e3];simp[hlen,e2.1],fun i y v hy hv=>?_⟩;have hi:i < (l++cs).length:=by rw[← e3];exact (List.getElem?_eq_some_iff.1 hy).1
    obtain⟨k',y',_,q1,q2⟩:=e4 i (l++cs)[i] (by simp[hi]);rw[hy] at q1;injection q1 with q1;subst q1
    have hVR:VR (cxOf E w0 σ w β) (l++cs)[i] v:=by
     simp only[Array.toList_append,Array.toList_map] at hv;by_cases hil:i < l.length
     ·rw[List.getElem?_append_left (by rw[← hlen];exact hil)] at hv;exact hl.2 i _ v (by rw[List.getElem_append_left hil];simp) hv
     ·rw[List.getElem?_append_right (by rw[← hlen];omega),← hlen] at hv;have hic:i - l.length < cs.length:=by simp at hi;omega
      have:=e2.2 (i - l.length) cs[i - l.length] (by simp[hic]);have hu:us.getD (i - l.length) undef=v:=by
       rw[Array.getD_eq_getD_getElem?,← Array.getElem?_toList,hv];rfl
      rw[hu] at this;rw[List.getElem_append_right (by omega)];exact VR_one this
    have hne:∀ vs,(l++cs)[i] ≠ .tup vs:=fun vs e=>by
     rw[e] at q2;cases k' <;> simp[expo] at q2
    have hV1:VR1 (cxOf E w0 σ w β) (l++cs)[i] v:=by
     generalize (l++cs)[i]=q at *;cases q <;> first | exact hVR | exact absurd rfl (hne _)
    exact expo_sound hT h hTm (hTc.imp (fun hc=>closedL_mem hc _ (List.getElem_mem hi)) id) q2 hV1
   intro next Q K;unfold Oper.wp;rw[hrun];refine Calls.mono (hret T w _ hvs fun g t x hg=>(h.old (hG g t x hg)).mono fun b hb hl=>⟨hTm b hb.1,hl,rfl⟩) fun e w' he=>?_
   obtain⟨v,e3,e4,e5⟩:=he;subst e3;exact K v w' β (h.grow e4) (CR.vr h e4 hTb e5)
  ·cases h4
 ·rename_i hcal;obtain⟨l,h3,h4⟩:=obind_eq hr;have hl:=vals_sound h hG c.args.toList l h3;refine Post.goes ?_;split at h4
  ·rename_i s x' t t' hty;split at h4
   ·rename_i e;subst e;have h2:c.args.toList.length=2:=by have:=hl.1;simpa using this.symm
    obtain⟨a0,a1,ha⟩:∃ a0 a1,c.args.toList=[a0,a1]:=by
     cases hq:c.args.toList with
     | nil=>rw[hq] at h2;cases h2
     | cons p r=>
       cases r with
       | nil=>rw[hq] at h2;cases h2
       | cons q r=>
         cases r with
         | nil=>exact⟨p,q,rfl⟩
         | cons=>rw[hq] at h2;simp at h2
    rw[ha] at hl;obtain⟨v,w',β',r1,r2,r3⟩:=ok_append (ty:=o.type) hT h h4 (hl.2 0 _ _ rfl rfl) (hl.2 1 _ _ rfl rfl);refine⟨v,w',β',.inl ?_,r2,r3⟩;have e1:c.args.map a.eval = #[a.eval a0,a.eval a1]:=by
     apply Array.ext';simp[ha]
    have e2:c.argTypes = #[t,t]:=by
     apply Array.ext';simp[hty]
    have:execOp a.eval o=(do pure (Next.value (← Builtin.append_ #[t,t] o.type #[a.eval a0,a.eval a1]))):=by
     simp[execOp,ho,resolve,hcal,invoke,builtin,e1,e2]
    rw[this];exact run_v r1
   ·cases h4
  ·cases h4
 ·rename_i hcal;obtain⟨l,h3,h4⟩:=obind_eq hr;have hl:=vals_sound h hG c.args.toList l h3;refine Post.goes ?_;split at h4
  ·rename_i k p k' q;split at h4
   ·rename_i e;subst e;injection h4 with h4;injection h4 with h4 h5;subst h4;subst h5
    have h2:c.args.toList.length=2:=by have:=hl.1;simpa using this.symm
    obtain⟨a0,a1,ha⟩:∃ a0 a1,c.args.toList=[a0,a1]:=by
     cases hq:c.args.toList with
     | nil=>rw[hq] at h2;cases h2
     | cons p r=>
       cases r with
       | nil=>rw[hq] at h2;cases h2
       | cons q r=>
         cases r with
         | nil=>exact⟨p,q,rfl⟩
         | cons=>rw[hq] at h2;simp at h2
    rw[ha] at hl;have v0:=VR.int_inv (hl.2 0 _ _ rfl rfl);have v1:=VR.int_inv (hl.2 1 _ _ rfl rfl);have e1:c.args.map a.eval = #[.int k p,.int k q]:=by
     apply Array.ext';simp[ha,v0,v1]
    refine Post.same h (v:= .int k (if q > p then q else p)) ?_ (.cl (.int _ _));have:execOp a.eval o=(do pure (Next.value (← Builtin.max_ c.argTypes o.type #[.int k p,.int k q]))):=by
     simp[execOp,ho,resolve,hcal,invoke,builtin,e1]
    rw[this];refine run_v ?_;simp[Builtin.max_,Builtin.max2]
   ·cases h4
  ·cases h4
 ·rename_i hcal;obtain⟨l,h3,h4⟩:=obind_eq hr;have hl:=vals_sound h hG c.args.toList l h3;refine Post.goes ?_;have hrun0:∀ (n:Int),(Builtin.len_ c.argTypes o.type (c.args.map a.eval)).run P w = .ok (.int .i64 n) w→(execOp a.eval o).run P w = .ok (.value (.int .i64 n)) w:=fun n hn=>by
   have:execOp a.eval o=(do pure (Next.value (← Builtin.len_ c.argTypes o.type (c.args.map a.eval)))):=by
    simp[execOp,ho,resolve,hcal,invoke,builtin]
   rw[this];exact run_v hn
  obtain⟨n,h5,h6⟩:=obind_eq h4;injection h6 with h6;injection h6 with h6 h7;subst h6;subst h7
  refine Post.same h (v:= .int .i64 n) (hrun0 n ?_) (.cl (.int _ _));have arg:∀ y,l=[y]→∃ v,(c.args.map a.eval)[0]? = some v∧VR (cxOf E w0 σ w β) y v:=fun y hy=>by
   subst hy;have hi:0 < (c.args.toList.map a.eval).length:=by rw[← hl.1];simp
   have e1:(c.args.toList.map a.eval)[0]? = some (c.args.toList.map a.eval)[0]:=List.getElem?_eq_getElem hi;exact⟨_,by rw[← Array.getElem?_toList,Array.toList_map];exact e1,hl.2 0 y _ rfl e1⟩
  unfold lenOf at h5;split at h5
  ·rename_i t u fl es hty;split at h5
   ·rename_i hsl;injection h5 with h5;subst h5
    obtain⟨v,e1,e2⟩:=arg _ rfl;have et:c.argTypes[0]? = some t:=by rw[← Array.getElem?_toList,hty];rfl
    unfold isSlice at hsl;split at hsl
    ·rename_i e s b zz hD;have hk:=(hT.ok t _ hD).kind;simp only[kindOk] at hk;rcases VR.sl_inv e2 with ⟨q1,_,q3⟩ | ⟨k,off,cp,q1,_⟩
     ·subst q1;subst q3;simp only[Builtin.len_,et,e1,Sem.run_bind,run_underlying hk.1,Result.andThen_ok];rfl
     ·subst q1;simp only[Builtin.len_,et,e1,Sem.run_bind,run_underlying hk.1,Result.andThen_ok];rfl
    ·cases hsl
   ·cases h5
  ·rename_i t o' u off n' hty;split at h5
   ·rename_i hsl;injection h5 with h5;subst h5
    obtain⟨v,e1,e2⟩:=arg _ rfl;have et:c.argTypes[0]? = some t:=by rw[← Array.getElem?_toList,hty];rfl
    unfold isSlice at hsl;split at hsl
    ·rename_i e s b zz hD;have hk:=(hT.ok t _ hD).kind;simp only[kindOk] at hk;rcases VR.own_inv e2 with ⟨_,_,q2,q3⟩ | ⟨k,cp,arr,ee,_,_,_,_,q5⟩
     ·subst q2;subst q3;simp only[Builtin.len_,et,e1,Sem.run_bind,run_underlying hk.1,Result.andThen_ok];rfl
     ·subst q5;simp only[Builtin.len_,et,e1,Sem.run_bind,run_underlying hk.1,Result.andThen_ok];rfl
    ·cases hsl
   ·cases h5
  ·rename_i t s hty;split at h5
   ·rename_i hst;injection h5 with h5;subst h5
    obtain⟨v,e1,e2⟩:=arg _ rfl;have et:c.argTypes[0]? = some t:=by rw[← Array.getElem?_toList,hty];rfl
    unfold isStr at hst;split at hst
    ·rename_i sz b zz hD;have hk:=(hT.ok t _ hD).kind;simp only[kindOk] at hk;have e3:=VR.str_inv e2;subst e3;simp only[Builtin.len_,et,e1,Sem.run_bind,run_underlying hk,Result.andThen_ok];rfl
    ·cases hst
   ·cases h5
  ·cases h5
 ·cases hr
end
end Go.Abs
end
section
namespace Go.Abs
open Go Go.RowKit
theorem num_get:∀ (l:List Nat) (b o n:Nat),aget o (num b l)=some n→b≤n∧l[n - b]? = some o
 | [],b,o,n,h=>by simp[num,aget] at h
 | x::r,b,o,n,h=>by
   simp only[num,aget] at h;split at h
   ·rename_i e;injection h with h;subst h;subst e;simp
   ·obtain⟨h1,h2⟩:=num_get r (b+1) o n h;refine⟨by omega,?_⟩;have:n - b=(n - (b+1))+1:=by omega
    rw[this,List.getElem?_cons_succ];exact h2
theorem num_mem:∀ (l:List Nat) (b o:Nat),o ∈ l→∃ n,aget o (num b l)=some n
 | x::r,b,o,h=>by
   simp only[num,aget];by_cases e:x=o
   ·exact⟨b,if_pos e⟩
   ·rw[if_neg e];exact num_mem r (b+1) o ((List.mem_cons.1 h).resolve_left (Ne.symm e))
theorem rn_num {l:List Nat} {b o:Nat} (h:o ∈ l):b≤rn (num b l) o∧l[rn (num b l) o - b]? = some o:=by
 obtain⟨n,hn⟩:=num_mem l b o h;have:=num_get l b o n hn;simpa[rn,hn] using this
theorem lends_get {ob:List (Nat × Obj)}:∀ (olds:List Nat) (b:Nat) (l:List (Nat × Obj)),lends ob (num b olds)=some l→∀ n x,aget n l=some x→
 ∃ o,b≤n∧olds[n - b]? = some o∧aget o ob=some x∧okLend x=true
 | [],b,l,h,n,x,hx=>by simp[num,lends] at h;subst h;simp[aget] at hx
 | o::r,b,l,h,n,x,hx=>by
   simp only[num,lends] at h;obtain⟨y,h1,h2⟩:=obind_eq h;split at h2
   ·rename_i hk;obtain⟨l',h3,h4⟩:=obind_eq h2;injection h4 with h4;subst h4
    simp only[aget] at hx;split at hx
    ·rename_i e;injection hx with hx;subst hx;subst e
     exact⟨o,Nat.le_refl _,by simp,h1,hk⟩
    ·obtain⟨o',q1,q2,q3⟩:=lends_get r (b+1) l' h3 n x hx;refine⟨o',by omega,?_,q3⟩;have:n - b=(n - (b+1))+1:=by omega
     rw[this,List.getElem?_cons_succ];exact q2
   ·cases h2
theorem lends_all {ob:List (Nat × Obj)}:∀ (olds:List Nat) (b:Nat) (l:List (Nat × Obj)),lends ob (num b olds)=some l→∀ i o,olds[i]? = some o→∃ x,aget (b+i) l=some x∧aget o ob=some x
 | [],b,l,h,i,o,hi=>by simp at hi
 | o::r,b,l,h,i,o',hi=>by
   simp only[num,lends] at h;obtain⟨y,h1,h2⟩:=obind_eq h;split at h2
   ·obtain⟨l',h3,h4⟩:=obind_eq h2;injection h4 with h4;subst h4
    cases i with
    | zero=>simp at hi;subst hi;exact⟨y,by simp[aget],h1⟩
    | succ i=>
      obtain⟨x,q1,q2⟩:=lends_all r (b+1) l' h3 i o' (by simpa using hi);refine⟨x,?_,q2⟩;simp only[aget];rw[if_neg (by omega),← q1];congr 1;omega
   ·cases h2
theorem pick_get {ob:List (Nat × Obj)}:∀ (os:List Nat) (l:List (Nat × Obj)),pick ob os=some l→∀ o x,aget o l=some x→aget o ob=some x
 | [],l,h,o,x,hx=>by simp[pick] at h;subst h;simp[aget] at hx
 | p::r,l,h,o,x,hx=>by
   simp only[pick] at h;obtain⟨y,h1,h2⟩:=obind_eq h;obtain⟨l',h3,h4⟩:=obind_eq h2;injection h4 with h4;subst h4
   simp only[aget] at hx;split at hx
   ·rename_i e;injection hx with hx;subst hx;subst e;exact h1
   ·exact pick_get r l' h3 o x hx
theorem fsts_get {α:Type}:∀ (l:List (Nat × α)) (o:Nat),o ∈ fsts l→∃ x,aget o l=some x
 | (p,x)::r,o,h=>by
   simp only[fsts,List.mem_cons] at h;simp only[aget];by_cases e:p=o
   ·exact⟨x,if_pos e⟩
   ·rw[if_neg e];exact fsts_get r o (h.resolve_left (Ne.symm e))
theorem nodupB_iff:∀ (l:List Nat),nodupB l=true→l.Nodup
 | [],_=>List.nodup_nil
 | x::r,h=>by
   simp only[nodupB,Bool.and_eq_true,Bool.not_eq_true'] at h;refine List.nodup_cons.2 ⟨fun hm=>?_,nodupB_iff r h.2⟩;have:=h.1;rw[List.contains_iff_mem.2 hm] at this;cases this
theorem within_iff {l:List Nat}:∀ (r:List Nat),within l r=true→∀ o ∈ r,o ∈ l
 | [],_,o,h=>by cases h
 | x::r,h,o,ho=>by
   simp only[within,Bool.and_eq_true] at h;rcases List.mem_cons.1 ho with e | ho
   ·subst e;simpa using h.1
   ·exact within_iff r h.2 o ho
theorem fsts_num (b:Nat):∀ (l:List Nat),fsts (num b l)=l
 | []=>rfl
 | x::r=>by simp only[num,fsts];rw[fsts_num (b+1) r]
theorem freeAll_num {σ:St}:∀ (l:List Nat) (b:Nat),freeAll σ (num b l)=true→∀ i,i < l.length→σ.free (b+i)=true
 | [],b,_,i,hi=>by simp at hi
 | x::r,b,h,i,hi=>by
   simp only[num,freeAll,Bool.and_eq_true] at h;cases i with
   | zero=>exact h.1
   | succ i=>
     have:=freeAll_num r (b+1) h.2 i (by simpa using hi);rw[show b+(i+1)=b+1+i by omega];exact this
theorem aget_aputs:∀ (l b:List (Nat × Obj)) (n:Nat),aget n (aputs l b)=match aget n l with | some x=>some x | none=>aget n b
 | [],b,n=>rfl
 | (m,x)::r,b,n=>by
   simp only[aputs,aget_aput,aget];split
   ·rfl
   ·exact aget_aputs r b n
theorem aget_adels' (ds:List Nat) (l:List (Nat × Obj)) (o:Nat):aget o (adels ds l)=if o ∈ ds then none else aget o l:=by
 induction ds with
 | nil=>simp[adels]
 | cons d r ih=>
   simp only[adels,aget_adel,ih,List.mem_cons];by_cases h1:d=o
   ·simp[h1]
   ·rw[if_neg h1];by_cases h2:o ∈ r
    ·simp[h2]
    ·simp[h2,Ne.symm h1]
mutual
theorem ids_mem (x:AV) (l:List Nat) (o:Nat):(o ∈ l→o ∈ ids x l)∧(ment o x=true→o ∈ ids x l):=by
 cases x with
 | own p t i n=>
   simp only[ids,ment,beq_iff_eq];split
   ·rename_i h;exact⟨fun h=>h,fun e=>by subst e;simpa using h⟩
   ·exact⟨fun h=>by simp[h],fun e=>by subst e;simp⟩
 | ptr p r q=>
   simp only[ids,ment,beq_iff_eq];split
   ·rename_i h;exact⟨fun h=>h,fun e=>by subst e;simpa using h⟩
   ·exact⟨fun h=>by simp[h],fun e=>by subst e;simp⟩
 | fn f cs=>simp only[ids,ment];exact idsL_mem cs l o
 | st t fs=>simp only[ids,ment];exact idsL_mem fs l o
 | tup vs=>simp only[ids,ment];exact idsL_mem vs l o
 | _=>exact⟨fun h=>h,fun h=>by simp[ment] at h⟩
theorem idsL_mem (x:List AV) (l:List Nat) (o:Nat):(o ∈ l→o ∈ ids.idsL x l)∧(ment.mentL o x=true→o ∈ ids.idsL x l):=by
 cases x with
 | nil=>exact⟨fun h=>h,fun h=>by simp[ment.mentL] at h⟩
 | cons y r=>
   simp only[ids.idsL,ment.mentL,Bool.or_eq_true];have h1:=ids_mem y l o;have h2:=idsL_mem r (ids y l) o;exact⟨fun h=>h2.1 (h1.1 h),fun h=>h.elim (fun h=>h2.1 (h1.2 h)) h2.2⟩
end
mutual
theorem ids_nodup (x:AV) (l:List Nat) (h:l.Nodup):(ids x l).Nodup:=by
 cases x with
 | own p t i n=>
   simp only[ids];split
   ·exact h
   ·rename_i hc;refine List.nodup_append.2 ⟨h,by simp,fun a ha b hb=>?_⟩;simp at hb;subst hb;rintro rfl;exact hc (by simpa using ha)
 | ptr p r q=>
   simp only[ids];split
   ·exact h
   ·rename_i hc;refine List.nodup_append.2 ⟨h,by simp,fun a ha b hb=>?_⟩;simp at hb;subst hb;rintro rfl;exact hc (by simpa using ha)
 | fn f cs=>simp only[ids];exact idsL_nodup cs l h
 | st t fs=>simp only[ids];exact idsL_nodup fs l h
 | tup vs=>simp only[ids];exact idsL_nodup vs l h
 | _=>exact h
theorem idsL_nodup (x:List AV) (l:List Nat) (h:l.Nodup):(ids.idsL x l).Nodup:=by
 cases x with
 | nil=>exact h
 | cons y r=>simp only[ids.idsL];exact idsL_nodup r _ (ids_nodup y l h)
end
theorem nodup_idx {l:List Nat} (h:l.Nodup) {i j:Nat} {o:Nat} (hi:l[i]? = some o) (hj:l[j]? = some o):i=j:=by
 obtain⟨h1,h2⟩:=List.getElem?_eq_some_iff.1 hi;obtain⟨h3,h4⟩:=List.getElem?_eq_some_iff.1 hj;exact (List.getElem_inj h).1 (h2.trans h4.symm)
theorem renL_eq (pr:List (Nat × Nat)):∀ l,ren.renL pr l=l.map (ren pr)
 | []=>rfl
 | x::r=>by simp only[ren.renL,List.map_cons];rw[renL_eq pr r]
theorem ren_leafV (pr:List (Nat × Nat)) (x:AV):leafV (ren pr x)=leafV x:=by cases x <;> rfl
theorem ren_closed_leaf (pr:List (Nat × Nat)) {x:AV} (h:closed x=true) (hl:leafV x=true):ren pr x=x:=by
 cases x <;> first | rfl | (simp[closed] at h;done) | cases hl | skip
 rename_i f cs;simp only[closed,List.isEmpty_iff] at h;subst h;rfl
theorem LR.ren {ty:Tys} {w:World} {okb:Nat→Prop} {x:AV} {v:Value} (h:LR ty w okb x v) (pr:List (Nat × Nat)):Abs.ren pr x=x:=by
 induction h with
 | fn f cs us h1 h2 ih=>
   simp only[Abs.ren,renL_eq];congr 1
   refine List.ext_getElem? fun i=>?_
   rw[List.getElem?_map];cases hc:cs[i]? with
   | none=>rfl
   | some y=>simp[ih i y hc]
 | _=>rfl
theorem leavesL_map2 {g:AV→AV}:∀ (fs:List AV),(∀ x ∈ fs,leaves (g x)=(leaves x).map g)→leavesL (fs.map g)=(leavesL fs).map g
 | [],_=>rfl
 | x::r,h=>by
   simp only[List.map_cons,leavesL,List.map_append];rw[h x (by simp),leavesL_map2 r fun y hy=>h y (by simp[hy])]
theorem Conf.ren {ty:Tys} {t:TypeId} {x:AV} (h:Conf ty t x) (pr:List (Nat × Nat)):Conf ty t (Abs.ren pr x)∧leaves (Abs.ren pr x)=(leaves x).map (Abs.ren pr):=by
 induction h with
 | leaf h1 h2 h3 h4=>
   exact⟨.leaf h1 h2 h3 (by rw[ren_leafV];exact h4),by rw[leaves_leaf h4,leaves_leaf (by rw[ren_leafV];exact h4)];rfl⟩
 | @st t ts s b z fs h1 h2 h3 h4 ih=>
   have hk:∀ x ∈ fs,leaves (Abs.ren pr x)=(leaves x).map (Abs.ren pr):=fun x hx=>by
    obtain⟨i,hi,e⟩:=List.getElem_of_mem hx;have hx':fs[i]? = some x:=by rw[List.getElem?_eq_getElem hi,e]
    exact (ih i x ts[i] hx' (by rw[List.getElem?_eq_getElem])).2
   refine⟨?_,?_⟩
   ·simp only[Abs.ren,renL_eq];refine .st h1 (by simpa using h2) h3 fun i x u hx hu=>?_
    rw[List.getElem?_map] at hx;cases hf:fs[i]? with
    | none=>rw[hf] at hx;cases hx
    | some y=>rw[hf] at hx;injection hx with hx;subst hx;exact (ih i y u hf hu).1
   ·simp only[Abs.ren,renL_eq,leaves];exact leavesL_map2 fs hk
 | ar h1 h2 h3 h4 h5 _=>
   refine⟨.ar h1 h2 h3 h4 h5,?_⟩;simp only[Abs.ren,leaves];have:∀ (l:List AV),(∀ z ∈ l,Abs.ren pr z=z)→l=l.map (Abs.ren pr):=fun l hl=>by
    induction l with
    | nil=>rfl
    | cons a r ih=>rw[List.map_cons,hl a (by simp),← ih fun z hz=>hl z (by simp[hz])]
   refine this _ fun z hz=>?_
   obtain⟨q,h6,h7⟩:=mem_leavesL hz;have h8:=flat_leaf _ q (Nat.lt_succ_self _) (h5 q h6) z h7;exact ren_closed_leaf pr h8.1 h8.2.2.2
theorem Mono0.orR {c c':Cx} (m:Mono0 c c') {pr:List (Nat × Nat)} {x:AV} {v:Value} (h:OR c x v) (hβ:∀ o,ment o x=true→c'.β (rn pr o)=c.β o):OR c' (ren pr x) v:=by
 induction h with
 | undef v=>exact .undef v
 | cl h=>rw[h.ren pr];exact .cl (m.lr h)
 | ownN o t h=>exact .ownN _ t (by rw[hβ o (by simp[ment])];exact h)
 | own o t off n k cp arr e h1 h2 h3 h4=>
   obtain⟨arr',h5,h6⟩:=m.rows k arr e h2;have:=OR.own (c:=c') (rn pr o) t off n k cp arr' e (by rw[hβ o (by simp[ment])];exact h1) h5 (by rw[m.ty,h6];exact h3) h4
   rwa [m.ty] at this
 | ptr o r p k d h1 h2=>exact .ptr _ r p k d (by rw[hβ o (by simp[ment])];exact h1) (by rw[m.ty];exact h2)
 | fn f cs vs h1 _ ih=>
   simp only[ren,renL_eq];refine .fn f _ vs (by simpa using h1) fun i x hx=>?_
   rw[List.getElem?_map] at hx;cases hc:cs[i]? with
   | none=>rw[hc] at hx;cases hx
   | some y=>
     rw[hc] at hx;injection hx with hx;subst hx
     refine ih i y hc fun o ho=>hβ o ?_
     simp only[ment];cases hm:ment.mentL o cs with
     | true=>rfl
     | false=>rw[mentL_get o cs hm i y hc] at ho;cases ho
theorem F2.mapL {R R':AV→Value→Prop} {g:AV→AV} {xs:List AV} {vs:List Value} (h:F2 R xs vs) (hg:∀ (i:Nat) (x:AV) (v:Value),xs[i]? = some x→vs[i]? = some v→R x v→R' (g x) v):F2 R' (xs.map g) vs:=by
 refine⟨by simpa using h.1,fun i y v hy hv=>?_⟩;rw[List.getElem?_map] at hy;cases hc:xs[i]? with
 | none=>rw[hc] at hy;cases hy
 | some x=>rw[hc] at hy;injection hy with hy;subst hy;exact hg i x v hc hv (h.2 i x v hc hv)
theorem Mono0.vr1R {c c':Cx} (m:Mono0 c c') {pr:List (Nat × Nat)} {x:AV} {v:Value} (h:VR1 c x v) (hβ:∀ o,ment o x=true→c'.β (rn pr o)=c.β o):VR1 c' (ren pr x) v:=by
 have hβ':∀ o,c'.β (rn pr o)=c.β o∨ment o x=false:=fun o=>by
  cases hm:ment o x with
  | true=>exact .inl (hβ o hm)
  | false=>exact .inr rfl
 have key:∀ t,Conf c.ty t x→∀ vs:Array Value,F2 (OR c) (leaves x) vs.toList→Conf c'.ty t (ren pr x)∧F2 (OR c') (leaves (ren pr x)) vs.toList:=fun t hc vs hF=>by
  obtain⟨h1,h2⟩:=hc.ren pr;refine⟨by rw[m.ty];exact h1,?_⟩;rw[h2];refine F2.mapL hF fun i y u hy hu hr=>m.orR hr fun o ho=>?_
  rcases hβ' o with h | h
  ·exact h
  ·rw[ment_leaf hc o h y (List.mem_of_getElem? hy)] at ho;cases ho
 cases x with
 | st t fs=>obtain⟨vs,e,hc,hF⟩:=h;obtain⟨h1,h2⟩:=key t hc vs hF;exact⟨vs,e,h1,h2⟩
 | ar t es=>obtain⟨vs,e,hc,hF⟩:=h;obtain⟨h1,h2⟩:=key t hc vs hF;exact⟨vs,e,h1,h2⟩
 | tup _=>exact h.elim
 | _=>exact m.orR h hβ
theorem Mono0.vrR {c c':Cx} (m:Mono0 c c') {pr:List (Nat × Nat)} {x:AV} {v:Value} (h:VR c x v) (hβ:∀ o,ment o x=true→c'.β (rn pr o)=c.β o):VR c' (ren pr x) v:=by
 cases x with
 | tup xs=>
   obtain⟨vs,e,hF⟩:=h;simp only[ren,renL_eq];refine⟨vs,e,F2.mapL hF fun i y u hy hu hr=>m.vr1R hr fun o ho=>hβ o ?_⟩;simp only[ment];cases hm:ment.mentL o xs with
   | true=>rfl
   | false=>rw[mentL_get o xs hm i y hy] at ho;cases ho
 | st t fs=>exact VR_one (m.vr1R (x:= .st t fs) h hβ)
 | ar t es=>exact VR_one (m.vr1R (x:= .ar t es) h hβ)
 | _=>exact VR_one (m.vr1R (show VR1 c _ v from h) hβ)
theorem Mono0.obj {c c':Cx} (m:Mono0 c c') {o o':Nat} {b:Obj} (h:ObR c o b) (hk:okLend b=true) (hβ:c'.β o'=c.β o) (hsame:∀ k,c.β o=some k→c'.w.heap[k]? = c.w.heap[k]?) (hnew:∀ k,c.β o=some k→c.new k→c'.new k):ObR c' o' b:=by
 obtain⟨h1,h2⟩:=h;refine⟨by rw[m.ty];exact h1,?_⟩;rw[hβ];split
 ·rename_i hn;rw[hn] at h2;exact h2
 ·rename_i k hs;rw[hs] at h2;obtain⟨a,arr,e,h3,h4⟩:=h2;refine⟨hnew k hs a,arr,e,by rw[hsame k hs];exact h3,fun j x hx=>?_⟩;obtain⟨v,h5,h6⟩:=h4 j x hx;refine⟨v,h5,?_⟩;unfold Abs.cellR at h6 ⊢;unfold ConfB at h1;cases hr:b.r with
  | rop t=>simp[okLend,hr] at hk
  | row t=>rw[hr] at h6;exact m.lr h6
  | box t=>
    rw[hr] at h6 h1;obtain⟨y,e1,e2⟩:=h1;simp only[okLend,hr,e1,closed.closedL,Bool.and_true] at hk;rw[e1] at hx;simp only[leavesL,List.append_nil] at hx;have hc:=(leaf_closed e2).1 hk x (List.mem_of_getElem? hx);have:=h6.lr hc (fr:=frOf x) (fun hf=>by
     have hl:leafV x=true:=by
      rcases h6 with _ | _ | _ | _ | _ | _ <;> first | rfl | exact LR.leaf ‹_›
     cases x <;> first | rfl | exact hf | cases hl | (simp[closed] at hc))
    exact .cl (m.lr this)
section
variable {P:Program} {E:Env} {w0 w:World} {σ:St} {a:Act} {β:Nat→Option Nat} {x:AV} {ob:List (Nat × Obj)} {d:Nat} {o:Oper}
theorem enter_run (h:Sim E w0 σ a w β) (hG:GlobOk E w0) {c:Call} (ho:o.op = .call c) {g:Operand} (hcal:c.callee = .value g) {f:FuncId} {cs l:List AV} (h1:σ.val E.G g=some (.fn f cs))
 (h3:vals E.G σ c.args.toList=some l) (hen:Entr P f) :
 ∃ us:Array Value,(execOp a.eval o).run P w = .ok (.enter f (c.args.map a.eval++us)) w∧F2 (VR (cxOf E w0 σ w β)) (l++cs) (c.args.map a.eval++us).toList:=by
 have hg:=val_sound h hG h1;have hl:=vals_sound h hG c.args.toList l h3;obtain⟨us,e1,e2⟩:∃ us:Array Value,a.eval g = .func (.func f) #[] us∧(us.size=cs.length∧∀ (i:Nat) (y:AV),cs[i]? = some y→VR1 (cxOf E w0 σ w β) y (us.getD i undef)):=by
  have hg':OR (cxOf E w0 σ w β) (.fn f cs) (a.eval g):=hg;generalize a.eval g=gg at hg';cases hg' with
  | cl hg'=>
    cases hg' with
    | fn f cs us q1 q2=>exact⟨us,rfl,q1,fun i y hy=>by
       have:=q2 i y hy;exact (VR1_leaf this.leaf).2 (.cl (this.mono fun b hb hlt=>⟨⟨hb.1,fun hf=>hb.2 (by simp[frOf])⟩,hlt,rfl⟩))⟩
  | fn f cs us q1 q2=>exact⟨us,rfl,q1,fun i y hy=>(VR1_leaf (q2 i y hy).leafV).2 (q2 i y hy)⟩
 refine⟨us,?_,?_⟩
 ·obtain⟨fn,q1,q2,q3⟩:=hen;obtain⟨body,hb⟩:=Option.isSome_iff_exists.1 q2;simp[execOp,ho,resolve,hcal,e1,Deferred.ofValue,invoke,callFunc,q1,q3,hb]
 ·have hlen:l.length=(c.args.toList.map a.eval).length:=hl.1;refine⟨by simp[hlen,e2.1],fun i y v hy hv=>?_⟩;simp only[Array.toList_append,Array.toList_map] at hv;by_cases hil:i < l.length
  ·rw[List.getElem?_append_left (by rw[← hlen];exact hil)] at hv;rw[List.getElem?_append_left hil] at hy;exact hl.2 i _ v hy hv
  ·rw[List.getElem?_append_right (by rw[← hlen];omega),← hlen] at hv;rw[List.getElem?_append_right (by omega)] at hy;have:=e2.2 (i - l.length) y hy;have hu:us.getD (i - l.length) undef=v:=by
    rw[Array.getD_eq_getD_getElem?,← Array.getElem?_toList,hv];rfl
   rw[hu] at this;exact VR_one this
theorem goes_mcallX (hC:CSound P E) (h:Sim E w0 σ a w β) (hG:GlobOk E w0) {c:Call} (ho:o.op = .call c) {g:Operand} (hcal:c.callee = .value g) {f:FuncId} {cs l:List AV} (h1:σ.val E.G g=some (.fn f cs))
 (h3:vals E.G σ c.args.toList=some l) (X:Nat) (hr:(obind (lends σ.ob (num lentB (ids.idsL (l++cs) []))) fun ob0=>obind (E.M f (ren.renL (num lentB (ids.idsL (l++cs) [])) (l++cs)) ob0) (mback X σ (num lentB (ids.idsL (l++cs) []))))=some (x,ob)):Goes P E w0 σ a ob x o w:=by
 obtain⟨ob0,h4,h5⟩:=obind_eq hr;obtain⟨⟨r,ob1⟩,h6,h7⟩:=obind_eq h5;unfold mback at h7;dsimp only at h7;split at h7;rotate_left
 ·cases h7
 rename_i hc;obtain⟨c1,c2,c3⟩:=hc;obtain⟨l1,h8,h9⟩:=obind_eq h7;injection h9 with h9;injection h9 with h9 h10;subst h9;subst h10
 obtain⟨hen,hret⟩:=hC.m f _ ob0 r ob1 h6;obtain⟨us,hrun,hvs⟩:=enter_run (P:=P) h hG ho hcal h1 h3 hen;have hnd:(ids.idsL (l++cs) []).Nodup:=idsL_nodup _ _ List.nodup_nil;have hment:∀ (i:Nat) (y:AV),(l++cs)[i]? = some y→∀ q,ment q y=true→q ∈ ids.idsL (l++cs) []:=fun i y hy q hq=>(idsL_mem (l++cs) [] q).2 (by
  cases hm:ment.mentL q (l++cs) with
  | true=>rfl
  | false=>rw[mentL_get q _ hm i y hy] at hq;cases hq)
 generalize ids.idsL (l++cs) []=olds at *;have c1':=nodupB_iff _ c1;have c3':=within_iff _ c3;have hkey:∀ q,q ∈ fsts ob1→∃ y,aget q ob1=some y:=fun q hq=>fsts_get ob1 q hq
 have hfree:∀ n,X≤n→n - X < (fsts ob1).length→σ.free n=true:=fun n hn1 hn2=>by
  have:=freeAll_num (σ:=σ) (fsts ob1) X c2 (n - X) hn2
  rwa [show X+(n - X)=n by omega] at this
 generalize fsts ob1=keys at *;obtain⟨β0,hβ0⟩:∃ β0:Nat→Option Nat,β0=fun n=>if lentB≤n then (match olds[n - lentB]? with | some q=>β q | none=>none) else none:=⟨_,rfl⟩
 obtain⟨okA',hokA⟩:∃ okA':Nat→Prop,okA'=fun k=>¬ (cxOf E w0 σ w β).mu k:=⟨_,rfl⟩
 obtain⟨lent',hlent⟩:∃ lent':Nat→Prop,lent'=fun k=>∃ q b,q ∈ olds∧aget q σ.ob=some b∧β q=some k:=⟨_,rfl⟩
 obtain⟨lo',hlo0⟩:∃ lo':Option Nat,lo'=some (lowOf E.lo w0.heap.size):=⟨_,rfl⟩
 have hlo:lowOf lo' w.heap.size=lowOf E.lo w0.heap.size:=by
  have:=lowOf_le E.lo w0.heap.size;have:=h.below.size;subst hlo0;exact Nat.min_eq_left (by omega)
 have hb0:∀ n q,lentB≤n→olds[n - lentB]? = some q→β0 n=β q:=fun n q h1 h2=>by subst hβ0;simp[h1,h2]
 have blk:∀ q b k,aget q σ.ob=some b→β q=some k→(cxOf E w0 σ w β).new k∧k < w.heap.size:=fun q b k h1 h2=>by
  have:=(h.obs q b h1).blk;simp only[cxOf,h2] at this;obtain⟨h3,arr,e,h4,_⟩:=this;exact⟨h3,(Array.getElem?_eq_some_iff.1 h4).1⟩
 have m0:Mono0 (cxOf E w0 σ w β) (mcx E.ty lo' okA' lent' w.heap.size ob0 w β0):={
  ty:=rfl,base:=hlo,size:=Nat.le_refl _
  keep:=fun b hb hl=>⟨fun hmu=>by
   rcases hmu with hmu | ⟨n,y,h1,h2⟩
   ·exact hmu.2 (by rw[hokA];exact hb)
   ·obtain⟨q,q1,q2,q3,_⟩:=lends_get olds lentB ob0 h4 n y h1;rw[hb0 n q q1 q2] at h2;exact hb (.inr ⟨q,y,q3,h2⟩),rfl⟩
  rows:=fun b arr e hb=>⟨arr,hb,rfl⟩ }
 have hobs:∀ n b,aget n ob0=some b→ObR (mcx E.ty lo' okA' lent' w.heap.size ob0 w β0) n b:=fun n b hn=>by
  obtain⟨q,q1,q2,q3,q4⟩:=lends_get olds lentB ob0 h4 n b hn;refine m0.obj (h.obs q b q3) q4 (hb0 n q q1 q2) (fun _ _=>rfl) fun k hk hnew=> .inr ⟨?_,?_⟩
  ·rw[hlent];exact⟨q,b,List.mem_of_getElem? q2,q3,hk⟩
  ·rw[hokA];exact fun hn=>hn (.inr ⟨q,b,q3,hk⟩)
 have hinj:Inj ob0 β0:=fun n n' b b' k h1 h2 k1 k2=>by
  obtain⟨q,q1,q2,q3,_⟩:=lends_get olds lentB ob0 h4 n b h1;obtain⟨q',q1',q2',q3',_⟩:=lends_get olds lentB ob0 h4 n' b' h2;rw[hb0 n q q1 q2] at k1;rw[hb0 n' q' q1' q2'] at k2;have:=h.inj q q' b b' k q3 q3' k1 k2;subst this;have:=nodup_idx hnd q2 q2';omega
 have hargs:F2 (VR (mcx E.ty lo' okA' lent' w.heap.size ob0 w β0)) (ren.renL (num lentB olds) (l++cs)) (c.args.map a.eval++us).toList:=by
  rw[renL_eq];refine F2.mapL hvs fun i y v hy hv hr=>m0.vrR hr fun q hq=>?_
  have hm:=hment i y hy q hq;obtain⟨r1,r2⟩:=rn_num (b:=lentB) hm;exact hb0 _ q r1 r2
 have hglob:∀ g t x,E.G g=some (t,x)→LR E.ty w okA' (.ro false t x) (.pointer (some ⟨g,0,none⟩)):=fun g t x hg=>
  (h.old (hG g t x hg)).mono fun b hb hl=>⟨by rw[hokA];exact hb.1,hl,rfl⟩
 intro next Q K;unfold Oper.wp;rw[hrun];refine Calls.mono (hret lo' okA' lent' w β0 _ hobs hinj hargs hglob) fun e w' he=>?_
 obtain⟨v,β',e1,hb,hob1,hinj1,hr1⟩:=he;subst e1;obtain⟨β1,hβ1⟩:∃ β1:Nat→Option Nat,β1=fun n=>if X≤n∧n - X < keys.length then (match keys[n - X]? with | some q=>β' q | none=>none) else β n:=⟨_,rfl⟩
 have b1in:∀ n q,X≤n→keys[n - X]? = some q→β1 n=β' q:=fun n q h1 h2=>by
  subst hβ1;have:n - X < keys.length:=(List.getElem?_eq_some_iff.1 h2).1;dsimp only;rw[if_pos ⟨h1,this⟩,h2]
 have b1out:∀ n,¬ (X≤n∧n - X < keys.length)→β1 n=β n:=fun n hn=>by subst hβ1;simp only[if_neg hn]
 have b1T:∀ t y,aget t σ.tm=some y→∀ q,ment q y=true→β1 q=β q:=fun t y hy q hq=>b1out q fun hn=>by
  have hf:=hfree q hn.1 hn.2;simp only[St.free,Bool.and_eq_true] at hf;rw[freeT_get hf.1 t y hy] at hq;cases hq
 have get:∀ n y,aget n (aputs l1 (adels (fsts (num lentB olds)) σ.ob))=some y→(∃ q,X≤n∧keys[n - X]? = some q∧aget q ob1=some y∧okLend y=true)∨(¬ (X≤n∧n - X < keys.length)∧n ∉ olds∧aget n σ.ob=some y):=fun n y hn=>by
  rw[aget_aputs] at hn;split at hn
  ·rename_i z hz;injection hn with hn;subst hn
   obtain⟨q,q1,q2,q3,q4⟩:=lends_get keys X l1 h8 n z hz;exact .inl ⟨q,q1,q2,q3,q4⟩
  ·rename_i hz;rw[aget_adels',fsts_num] at hn;split at hn
   ·cases hn
   ·rename_i hno;refine .inr ⟨fun hin=>?_,hno,hn⟩;obtain⟨z,z1,_⟩:=lends_all keys X l1 h8 (n - X) keys[n - X] (by simp[hin.2]);rw[show X+(n - X)=n by omega,hz] at z1;cases z1
 have newb:∀ q y k,aget q ob1=some y→β' q=some k→w.heap.size≤k∨(lent' k∧¬ okA' k):=fun q y k h1 h2=>by
  have:=(hob1 q y h1).blk;simp only[mcx,h2] at this;exact this.1
 have nmu:∀ b,¬ (cxOf E w0 σ w β).mu b→b < w.heap.size→¬ (cxOf E w0 ⟨σ.tm,aputs l1 (adels (fsts (num lentB olds)) σ.ob)⟩ w' β1).mu b:=fun b hb2 hlt hmu=>by
  rcases hmu with z | ⟨n,y,h1,h2⟩
  ·exact hb2 (.inl z)
  ·rcases get n y h1 with ⟨q,q1,q2,q3,_⟩ | ⟨q1,q2,q3⟩
   ·rw[b1in n q q1 q2] at h2;rcases newb q y b q3 h2 with h3 | h3
    ·omega
    ·exact h3.2 (by rw[hokA];exact hb2)
   ·rw[b1out n q1] at h2;exact hb2 (.inr ⟨n,y,q3,h2⟩)
 have m1:Mono0 (cxOf E w0 σ w β) (cxOf E w0 ⟨σ.tm,aputs l1 (adels (fsts (num lentB olds)) σ.ob)⟩ w' β1):={
  ty:=rfl,base:=rfl,size:=hb.size
  keep:=fun b hb2 hlt=>⟨nmu b hb2 hlt,hb.block b hlt fun hl=>hl.2 (by rw[hokA];exact hb2)⟩
  rows:=hb.rows }
 have m2:Mono0 (mcx E.ty lo' okA' lent' w.heap.size ob1 w' β') (cxOf E w0 ⟨σ.tm,aputs l1 (adels (fsts (num lentB olds)) σ.ob)⟩ w' β1):={
  ty:=rfl,base:=hlo.symm,size:=Nat.le_refl _
  keep:=fun b hb2 hlt=>⟨fun hmu=>by
   rcases hmu with z | ⟨n,y,h1,h2⟩
   ·have hs:=h.below.size;exact hb2 (.inl ⟨by have:=z.1;omega,by rw[hokA];exact fun hA=>hA (.inl z)⟩)
   ·rcases get n y h1 with ⟨q,q1,q2,q3,_⟩ | ⟨q1,q2,q3⟩
    ·rw[b1in n q q1 q2] at h2;exact hb2 (.inr ⟨q,y,q3,h2⟩)
    ·rw[b1out n q1] at h2;exact hb2 (.inl ⟨(blk n y b q3 h2).2,by rw[hokA];exact fun hA=>hA (.inr ⟨n,y,q3,h2⟩)⟩),rfl⟩
  rows:=fun b arr e hb2=>⟨arr,hb2,rfl⟩ }
 have lnew:∀ k,lent' k→(cxOf E w0 σ w β).new k:=fun k hk=>by
  rw[hlent] at hk;obtain⟨q,b,_,q1,q2⟩:=hk;exact (blk q b k q1 q2).1
 refine K v w' β1 ?_ (m2.vrR hr1 fun q hq=>?_);rotate_left
 ·have hm:=c3' q ((ids_mem r [] q).2 hq);obtain⟨r1,r2⟩:=rn_num (b:=X) hm;exact b1in _ q r1 r2
 exact {
  below:=h.below.trans ⟨hb.os,hb.tape,hb.output,hb.size,fun k hk hl=>hb.block k (by have:=h.below.size;omega) fun hq=>by
   rcases lnew k hq.1 with h1 | h1
   ·omega
   ·exact hl h1,hb.rows⟩
  size:=h.size,defers:=h.defers.to fun k hk=>by
   rw[hb.block k (Array.getElem?_eq_some_iff.1 hk).1 fun hq=>by
    have hl:=hq.1;rw[hlent] at hl;obtain⟨q,b,_,q1,q2⟩:=hl;have:=(h.obs q b q1).blk;simp only[cxOf,q2] at this;obtain⟨_,arr,e,h3,_⟩:=this;rw[hk] at h3;cases h3]
   exact hk
  tms:=fun t y hy=>⟨(h.tms t y hy).1,m1.vr (h.tms t y hy).2 (b1T t y hy)⟩
  obs:=fun n y hn=>by
   rcases get n y hn with ⟨q,q1,q2,q3,q4⟩ | ⟨q1,q2,q3⟩
   ·refine m2.obj (hob1 q y q3) q4 (b1in n q q1 q2) (fun _ _=>rfl) fun k hk hnew=>?_
    rcases hnew with h1 | h1
    ·exact .inl (Nat.le_trans h.below.size h1)
    ·exact lnew k h1.1
   ·have m:Mono (cxOf E w0 σ w β) (cxOf E w0 ⟨σ.tm,aputs l1 (adels (fsts (num lentB olds)) σ.ob)⟩ w' β1):={ m1 with new:=rfl }
    refine m.obR (h.obs n y q3) (fun q hq=>b1out q fun hin=>?_) (b1out n q1) fun k hk=>hb.block k (blk n y k q3 hk).2 fun hq=>?_
    ·have hf:=hfree q hin.1 hin.2;simp only[St.free,Bool.and_eq_true] at hf;by_cases e:n=q
     ·subst e;exact q1 hin
     ·rw[freeO_get hf.2 n y q3 e] at hq;cases hq
    ·have h1:=hq.1;rw[hlent] at h1;obtain⟨q,b,r1,r2,r3⟩:=h1;have:=h.inj n q y b k q3 r2 hk r3;subst this;exact q2 r1
  inj:=fun n n' y y' k h1 h2 k1 k2=>by
   have cross:∀ n n' y y',(∃ q,X≤n∧keys[n - X]? = some q∧aget q ob1=some y∧okLend y=true)→(¬ (X≤n'∧n' - X < keys.length)∧n' ∉ olds∧aget n' σ.ob=some y')→β1 n=some k→β1 n'=some k→False:=fun n n' y y' ⟨q,q1,q2,q3,_⟩ ⟨p1,p2,p3⟩ k1 k2=>by
    rw[b1in n q q1 q2] at k1;rw[b1out n' p1] at k2;have hl:=(blk n' y' k p3 k2).2;rcases newb q y k q3 k1 with h3 | h3
    ·omega
    ·have h4:=h3.1;rw[hlent] at h4;obtain⟨p,b,r1,r2,r3⟩:=h4;have:=h.inj n' p y' b k p3 r2 k2 r3;subst this;exact p2 r1
   rcases get n y h1 with hA | hA <;> rcases get n' y' h2 with hB | hB
   ·obtain⟨q,q1,q2,q3,_⟩:=hA;obtain⟨q',q1',q2',q3',_⟩:=hB;rw[b1in n q q1 q2] at k1;rw[b1in n' q' q1' q2'] at k2;have:=hinj1 q q' y y' k q3 q3' k1 k2;subst this;have:=nodup_idx c1' q2 q2';omega
   ·exact (cross n n' y y' hA hB k1 k2).elim
   ·exact (cross n' n y' y hB hA k2 k1).elim
   ·rw[b1out n hA.1] at k1;rw[b1out n' hB.1] at k2;exact h.inj n n' y y' k hA.2.2 hB.2.2 k1 k2 }
theorem goes_mcall (hC:CSound P E) (h:Sim E w0 σ a w β) (hG:GlobOk E w0) {c:Call} (ho:o.op = .call c) {g:Operand} (hcal:c.callee = .value g) {f:FuncId} {cs l:List AV} (h1:σ.val E.G g=some (.fn f cs))
 (h3:vals E.G σ c.args.toList=some l) (hr:mcall E d σ f (l++cs)=some (x,ob)):Goes P E w0 σ a ob x o w:=
 goes_mcallX hC h hG ho hcal h1 h3 (recvB d) hr
mutual
theorem ren_nil (x:AV):ren [] x=x:=by
 cases x with
 | own o t i n=>rfl
 | ptr o r p=>rfl
 | fn f cs=>simp only[ren];rw[renL_nil cs]
 | st t fs=>simp only[ren];rw[renL_nil fs]
 | tup vs=>simp only[ren];rw[renL_nil vs]
 | _=>rfl
theorem renL_nil (l:List AV):ren.renL [] l=l:=by
 cases l with
 | nil=>rfl
 | cons x r=>simp only[ren.renL];rw[ren_nil x,renL_nil r]
end
theorem qback_eq {q:AV × List (Nat × Obj)} (h:qback d σ q=some (x,ob)):mback d σ [] q=some (x,ob):=by
 unfold qback at h;split at h
 ·rename_i o b hq;split at h
  ·rename_i hc;obtain⟨c1,c2,c3⟩:=hc;unfold mback;simp only[hq,fsts,num,nodupB,freeAll,c1,c3,lends,aget,c2,obind,List.contains_nil,Bool.not_false,Bool.and_self,and_self,if_true,adels,aputs];exact h
  ·cases h
 ·cases h
theorem goes_qcall (hC:CSound P E) (h:Sim E w0 σ a w β) (hG:GlobOk E w0) {c:Call} (ho:o.op = .call c) {g:Operand} (hcal:c.callee = .value g) (hq:isQ E.Q g=true) {l:List AV}
 (h3:vals E.G σ c.args.toList=some l) (hr:qcall E d σ (fidOf g) l=some (x,ob)):Goes P E w0 σ a ob x o w:=by
 obtain⟨f,rfl⟩:∃ f,g = .func f:=by
  cases g with
  | func f=>exact⟨f,rfl⟩
  | _=>cases hq
 unfold qcall at hr;split at hr
 ·rename_i hi;obtain⟨q,h4,h5⟩:=obind_eq hr;have hi':ids.idsL (l++[]) []=[]:=by rw[List.append_nil];exact List.isEmpty_iff.1 hi
  refine goes_mcallX hC h hG ho hcal (f:=f) (cs:=[]) rfl h3 d ?_;rw[hi'];simp only[num,lends,obind_some,List.append_nil,renL_nil];rw[show E.M f l []=some q from h4];exact qback_eq h5
 ·cases hr
end
end Go.Abs
end
