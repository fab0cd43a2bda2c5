/- A part of a proof. -/
import Derived.Laws.AppendOwn
import Derived.LoopN
import Derived.Orders
import Derived.Test.YtbdbjpdlcemeaaaGreatDoorRu00
set_option linter.unusedSimpArgs false
set_option linter.unusedVariables false
section
namespace Go.Abs
open Go Go.RowKit
structure dk (P:Program) (ty:bX):Prop where
 ok:jA P ty
 st:∀ t ts s b z,ty t=some ⟨.struct ts,s,b,z⟩→∀ u ∈ ts,∃ D,ty u=some D
 ar:∀ t n e s b z,ty t=some ⟨.array n e,s,b,z⟩→∃ D,ty e=some D
 pos:∀ t D,ty t=some D→0 < D.size
 sl:∀ t e s b z,ty t=some ⟨.slice e,s,b,z⟩→∃ D,ty e=some D
 eq:∀ t ts s b z,ty t=some ⟨.struct ts,s,b,z⟩→G_ P t=true
theorem qE {ty:bX} {r:RT} {p q:List Nat} {u:TypeId} {d e:Nat} (h:r.di ty p=some u) (hd:ky ty r p=some d) (he:fX ty u q=some e):ky ty r (p++q)=some (d+e):=by
 cases r with
 | box t=>exact iY p q h hd he
 | row t=>
   cases p with
   | nil=>simp[RT.di] at h
   | cons i p=>
     simp only[RT.di,ky,List.cons_append] at h hd ⊢;split at hd
     ·rename_i d' qA;injection hd with hd;subst hd
      rw[iY p q h qA he];simp[Nat.add_assoc]
     ·cases hd
 | oQ t=>
   cases p with
   | nil=>simp[RT.di] at h
   | cons i p=>
     simp only[RT.di,ky,List.cons_append] at h hd ⊢;split at hd
     ·rename_i d' qA;injection hd with hd;subst hd
      rw[iY p q h qA he];simp[Nat.add_assoc]
     ·cases hd
theorem nS (k o n:Nat):(⟨k,o,none⟩:Addr).add n=⟨k,o+n,none⟩:=vW k o n
theorem VR.jL {c:Cx} {o:Nat} {t:TypeId} {off n:Nat} {v:Value} (h:VR c (.own o t off n) v) :
 (c.β o=none∧off=0∧n=0∧v = .slice none 0 0)∨
 ∃ k cp arr e,c.β o=some k∧c.w.heap[k]? = some (.cells arr e (0,0))∧(off+cp) * aH c.ty t=arr.size∧n≤cp∧v = .slice (some ⟨k,off * aH c.ty t,none⟩) n cp:=by
 cases h with
 | cl h=>cases h
 | l8 o t h=>exact .inl ⟨h,rfl,rfl,rfl⟩
 | own o t off n k cp arr e h1 h2 h3 h4=>exact .inr ⟨k,cp,arr,e,h1,h2,h3,h4,rfl⟩
theorem VR.lk {c:Cx} {t:TypeId} {fl:Fl} {es:List AV} {v:Value} (h:VR c (.sl t fl es) v) :
 (es=[]∧fl.nil ≠ some false∧v = .slice none 0 0)∨
 ∃ k off cp,v = .slice (some ⟨k,off,none⟩) es.length cp∧es.length≤cp∧fl.nil ≠ some true∧(es ≠ []→c.okb fl.fr k∧k < c.w.heap.size)∧(∀ x ∈ es,br c.ty t x)∧
   ∀ (j:Nat) (y:AV),(ay es)[j]? = some y→∃ u,c.w.cell? ⟨k,off+j,none⟩=some u∧LR c.ty c.w (c.okb fl.fr) y u:=by
 cases h with
 | cl h=>
   cases h with
   | sx t fl cc h1 h2=>subst h2;exact .inl ⟨rfl,h1,rfl⟩
   | sl t fl es eQ off cc vs h1 h2 h3 h4 h5 h6 h7=>exact .inr ⟨eQ,off,cc,rfl,h1,h2,h4,h5,fun j y hy=>⟨vs j,h6 j y hy,h7 j y hy⟩⟩
section
variable {P:Program} {E:Env} {w0 w:World} {σ:St} {a:Act} {β:Nat→Option Nat} {x:AV} {ob:List (Nat × Obj)} {d:Nat} {o:Oper}
theorem tw (hT:dk P E.ty) {s:TypeId} {ts:List TypeId} {sz bb:Nat} {zz:AV} (hD:E.ty s=some ⟨.struct ts,sz,bb,zz⟩) {f:Nat} {u:TypeId} (hu:ts[f]? = some u) {v:Value} {k dd:Nat}
 (e1:v = .pointer (some ⟨k,dd,none⟩)):(Instr.fieldAt s v f).run P w = .ok (.pointer (some ⟨k,dd+((ts.take f).map (aH E.ty)).sum,none⟩)) w:=by
 have hk:=(hT.ok s _ hD).kind;simp only[kindOk] at hk;obtain⟨fields,k1,k2,k3⟩:=hk;have hi:f < fields.size:=by rw[k2];exact (List.getElem?_eq_some_iff.1 hu).1
 have hf:fields[f]? = some fields[f]:=by simp[hi]
 obtain⟨g1,g2⟩:=k3 f _ hf;rw[hu] at g1;injection g1 with g1
 obtain⟨Du,Lv⟩:=hT.st s ts sz bb zz hD u (List.mem_of_getElem? hu);have gq:0 < aH E.ty u:=by have:=hT.pos u Du Lv;simpa[aH,Lv] using this
 unfold Instr.fieldAt;simp only[Sem.run_bind,run_underlying k1,Result.andThen_ok,hf,e1,Instr.sureAddr,Sem.run_pure];unfold fieldPlace;simp only[Sem.run_bind,← g1,cj hT.ok Lv,Result.andThen_ok];rw[if_neg (by omega)];simp only[Sem.run_pure,Result.andThen_ok,nS,g2]
theorem Bf (hT:dk P E.ty) (h:bG E w0 σ a w β) (hG:bj E w0) {s:TypeId} {y:Operand} {f:Nat} (ho:o.op = .fieldAddr s y f) (hr:aZ E d σ (.fieldAddr s y f)=some (x,ob)) :
 b9 E w0 σ a ob x ((execOp a.eval o).run P w):=by
 simp only[aZ] at hr;obtain⟨q,h1,h2⟩:=aq hr;have hq:=bt h hG h1;have dm:(execOp a.eval o)=(do pure (Next.value (← Instr.fieldAt s (a.eval y) f))):=by simp[execOp,ho]
 split at h2
 ·rename_i o' r p;split at h2
  ·rename_i lH;split at h2
   ·rename_i ts sz bb zz hD;split at h2
    ·rename_i hf;injection h2 with h2;injection h2 with h2 h3;subst h2;subst h3
     obtain⟨k,dd,e1,e2,e3⟩:=VR.kF hq;have hu:ts[f]? = some ts[f]:=by simp[hf]
     refine b9.same h (v:= .pointer (some ⟨k,dd+((ts.take f).map (aH E.ty)).sum,none⟩)) ?_
      (.ptr _ _ _ k _ e2 (qE lH e3 (by simp only[fX,aK,hD,hu];rfl)))
     rw[dm];exact bT (tw hT hD hu e1)
    ·cases h2
   ·cases h2
  ·cases h2
 ·rename_i fr u t fs;split at h2
  ·rename_i e0;subst e0;split at h2
   ·rename_i ts sz bb zz hD;obtain⟨u',hu,h3⟩:=aq h2;obtain⟨y',hy',h4⟩:=aq h3;injection h4 with h4;injection h4 with h4 h5;subst h4;subst h5
    obtain⟨k,dd,e1,e2,e3,e4,e5⟩:=VR.Be hq;obtain⟨D,Lv,_⟩:∃ D,E.ty u=some D∧True:=by obtain⟨D,hD'⟩:=e4.ty;exact⟨D,hD',trivial⟩
    have hut:u=t:=by
     cases e4 with
     | leaf _ _ _ q4=>cases q4
     | st _ _ _ _=>rfl
    subst hut;have e4':br E.ty u (.st u fs):=e4;obtain⟨_,q2,q3,q4⟩:=e4'.Lp hD;have hc:=q4 f y' u' hy' hu;refine b9.same h (v:= .pointer (some ⟨k,dd+((ts.take f).map (aH E.ty)).sum,none⟩)) ?_ (VR.Ln e2 e3 hc fun j z hz=>?_)
    ·rw[dm];exact bT (tw hT hD hu e1)
    ·have hj:j < aH E.ty u':=by rw[← hc.len];exact (List.getElem?_eq_some_iff.1 hz).1
     have:=ic fs ts q2 (fun i x u hx hu=>(q4 i x u hx hu).len) f y' u' hy' hu j hj;obtain⟨v,g1,g2⟩:=e5 (((ts.take f).map (aH E.ty)).sum+j) z (by simp only[leaves];rw[this];exact hz);exact⟨v,by rw[← g1];congr 2;omega,g2⟩
   ·cases h2
  ·cases h2
 ·cases h2
theorem Lw (hT:dk P E.ty) (h:bG E w0 σ a w β) (hG:bj E w0) {s:TypeId} {y:Operand} {f:Nat} (ho:o.op = .field s y f) (hr:aZ E d σ (.field s y f)=some (x,ob)) :
 b9 E w0 σ a ob x ((execOp a.eval o).run P w):=by
 simp only[aZ] at hr;obtain⟨q,h1,h2⟩:=aq hr;have hq:=bt h hG h1;have dm:(execOp a.eval o)=(do pure (Next.value (← Instr.field s (a.eval y) f))):=by simp[execOp,ho]
 split at h2
 ·rename_i t fs;split at h2
  ·rename_i e0;subst e0;obtain⟨y',hy',h4⟩:=aq h2;injection h4 with h4;injection h4 with h4 h5;subst h4;subst h5
   obtain⟨vs,e1,e2,e3⟩:=hq
   replace e2:br E.ty t (.st t fs):=e2
   cases e2 with
   | leaf _ _ _ q4=>cases q4
   | @st _ ts sz bb zz _ hD q2 q3 q4=>
     obtain⟨u,hu⟩:∃ u,ts[f]? = some u:=⟨ts[f]'(by rw[← q2];exact (List.getElem?_eq_some_iff.1 hy').1),by simp⟩
     have hc:=q4 f y' u hy' hu;have hk:=(hT.ok t _ hD).kind;simp only[kindOk] at hk;obtain⟨fields,k1,k2,k3⟩:=hk;have hi:f < fields.size:=by rw[k2];exact (List.getElem?_eq_some_iff.1 hu).1
     have hf:fields[f]? = some fields[f]:=by simp[hi]
     obtain⟨g1,g2⟩:=k3 f _ hf;rw[hu] at g1;injection g1 with g1
     obtain⟨Du,Lv⟩:=hc.ty;have kh:∀ (j:Nat) (z:AV),(leaves y')[j]? = some z→∃ v,vs[((ts.take f).map (aH E.ty)).sum+j]? = some v∧OR (aK E w0 σ w β) z v:=fun j z hz=>by
      have hj:j < aH E.ty u:=by rw[← hc.len];exact (List.getElem?_eq_some_iff.1 hz).1
      have:=ic fs ts q2 (fun i x u hx hu=>(q4 i x u hx hu).len) f y' u hy' hu j hj;obtain⟨v,r1,r2⟩:=e3.get (j:=((ts.take f).map (aH E.ty)).sum+j) (x:=z) (by simp only[leaves];rw[this];exact hz);exact⟨v,by simpa using r1,r2⟩
     have U5:=hc.vY Lv;have gb:(Instr.field t (a.eval y) f).run P w=(part u vs ((ts.take f).map (aH E.ty)).sum).run P w:=by
      unfold Instr.field;simp only[Sem.run_bind,run_underlying k1,Result.andThen_ok,hf,e1,asAgg,Sem.run_pure,← g1,g2]
     generalize ((ts.take f).map (aH E.ty)).sum=F at kh gb;by_cases hl:bq y'=true
     ·obtain⟨v,r1,r2⟩:=kh 0 y' (by rw[bY hl];rfl);refine b9.same h (v:=v) ?_ (ga ((jU hl).2 r2));rw[dm];refine bT ?_;rw[gb];unfold part;rw[Sem.run_bind,gE hT.ok Lv];simp only[Result.andThen_ok,U5,hl,Bool.not_true,Bool.false_eq_true,if_false];rw[Nat.add_zero] at r1;rw[r1];rfl
     ·have hl':bq y'=false:=by simpa using hl
      refine b9.same h (v:= .agg (vs.extract F (F+aH E.ty u))) ?_ ?_
      ·rw[dm];refine bT ?_;rw[gb];unfold part;rw[Sem.run_bind,gE hT.ok Lv];simp only[Result.andThen_ok,U5,hl',Bool.not_false,if_true,Sem.run_bind,cj hT.ok Lv,Sem.run_pure]
      ·refine mM.vr (AR.P9 (t:=u) hc ?_);have hF:F2 (OR (aK E w0 σ w β)) (leaves y') (vs.extract F (F+aH E.ty u)).toList:=by
        have cS:F+aH E.ty u≤vs.size:=by
         rcases Nat.lt_or_ge vs.size (F+aH E.ty u) with aR | pR
         ·have gq:0 < aH E.ty u:=by have:=hT.pos u Du Lv;simpa[aH,Lv] using this
          obtain⟨v,r1,_⟩:=kh (aH E.ty u - 1) ((leaves y')[aH E.ty u - 1]'(by rw[hc.len];omega)) (by simp);have:=(Array.getElem?_eq_some_iff.1 r1).1;omega
         ·exact pR
        refine⟨by simp[hc.len];omega,fun i z v hz hv=>?_⟩;obtain⟨v',r1,r2⟩:=kh i z hz;have P_:i < aH E.ty u:=by rw[← hc.len];exact (List.getElem?_eq_some_iff.1 hz).1
        have:(vs.extract F (F+aH E.ty u))[i]? = some v:=by rw[← Array.getElem?_toList];exact hv
        rw[Array.getElem?_extract] at this;rw[if_pos (by omega),r1] at this;injection this with this;subst this;exact r2
       cases y' with
       | st _ _=>exact⟨_,rfl,hF⟩
       | ar _ _=>exact⟨_,rfl,hF⟩
       | cE _=>exact absurd hc br.Bc
       | _=>simp[bq] at hl
  ·cases h2
 ·cases h2
theorem CY (h:bG E w0 σ a w β) (hG:bj E w0) {y:Operand} (ho:o.op = .nilCheck y) (hr:aZ E d σ (.nilCheck y)=some (x,ob)) :
 b9 E w0 σ a ob x ((execOp a.eval o).run P w):=by
 simp only[aZ] at hr;obtain⟨q,h1,h2⟩:=aq hr;have hq:=bt h hG h1;split at h2
 ·obtain⟨k,dd,e1,_,_⟩:=VR.kF hq;injection h2 with h2;injection h2 with h2 h3;subst h2;subst h3
  exact b9.same h (v:=a.eval y) (by simp[execOp,ho,e1]) hq
 ·obtain⟨k,dd,e1,_⟩:=VR.Be hq;injection h2 with h2;injection h2 with h2 h3;subst h2;subst h3
  exact b9.same h (v:=a.eval y) (by simp[execOp,ho,e1]) hq
 ·cases h2
theorem Fm (h:bG E w0 σ a w β) (hG:bj E w0) {y:Operand} {i:Nat} (ho:o.op = .extract y i) (hr:aZ E d σ (.extract y i)=some (x,ob)) :
 b9 E w0 σ a ob x ((execOp a.eval o).run P w):=by
 simp only[aZ] at hr;obtain⟨q,h1,h2⟩:=aq hr;have hq:=bt h hG h1;split at h2
 ·rename_i vs;split at h2
  ·rename_i v hv;injection h2 with h2;injection h2 with h2 h3;subst h2;subst h3
   obtain⟨us,e1,hF⟩:=hq;obtain⟨u,e2,e3⟩:=hF.get hv;refine b9.same h (v:=u) ?_ (ga e3);have Qv:us[i]? = some u:=by simpa using e2
   simp[execOp,ho,e1,Instr.extract,Qv]
  ·cases h2
 ·cases h2
theorem Qw (h:bG E w0 σ a w β) (hG:bj E w0) {op:UnOp} {t:TypeId} {y:Operand} (ho:o.op = .unOp op t y) (hr:aZ E d σ (.unOp op t y)=some (x,ob)) :
 b9 E w0 σ a ob x ((execOp a.eval o).run P w):=by
 simp only[aZ] at hr;obtain⟨q,h1,h2⟩:=aq hr;obtain⟨v,h3,h4⟩:=aq h2;injection h4 with h4;injection h4 with h4 h5;subst h4;subst h5
 have hq:=bt h hG h1;unfold U1 at h3;split at h3
 ·rename_i b;have e1:=VR.fC hq;split at h3
  ·injection h3 with h3;subst h3
   exact b9.same h (v:= .bool (!b)) (by simp[execOp,ho,e1,Op.unary]) (.cl (.bool _))
  ·cases h3
 ·rename_i k n;have e1:=VR.eE hq;split at h3
  ·injection h3 with h3;subst h3
   exact b9.same h (v:= .int k (k.wrap (-n))) (by simp[execOp,ho,e1,Op.unary,Op.intArith]) (.cl (.int _ _))
  ·injection h3 with h3;subst h3
   exact b9.same h (v:= .int k (bV .xor k (if k.signed then -1 else k.max) n)) (by simp[execOp,ho,e1,Op.unary,Op.intBits,bV]) (.cl (.int _ _))
  ·cases h3
 ·cases h3
theorem Bg {t:TypeId} (hk:P.underlying t=some .bool) (d:Nat) (m n:Bool) (w:World):(Op.equalIn (d+1) t (.bool m) (.bool n)).run P w = .ok (m==n) w:=by
 simp only[Op.equalIn,Sem.run_bind,run_underlying hk,Result.andThen_ok,Sem.run_pure]
theorem v_ {t e:TypeId} (hk:P.underlying t=some (.slice e)) (d:Nat) (w:World):(Op.equalIn (d+1) t (.slice none 0 0) (.slice none 0 0)).run P w = .ok true w:=by
 simp only[Op.equalIn,Sem.run_bind,run_underlying hk,Result.andThen_ok,Sem.run_pure];rfl
theorem vb {t e:TypeId} (hk:P.underlying t=some (.slice e)) (d:Nat) (a:Addr) (n c:Nat) (w:World):(Op.equalIn (d+1) t (.slice (some a) n c) (.slice none 0 0)).run P w = .ok false w:=by
 simp only[Op.equalIn,Sem.run_bind,run_underlying hk,Result.andThen_ok,Sem.run_pure]
theorem Qx (hT:jA P E.ty) {c:Cx} {u:TypeId} {x y:AV} {v v':Value} {b:Bool} (h:P7 E.ty u x y=some b) (hx:OR c x v) (hy:OR c y v') (d:Nat) (w:World) :
 (Op.equalIn (d+1) u v v').run P w = .ok b w∧∃ D,E.ty u=some D∧fv D.k=true:=by
 unfold P7 at h;split at h
 ·rename_i k a k' b';split at h
  ·rename_i kk s bb z hD;split at h
   ·rename_i hk;subst hk;injection h with h;subst h
    have e1:=VR.eE (c:=c) hx;have e2:=VR.eE (c:=c) hy;subst e1;subst e2;have yR:=(hT u _ hD).kind;simp only[kindOk] at yR;exact⟨run_equalIn_int w d u k kk a b' yR,_,hD,rfl⟩
   ·cases h
  ·cases h
 ·rename_i a b';split at h
  ·rename_i hb;injection h with h;subst h
   have e1:=VR.fC (c:=c) hx;have e2:=VR.fC (c:=c) hy;subst e1;subst e2;unfold isBool at hb;split at hb
   ·rename_i s bb z hD;have yR:=(hT u _ hD).kind;simp only[kindOk] at yR;exact⟨run_equalIn_bool' w d u a b' yR,_,hD,rfl⟩
   ·cases hb
  ·cases h
 ·rename_i a b';split at h
  ·rename_i s bb z hD;injection h with h;subst h
   have e1:=VR.mW (c:=c) hx;have e2:=VR.mW (c:=c) hy;subst e1;subst e2;have yR:=(hT u _ hD).kind;simp only[kindOk] at yR;exact⟨run_equalIn_string w d u a b' yR,_,hD,rfl⟩
  ·cases h
 ·cases h
theorem sB (hT:jA P E.ty) {c:Cx} (d:Nat) (w:World) (xs ys:Array Value):∀ (Fs:List Field) (ts:List TypeId) (fs gs:List AV) (i:Nat) (b:Bool),Fs.length=ts.length→
 (∀ (j:Nat) (f:Field),Fs[j]? = some f→ts[j]? = some f.type∧f.offset=i+j∧f.name ≠ "_")→
 (∀ (j:Nat) (x:AV),fs[j]? = some x→∃ v,xs[i+j]? = some v∧OR c x v)→(∀ (j:Nat) (x:AV),gs[j]? = some x→∃ v,ys[i+j]? = some v∧OR c x v)→
 mQ E.ty ts fs gs=some b→(Op.eqFields (d+1) xs ys Fs).run P w = .ok b w
 | [],ts,fs,gs,i,b,hl,hf,hx,hy,h=>by
   cases ts with
   | nil=>cases fs <;> cases gs <;> simp[mQ] at h;subst h;rfl
   | cons=>simp at hl
 | f::Fs,[],fs,gs,i,b,hl,hf,hx,hy,h=>by simp at hl
 | f::Fs,u::ts,fs,gs,i,b,hl,hf,hx,hy,h=>by
   cases fs with
   | nil=>simp[mQ] at h
   | cons x r=>
     cases gs with
     | nil=>simp[mQ] at h
     | cons y s=>
       simp only[mQ] at h;obtain⟨b1,h1,h2⟩:=aq h;obtain⟨b2,h3,h4⟩:=aq h2;injection h4 with h4;subst h4
       obtain⟨hu,ho,hn⟩:=hf 0 f rfl;simp at hu;subst hu;obtain⟨v,v1,v2⟩:=hx 0 x rfl;obtain⟨v',v3,v4⟩:=hy 0 y rfl;obtain⟨q1,D,q2,q3⟩:=Qx hT h1 v2 v4 d w;have pt:∀ (zs:Array Value) (z:Value),zs[i+0]? = some z→(part f.type zs f.offset).run P w = .ok z w:=fun zs z hz=>by
        unfold part;simp only[Sem.run_bind,gE hT q2,Result.andThen_ok,q3,Bool.not_true,Bool.false_eq_true,if_false];rw[ho,hz];rfl
       have ih:=sB hT d w xs ys Fs ts r s (i+1) b2 (by simpa using hl) (fun j f' hf'=>by
        have:=hf (j+1) f' (by simpa using hf');exact⟨by simpa using this.1,by rw[this.2.1];omega,this.2.2⟩)
        (fun j z hz=>by
          obtain⟨v,a1,a2⟩:=hx (j+1) z (by simpa using hz);exact⟨v,by rw[← a1];congr 1;omega,a2⟩)
        (fun j z hz=>by
          obtain⟨v,a1,a2⟩:=hy (j+1) z (by simpa using hz);exact⟨v,by rw[← a1];congr 1;omega,a2⟩) h3
       simp only[Op.eqFields];rw[if_pos hn];simp only[Sem.run_bind,pt xs v v1,pt ys v' v3,Result.andThen_ok,q1];cases b1
       ·simp
       ·simp[ih]
theorem Lx (hT:dk P E.ty) (h:bG E w0 σ a w β) (hG:bj E w0) {op:BinOp} {t u:TypeId} {y z:Operand} (ho:o.op = .binOp op t y z u) (hr:aZ E d σ (.binOp op t y z u)=some (x,ob)) :
 b9 E w0 σ a ob x ((execOp a.eval o).run P w):=by
 simp only[aZ] at hr;obtain⟨p,h1,h2⟩:=aq hr;obtain⟨q,h3,h4⟩:=aq h2;obtain⟨v,h5,h6⟩:=aq h4;injection h6 with h6;injection h6 with h6 h7;subst h6;subst h7
 have hp:=bt h hG h1;have hq:=bt h hG h3;have dm:(∀ w,(eqGuard op t y z (a.eval y) (a.eval z)).run P w = .ok () w)→(execOp a.eval o).run P w=((do pure (Next.value (← binOp op t (a.eval y) (a.eval z)))):Sem Next).run P w:=fun ll=>by
  simp only[execOp,ho,bind_assoc];rw[Sem.run_bind,ll];rfl
 unfold bin at h5;split at h5
 ·rename_i k m k' n;have e1:=VR.eE hp;have e2:=VR.eE hq;have ll:∀ w,(eqGuard op t y z (a.eval y) (a.eval z)).run P w = .ok () w:=fun w=>by
   rw[e1,e2];cases op <;> rfl
  rw[dm ll,e1,e2];split at h5
  ·split at h5
   ·cases h5
   ·rename_i Vc;injection h5 with h5;subst h5
    exact b9.same h (v:= .int k (yL k m n)) (bT (by simp[binOp,Op.shift,Vc,yL])) (.cl (.int _ _))
  ·split at h5
   ·cases h5
   ·rename_i Vc;injection h5 with h5;subst h5
    exact b9.same h (v:= .int k (su k m n)) (bT (by simp[binOp,Op.shift,Vc,su])) (.cl (.int _ _))
  ·rename_i n1 n2;split at h5
   ·rename_i hk;subst hk;unfold b2 at h5;split at h5
    case h_4=>
     split at h5
     ·cases h5
     ·rename_i hz;injection h5 with h5;subst h5
      exact b9.same h (v:= .int k (k.wrap (m.tdiv n))) (bT (by simp[binOp,Op.intDiv,hz])) (.cl (.int _ _))
    case h_5=>
     split at h5
     ·cases h5
     ·rename_i hz;injection h5 with h5;subst h5
      exact b9.same h (v:= .int k (m.tmod n)) (bT (by simp[binOp,Op.intDiv,hz])) (.cl (.int _ _))
    all_goals first | (injection h5 with h5;subst h5) | cases h5
    ·exact b9.same h (v:= .int k (k.wrap (m+n))) (bT (by simp[binOp,Op.intArith])) (.cl (.int _ _))
    ·exact b9.same h (v:= .int k (k.wrap (m - n))) (bT (by simp[binOp,Op.intArith])) (.cl (.int _ _))
    ·exact b9.same h (v:= .int k (k.wrap (m * n))) (bT (by simp[binOp,Op.intArith])) (.cl (.int _ _))
    ·exact b9.same h (v:= .int k (bV .and k m n)) (bT (by simp[binOp,Op.intBits,bV])) (.cl (.int _ _))
    ·exact b9.same h (v:= .int k (bV .or k m n)) (bT (by simp[binOp,Op.intBits,bV])) (.cl (.int _ _))
    ·exact b9.same h (v:= .int k (bV .xor k m n)) (bT (by simp[binOp,Op.intBits,bV])) (.cl (.int _ _))
    ·exact b9.same h (v:= .int k (bV .andNot k m n)) (bT (by simp[binOp,Op.intBits,bV])) (.cl (.int _ _))
    ·exact b9.same h (v:= .bool (m==n)) (bT (by simp[binOp,Op.intCmp])) (.cl (.bool _))
    ·exact b9.same h (v:= .bool (!(m==n))) (bT (by simp[binOp,Op.intCmp,bne])) (.cl (.bool _))
    ·exact b9.same h (v:= .bool (decide (m < n))) (bT (by simp[binOp,Op.intCmp])) (.cl (.bool _))
    ·exact b9.same h (v:= .bool (decide (m≤n))) (bT (by simp[binOp,Op.intCmp])) (.cl (.bool _))
    ·exact b9.same h (v:= .bool (decide (n < m))) (bT (by simp[binOp,Op.intCmp])) (.cl (.bool _))
    ·exact b9.same h (v:= .bool (decide (n≤m))) (bT (by simp[binOp,Op.intCmp])) (.cl (.bool _))
   ·cases h5
 ·rename_i m n;have e1:=VR.fC hp;have e2:=VR.fC hq;have ll:∀ w,(eqGuard op t y z (a.eval y) (a.eval z)).run P w = .ok () w:=fun w=>by
   rw[e1,e2];cases op <;> rfl
  rw[dm ll,e1,e2];split at h5
  ·rename_i hb;unfold isBool at hb;split at hb
   ·rename_i s b zz hD;have hk:=(hT.ok t _ hD).kind;simp only[kindOk] at hk;have heq:(Op.equal t (.bool m) (.bool n)).run P w = .ok (m==n) w:=by
     exact Bg hk 9999 m n w
    split at h5
    ·injection h5 with h5;subst h5
     exact b9.same h (v:= .bool (m==n)) (bT (by simp only[binOp,Sem.run_bind,heq,Result.andThen_ok,Sem.run_pure])) (.cl (.bool _))
    ·injection h5 with h5;subst h5
     exact b9.same h (v:= .bool (!(m==n))) (bT (by simp only[binOp,Sem.run_bind,heq,Result.andThen_ok,Sem.run_pure])) (.cl (.bool _))
    ·cases h5
   ·cases hb
  ·cases h5
 ·rename_i m n;have e1:=VR.mW hp;have e2:=VR.mW hq;have ll:∀ w,(eqGuard op t y z (a.eval y) (a.eval z)).run P w = .ok () w:=fun w=>by
   rw[e1,e2];cases op <;> rfl
  rw[dm ll,e1,e2];split at h5
  ·injection h5 with h5;subst h5
   exact b9.same h (v:= .bool (m.toList==n.toList)) (bT (by simp[binOp,Op.stringOp])) (.cl (.bool _))
  ·injection h5 with h5;subst h5
   exact b9.same h (v:= .bool (!(m.toList==n.toList))) (bT (by simp[binOp,Op.stringOp])) (.cl (.bool _))
  ·split at h5
   ·rename_i hs;injection h5 with h5;subst h5
    refine b9.same h (v:= .string (m++n)) (bT ?_) (.cl (.str _));simp only[binOp,Op.stringOp];have hm:IntKind.i64.max=9223372036854775807:=by decide
    rw[if_neg (by rw[hm];omega)];rfl
   ·cases h5
  ·cases h5
 ·rename_i u fl es fr tt;have e2:a.eval z = .slice none 0 0:=by
   rcases VR.lk hq with ⟨_,_,e⟩ | ⟨k,off,cp,e,h1,h2,h3⟩
   ·exact e
   ·exact absurd rfl h2
  have ll:∀ w,(eqGuard op t y z (a.eval y) (a.eval z)).run P w = .ok () w:=fun w=>by
   rw[e2];rcases VR.lk hp with ⟨_,_,e⟩ | ⟨k,off,cp,e,_⟩ <;> rw[e] <;> cases op <;> rfl
  rw[dm ll,e2];split at h5
  ·rename_i b tv;split at h5
   ·rename_i CZ;unfold isSlice at CZ;split at CZ
    ·rename_i e s bb zz hD;have hk:=(hT.ok t _ hD).kind;simp only[kindOk] at hk;have heq:(Op.equal t (a.eval y) (.slice none 0 0)).run P w = .ok b w:=by
      rcases VR.lk hp with ⟨_,h7,e⟩ | ⟨k,off,cp,e,_,h7,_⟩
      ·rw[e];have:b=true:=by rw[tv] at h7;cases b <;> simp_all
       subst this;exact v_ hk.1 9999 w
      ·rw[e];have:b=false:=by rw[tv] at h7;cases b <;> simp_all
       subst this;exact vb hk.1 9999 _ _ _ w
     have jM:∀ (v:Value),(∃ a n c,v = .slice a n c)→binOp .eql t v (.slice none 0 0)=(do pure (.bool (← Op.equal t v (.slice none 0 0))))∧binOp .neq t v (.slice none 0 0)=(do pure (.bool (!(← Op.equal t v (.slice none 0 0))))):=fun v hv=>by
      obtain⟨a,n,c,rfl⟩:=hv;exact⟨rfl,rfl⟩
     have hv:∃ aa n c,a.eval y = .slice aa n c:=by
      rcases VR.lk hp with ⟨_,_,e⟩ | ⟨k,off,cp,e,_⟩ <;> exact⟨_,_,_,e⟩
     split at h5
     ·injection h5 with h5;subst h5
      exact b9.same h (v:= .bool b) (bT (by rw[(jM _ hv).1];simp only[Sem.run_bind,heq,Result.andThen_ok,Sem.run_pure])) (.cl (.bool _))
     ·injection h5 with h5;subst h5
      exact b9.same h (v:= .bool (!b)) (bT (by rw[(jM _ hv).2];simp only[Sem.run_bind,heq,Result.andThen_ok,Sem.run_pure])) (.cl (.bool _))
     ·cases h5
    ·cases CZ
   ·cases h5
  ·cases h5
 ·rename_i t1 fs t2 gs;obtain⟨b,h7,h8⟩:=aq h5;unfold La at h7;split at h7
  ·rename_i hc;obtain⟨c1,c2⟩:=hc;subst c1;subst c2;split at h7
   ·rename_i ts sz bb zz hD;obtain⟨xs,e1,mV,hFx⟩:=hp;obtain⟨ys,e2,Vd,hFy⟩:=hq;have heq:=hT.eq _ ts sz bb zz hD;simp only[G_,Bool.and_eq_true,Bool.not_eq_true',List.all_eq_true,bne_iff_ne] at heq;obtain⟨⟨g1,g2⟩,g3⟩:=heq;have hk:=(hT.ok _ _ hD).kind;simp only[kindOk] at hk;obtain⟨Fs,k1,k2,k3⟩:=hk;have Ve:P.fieldsOf t2=Fs:=by simp[Program.fieldsOf,k1]
    have ll:∀ w,(eqGuard op t2 y z (a.eval y) (a.eval z)).run P w = .ok () w:=fun w=>by
     rw[e1,e2];exact run_eqGuard_agg w op t2 y z xs ys g2
    have ab6:∀ (ts:List TypeId) (fs gs:List AV) (b:Bool),mQ E.ty ts fs gs=some b→ts.length=fs.length∧ts.length=gs.length∧(∀ x ∈ fs,bq x=true)∧(∀ x ∈ gs,bq x=true)∧∀ u ∈ ts,∃ D,E.ty u=some D∧fv D.k=true:=by
     intro ts
     induction ts with
     | nil=>intro fs gs b h;cases fs <;> cases gs <;> simp[mQ] at h ⊢
     | cons u ts ih=>
       intro fs gs b h;cases fs with
       | nil=>simp[mQ] at h
       | cons x r=>
         cases gs with
         | nil=>simp[mQ] at h
         | cons y s=>
           simp only[mQ] at h;obtain⟨b1,q1,q2⟩:=aq h;obtain⟨b2,q3,q4⟩:=aq q2;obtain⟨i1,i2,i3,i4,i5⟩:=ih r s b2 q3;have hx:bq x=true∧bq y=true∧∃ D,E.ty u=some D∧fv D.k=true:=by
            unfold P7 at q1;split at q1
            ·split at q1
             ·rename_i hD;exact⟨rfl,rfl,_,hD,rfl⟩
             ·cases q1
            ·split at q1
             ·rename_i hb;unfold isBool at hb;split at hb
              ·rename_i hD;exact⟨rfl,rfl,_,hD,rfl⟩
              ·cases hb
             ·cases q1
            ·split at q1
             ·rename_i hD;exact⟨rfl,rfl,_,hD,rfl⟩
             ·cases q1
            ·cases q1
           refine⟨by simp[i1],by simp[i2],fun z hz=>?_,fun z hz=>?_,fun v hv=>?_⟩
           ·rcases List.mem_cons.1 hz with rfl | hz
            ·exact hx.1
            ·exact i3 z hz
           ·rcases List.mem_cons.1 hz with rfl | hz
            ·exact hx.2.1
            ·exact i4 z hz
           ·rcases List.mem_cons.1 hv with rfl | hv
            ·exact hx.2.2
            ·exact i5 v hv
    obtain⟨l1,l2,l3,l4,l5⟩:=ab6 ts fs gs b h7;have lv:∀ (l:List AV),(∀ x ∈ l,bq x=true)→ay l=l:=fun l=>by
     induction l with
     | nil=>intro _;rfl
     | cons q r ih=>intro h;simp only[ay];rw[bY (h q (by simp)),ih fun z hz=>h z (by simp[hz])];rfl
    have e3:leaves (.st t2 fs)=fs:=lv fs l3;have e4:leaves (.st t2 gs)=gs:=lv gs l4;rw[e3] at hFx;rw[e4] at hFy;have sz1:∀ u ∈ ts,aH E.ty u=1:=fun u hu=>by
     obtain⟨D,d1,d2⟩:=l5 u hu;have sj:=(hT.ok u D d1).fy;generalize D.zero=zz at sj;cases sj with
     | leaf f1 f2 f3 f4=>
       rw[d1] at f1;injection f1 with f1;subst f1
       simp[aH,d1,f3]
     | st f1=>rw[d1] at f1;injection f1 with f1;subst f1;cases d2
     | ar f1=>rw[d1] at f1;injection f1 with f1;subst f1;cases d2
    have Vf:∀ (l:List TypeId),(∀ u ∈ l,aH E.ty u=1)→(l.map (aH E.ty)).sum=l.length:=fun l=>by
     induction l with
     | nil=>intro _;rfl
     | cons q r ih=>intro h;simp[h q (by simp),ih fun z hz=>h z (by simp[hz])];omega
    have get:∀ (l:List AV) (zs:Array Value),F2 (OR (aK E w0 σ w β)) l zs.toList→∀ (j:Nat) (x:AV),l[j]? = some x→∃ v,zs[0+j]? = some v∧OR (aK E w0 σ w β) x v:=fun l zs hF j x hx=>by
     have hj:j < zs.toList.length:=by rw[← hF.1];exact (List.getElem?_eq_some_iff.1 hx).1
     have hz:zs.toList[j]? = some zs.toList[j]:=List.getElem?_eq_getElem hj;exact⟨_,by rw[Nat.zero_add,← Array.getElem?_toList];exact hz,hF.2 j x _ hx hz⟩
    have gb:=sB (P:=P) hT.ok (c:=aK E w0 σ w β) 9998 w xs ys Fs.toList ts fs gs 0 b (by simpa using k2) (fun j f hf=>by
     obtain⟨a1,a2⟩:=k3 j f (by simpa using hf);refine⟨a1,?_,g3 f (by rw[Ve];exact List.mem_of_getElem? hf)⟩;rw[a2,Vf _ fun u hu=>sz1 u (List.mem_of_mem_take hu),List.length_take];have:j < ts.length:=by rw[← k2];have:=(List.getElem?_eq_some_iff.1 hf).1;simpa using this
     omega) (get fs xs hFx) (get gs ys hFy) h7
    have de:(Op.equalIn 10000 t2 (.agg xs) (.agg ys)).run P w = .ok b w:=by
     rw[run_equalIn_struct w 9999 t2 xs ys (by rw[Ve];exact k1) g1,Ve];exact gb
    rw[dm ll,e1,e2];unfold CL at h8;split at h8
    ·injection h8 with h8;subst h8
     exact b9.same h (v:= .bool b) (bT (by rw[run_eql_struct,de];rfl)) (.cl (.bool _))
    ·injection h8 with h8;subst h8
     exact b9.same h (v:= .bool (!b)) (bT (by rw[run_neq_struct,de];rfl)) (.cl (.bool _))
    ·cases h8
   ·cases h7
  ·cases h7
 ·cases h5
end
end Go.Abs
end
section
namespace Go.Abs
open Go Go.RowKit
section
variable {P:Program} {E:Env} {w0 w:World} {σ:St} {a:Act} {β:Nat→Option Nat} {x:AV} {ob:List (Nat × Obj)} {d:Nat} {o:Oper}
theorem Bh (hT:dk P E.ty) (h:bG E w0 σ a w β) (hG:bj E w0) {t:TypeId} {y z:Operand} (ho:o.op = .indexAddr t y z) (hr:aZ E d σ (.indexAddr t y z)=some (x,ob)) :
 b9 E w0 σ a ob x ((execOp a.eval o).run P w):=by
 simp only[aZ] at hr;have dm:(execOp a.eval o)=(do pure (Next.value (← Instr.indexAt t (a.eval y) (a.eval z)))):=by simp[execOp,ho]
 split at hr
 ·rename_i e s b zz hD;obtain⟨p,h1,h2⟩:=aq hr;obtain⟨q,h3,h4⟩:=aq h2;have hp:=bt h hG h1;have hq:=bt h hG h3;have hk:=(hT.ok t _ hD).kind;simp only[kindOk] at hk;obtain⟨De,g8⟩:=hT.sl t e s b zz hD;split at h4
  ·rename_i o' u off n kk i;have e2:=VR.eE hq;split at h4
   ·rename_i hc;obtain⟨c1,c2,c3⟩:=hc;subst c1;injection h4 with h4;injection h4 with h4 h5;subst h4;subst h5
    rcases VR.jL hp with ⟨_,_,hn,_⟩ | ⟨k,cp,arr,e',g1,g2,g3,g4,g5⟩
    ·omega
    ·refine b9.same h (v:= .pointer (some ⟨k,off * aH E.ty u+i.toNat * aH E.ty u,none⟩)) ?_ (.ptr _ _ _ k _ g1 ?_)
     ·rw[dm];refine bT ?_;unfold Instr.indexAt;simp only[Sem.run_bind,e2,asIntOf,Sem.run_pure,Result.andThen_ok,run_underlying hk.1,g5];rw[if_pos ⟨c2,c3⟩];simp only[Sem.run_bind,cj hT.ok g8,Result.andThen_ok,Sem.run_pure,nS];rfl
     ·show ky E.ty (Jt E.ty u) [off+i.toNat]=some (off * aH E.ty u+i.toNat * aH E.ty u);unfold Jt;split <;> (simp only[ky,fX];rw[Nat.add_mul];rfl)
   ·cases h4
  ·rename_i u fl es kk i;have e2:=VR.eE hq;split at h4
   ·rename_i hc;obtain⟨c1,c2⟩:=hc;subst c1;obtain⟨y',h5,h6⟩:=aq h4;injection h6 with h6;injection h6 with h6 h7;subst h6;subst h7
    have hi:i.toNat < es.length:=(List.getElem?_eq_some_iff.1 h5).1;have d_:es ≠ []:=by rintro rfl;simp at hi
    rcases VR.lk hp with ⟨he,_,_⟩ | ⟨k,off,cp,g1,g2,g3,g4,g5,g6⟩
    ·exact absurd he d_
    ·have hc:br E.ty u y':=g5 y' (List.mem_of_getElem? h5);refine b9.same h (v:= .pointer (some ⟨k,off+i.toNat * aH E.ty u,none⟩)) ?_ (VR.Ln (g4 d_).1 (g4 d_).2 hc fun j zz hz=>?_)
     ·rw[dm];refine bT ?_;unfold Instr.indexAt;simp only[Sem.run_bind,e2,asIntOf,Sem.run_pure,Result.andThen_ok,run_underlying hk.1,g1];rw[if_pos ⟨c2,by omega⟩];simp only[Sem.run_bind,cj hT.ok g8,Result.andThen_ok,Sem.run_pure,nS]
     ·have hj:j < aH E.ty u:=by rw[← hc.len];exact (List.getElem?_eq_some_iff.1 hz).1
      have:=ed (aH E.ty u) es (fun q hq=>(g5 q hq).len) i.toNat y' h5 j hj;obtain⟨v,r1,r2⟩:=g6 (i.toNat * aH E.ty u+j) zz (by rw[this];exact hz);exact⟨v,by rw[← r1];congr 2;omega,r2⟩
   ·cases h4
  ·cases h4
 ·rename_i n e s b zz hD;obtain⟨p,h1,h2⟩:=aq hr;obtain⟨q,h3,h4⟩:=aq h2;have hp:=bt h hG h1;have hq:=bt h hG h3;have hk:=(hT.ok t _ hD).kind;simp only[kindOk] at hk;obtain⟨De,g8⟩:=hT.ar t n e s b zz hD;split at h4
  ·rename_i o' r p' kk i;have e2:=VR.eE hq;split at h4
   ·rename_i hc;obtain⟨c1,c2,c3⟩:=hc;injection h4 with h4;injection h4 with h4 h5;subst h4;subst h5
    obtain⟨k,dd,e1,g2,g3⟩:=VR.kF hp;have de:i.toNat < n:=by omega
    refine b9.same h (v:= .pointer (some ⟨k,dd+i.toNat * aH E.ty e,none⟩)) ?_
     (.ptr _ _ _ k _ g2 (qE c1 g3 (by simp only[fX,aK,hD];rw[if_pos de];rfl)))
    rw[dm];refine bT ?_;unfold Instr.indexAt;simp only[Sem.run_bind,e2,asIntOf,Sem.run_pure,Result.andThen_ok,run_underlying hk,e1,Instr.sureAddr];rw[if_pos ⟨c2,c3⟩];simp only[Sem.run_bind,cj hT.ok g8,Result.andThen_ok,Sem.run_pure,nS]
   ·cases h4
  ·rename_i fr u0 u es kk i;have e2:=VR.eE hq;split at h4
   ·rename_i hc;obtain⟨c1,c2⟩:=hc;subst c1;obtain⟨y',h5,h6⟩:=aq h4;injection h6 with h6;injection h6 with h6 h7;subst h6;subst h7
    obtain⟨k,dd,e1,g2,g3,g4,g5⟩:=VR.Be hp;have hu:u0=u:=by
     cases g4 with
     | leaf _ _ _ q4=>cases q4
     | ar _ _ _ _ _=>rfl
    subst hu;have g4':br E.ty u0 (.ar u0 es):=g4;obtain⟨_,q2,q3,q4,q5⟩:=g4'.Lq hD;have hi:i.toNat < es.length:=(List.getElem?_eq_some_iff.1 h5).1;have hc:br E.ty e y':=q4 y' (List.mem_of_getElem? h5);refine b9.same h (v:= .pointer (some ⟨k,dd+i.toNat * aH E.ty e,none⟩)) ?_ (VR.Ln g2 g3 hc fun j zz hz=>?_)
    ·rw[dm];refine bT ?_;unfold Instr.indexAt;simp only[Sem.run_bind,e2,asIntOf,Sem.run_pure,Result.andThen_ok,run_underlying hk,e1,Instr.sureAddr];rw[if_pos ⟨c2,by omega⟩];simp only[Sem.run_bind,cj hT.ok g8,Result.andThen_ok,Sem.run_pure,nS]
    ·have hj:j < aH E.ty e:=by rw[← hc.len];exact (List.getElem?_eq_some_iff.1 hz).1
     have:=ed (aH E.ty e) es (fun q hq=>(q4 q hq).len) i.toNat y' h5 j hj;obtain⟨v,r1,r2⟩:=g5 (i.toNat * aH E.ty e+j) zz (by simp only[leaves];rw[this];exact hz);exact⟨v,by rw[← r1];congr 2;omega,r2⟩
   ·cases h4
  ·cases h4
 ·cases hr
theorem fe (h:bG E w0 σ a w β) (hG:bj E w0):∀ (xs:List Operand) (l:List AV),dZ E.G σ xs=some l→
 F2 (VR (aK E w0 σ w β)) l (xs.map a.eval)
 | [],l,hl=>by simp[dZ] at hl;subst hl;exact⟨rfl,fun i x v hx=>by simp at hx⟩
 | y::r,l,hl=>by
   simp only[dZ] at hl;obtain⟨v,h1,h2⟩:=aq hl;obtain⟨l',h3,h4⟩:=aq h2;injection h4 with h4;subst h4
   obtain⟨e1,e2⟩:=fe h hG r l' h3;refine⟨by simp[e1],fun j q p hq hp=>?_⟩;cases j with
   | zero=>simp at hq hp;subst hq;subst hp;exact bt h hG h1
   | succ j=>exact e2 j q p (by simpa using hq) (by simpa using hp)
theorem Fo (hT:dk P E.ty) (h:bG E w0 σ a w β) (hG:bj E w0) {s t:TypeId} {y:Operand} (ho:o.op = .convert s t y) (hr:aZ E d σ (.convert s t y)=some (x,ob)) :
 b9 E w0 σ a ob x ((execOp a.eval o).run P w):=by
 simp only[aZ] at hr;obtain⟨q,h1,h2⟩:=aq hr;have hq:=bt h hG h1;have dm:(execOp a.eval o)=(do pure (Next.value (← convert s t (a.eval y)))):=by simp[execOp,ho]
 split at h2
 ·rename_i kk n;have e1:=VR.eE hq;split at h2
  ·rename_i k sz b zz hD;split at h2
   ·rename_i S hS;injection h2 with h2;injection h2 with h2 h3;subst h2;subst h3
    have hk:=(hT.ok t _ hD).kind;simp only[kindOk] at hk;have hu:∃ ds,P.underlying s=some ds:=by
     have vA:=(hT.ok s S hS).kind;unfold kindOk at vA;split at vA <;> first | exact⟨_,vA⟩ | exact⟨_,vA.1⟩ | (obtain⟨_,vA,_⟩:=vA;exact⟨_,vA⟩) | (obtain⟨_,_,_,vA⟩:=vA;exact⟨_,vA⟩)
    obtain⟨ds,hds⟩:=hu;refine b9.same h (v:= .int k (k.wrap n)) ?_ (.cl (.int _ _));rw[dm];refine bT ?_;unfold convert;simp only[Sem.run_bind,run_underlying hds,run_underlying hk,Result.andThen_ok,e1];rfl
   ·cases h2
  ·cases h2
 ·cases h2
theorem Bi (hT:dk P E.ty) (h:bG E w0 σ a w β) (hG:bj E w0) {t:TypeId} {y z:Operand} (ho:o.op = .makeSlice t y z) (hr:aZ E d σ (.makeSlice t y z)=some (x,ob)) :
 b9 E w0 σ a ob x ((execOp a.eval o).run P w):=by
 simp only[aZ] at hr;have dm:(execOp a.eval o)=(do pure (Next.value (← Instr.makeSlice t (a.eval y) (a.eval z)))):=by simp[execOp,ho]
 split at hr
 ·rename_i e s b zz hD;split at hr
  ·rename_i T g8;obtain⟨p,h1,h2⟩:=aq hr;obtain⟨q,h3,h4⟩:=aq h2;have hp:=bt h hG h1;have hq:=bt h hG h3;split at h4
   ·rename_i n m;have e1:=VR.eE hp;have e2:=VR.eE hq;split at h4
    ·rename_i hc;obtain⟨c1,c2,c3,c4,c5,c6⟩:=hc;subst c1;injection h4 with h4;injection h4 with h4 h5;subst h4;subst h5
     have hk:=(hT.ok t _ hD).kind;simp only[kindOk] at hk;obtain⟨i,zv,i1,i2,i3,i4,i5,i6⟩:=(hT.ok e T g8).info;obtain⟨nR,KU,hm⟩:=(hT.ok e T g8).Ha;have cS:aH E.ty e=T.size:=by simp[aH,g8]
     have KV:zv.cells.size=T.size:=by
      have:=i5.1;rw[(hT.ok e T g8).fy.len,cS] at this;simpa using this.symm
     have hle:n≤140737488355328:=by
      have:n * 1≤n * (T.bytes:Int):=Int.mul_le_mul_of_nonneg_left (by omega) c2;omega
     have ab8:IntKind.i64.wrap n=n:=by simp[IntKind.wrap,IntKind.bits,IntKind.signed];omega
     let cells:Array Value:=(Array.range (n.toNat * T.size)).map fun j=>zv.cells[j % zv.cells.size]!
     have kh:∀ (j:Nat) (q:AV),(ay (List.replicate n.toNat T.zero))[j]? = some q→∃ u,cells[j]? = some u∧∀ (w:World) (okb:Nat→Prop),LR E.ty w okb q u:=fun j q hq=>by
      have hlen:(ay (List.replicate n.toNat T.zero)).length=n.toNat * T.size:=by
       rw[bg T.size _ (fun x hx=>by rw[List.eq_of_mem_replicate hx,(hT.ok e T g8).fy.len,cS])];simp
      have hj:j < n.toNat * T.size:=by rw[← hlen];exact (List.getElem?_eq_some_iff.1 hq).1
      have hdiv:j / T.size < n.toNat:=(Nat.div_lt_iff_lt_mul c4).2 hj;have Vg:j % T.size < T.size:=Nat.mod_lt _ c4;have hat:=ed T.size (List.replicate n.toNat T.zero) (fun x hx=>by rw[List.eq_of_mem_replicate hx,(hT.ok e T g8).fy.len,cS]) (j / T.size) T.zero
       (by rw[List.getElem?_replicate,if_pos hdiv]) (j % T.size) Vg
      rw[Nat.div_add_mod' j T.size,hq] at hat;obtain⟨u,r1,r2⟩:=i5.get hat.symm;refine⟨u,?_,r2⟩;have hc:cells[j]? = some (zv.cells[j % zv.cells.size]!):=by simp[cells,hj]
      rw[hc,KV];have r1':zv.cells[j % T.size]? = some u:=by simpa using r1
      simp[getElem!_def,r1']
     obtain⟨hS,_⟩:=h.new c6 (b:=⟨.row e,true,List.replicate n.toNat T.zero⟩) (arr:=cells) (e:=e)
      ⟨fun x hx=>by rw[List.eq_of_mem_replicate hx];exact (hT.ok e T g8).fy,by rw[cS];exact c4⟩ rfl
      (fun j q hq=>by obtain⟨u,r1,r2⟩:=kh j q hq;exact⟨u,r1,r2 _ _⟩)
     have E9:cells.size=n.toNat * T.size:=by simp[cells]
     refine⟨.slice (some ⟨w.heap.size,0,none⟩) n.toNat n.toNat,_,_,.inl ?_,hS,?_⟩
     ·rw[dm];refine bT ?_;unfold Instr.makeSlice;simp only[Sem.run_bind,run_underlying hk.1,Result.andThen_ok,e1,e2,asInt,asIntOf,Sem.run_pure,ab8,typeInfo,run_program,i1];have hb:(i.bytes:Int) * n≤140737488355328:=by rw[i3,Int.mul_comm];exact c3
      have vd:(decide (n < 0) || decide ((i.bytes:Int) * n > 2 ^ 48))=false:=by
       simp only[Bool.or_eq_false_iff,decide_eq_false_iff_not];exact⟨by omega,by omega⟩
      simp only[vd,Bool.false_or];rw[if_neg (by simp;omega)];simp only[run_askRoom,Sem.run_bind,Result.andThen_ok,cj hT.ok g8,cS];by_cases kH:n.toNat * T.size=0
      ·rw[if_pos kH];simp only[Sem.run_pure,Result.andThen_ok,newRow,Sem.run_bind,run_newObj];have:cells = #[]:=Array.eq_empty_of_size_eq_zero (by rw[E9,kH]);rw[this,kH];have e0:(Array.map (fun x=>(#[]:Array Value)[x % (#[]:Array Value).size]!) (Array.range 0)) = #[]:=by simp
       rw[e0];rfl
      ·rw[if_neg kH];simp only[zeroValue,typeInfo,Sem.run_bind,run_program,Result.andThen_ok,i1,i4,Sem.run_pure,newRow,run_newObj];rfl
     ·have:=OR.own (c:=aK E w0 ⟨σ.tm,bE d ⟨.row e,true,List.replicate n.toNat T.zero⟩ σ.ob⟩ (w.alloc (.cells cells e)) (fun o=>if o=d then some w.heap.size else β o))
       d e 0 n.toNat w.heap.size n.toNat cells e (by simp[aK]) (by show (w.heap.push _)[w.heap.size]? = _;simp) (by simp[aK,cS,E9]) (Nat.le_refl _)
      rw[Nat.zero_mul] at this;exact this
    ·cases h4
   ·cases h4
  ·cases hr
 ·cases hr
end
end Go.Abs
end
section
namespace Go.Abs
open Go Go.RowKit
def nz (ty:bX) (w:World) (okb:Bool→Nat→Prop):AV→Value→Prop
 | .st t fs,v=>∃ vs,v = .agg vs∧br ty t (.st t fs)∧F2 (fun x u=>LR ty w (okb (jw x)) x u) (leaves (.st t fs)) vs.toList
 | .ar t es,v=>∃ vs,v = .agg vs∧br ty t (.ar t es)∧F2 (fun x u=>LR ty w (okb (jw x)) x u) (leaves (.ar t es)) vs.toList
 | .cE _,_=>False
 | x,v=>LR ty w (okb (jw x)) x v
def CR (ty:bX) (w:World) (okb:Bool→Nat→Prop):AV→Value→Prop
 | .cE xs,v=>∃ vs,v = .tuple vs∧F2 (nz ty w okb) xs vs.toList
 | x,v=>nz ty w okb x v
theorem wa {ty:bX} {w:World} {okb:Bool→Nat→Prop} {x:AV} {v:Value} (h:nz ty w okb x v):CR ty w okb x v:=by cases x <;> first | exact h | exact h.elim
theorem C0 {ty:bX} {w:World} {okb:Bool→Nat→Prop} {x:AV} {v:Value} (h:bq x=true):nz ty w okb x v↔LR ty w (okb (jw x)) x v:=by cases x <;> simp_all [nz,bq]
def cX (base:Nat) (okA:Nat→Prop) (fr:Bool) (b:Nat):Prop:=(fr=true→base≤b)∧(base≤b∨okA b)
def yS (P:Program) (f:FuncId):Prop:=∃ fn,P.funcs[f]? = some fn∧fn.body.isSome=true∧fn.name ≠ "runtime.NumGoroutine"
def tx (P:Program) (ty:bX) (G:cC) (f:FuncId) (args:List AV) (r:AV):Prop:=
 ∀ (okA:Nat→Prop) (w:World) (vs:List Value),F2 (nz ty w fun _=>okA) args vs→(∀ g t x,G g=some (t,x)→LR ty w okA (.ro false t x) (.pointer (some ⟨g,0,none⟩)))→
   Calls P f vs.toArray w fun e w'=>∃ v,e = .returned v∧Below w.heap.size w w'∧CR ty w' (cX w.heap.size okA) r v
def ql (ty:bX) (lo:Option Nat) (okA lent:Nat→Prop) (n:Nat) (ob:List (Nat × Obj)) (w:World) (β:Nat→Option Nat):Cx:=
 ⟨ty,ie lo n,w,β,fun k=>(k < n∧¬ okA k)∨∃ o b,aA o ob=some b∧β o=some k,fun k=>n≤k∨(lent k∧¬ okA k)⟩
def Vh (ob:List (Nat × Obj)) (β:Nat→Option Nat):Prop:=∀ o o' b b' k,aA o ob=some b→aA o' ob=some b'→β o=some k→β o'=some k→o=o'
def iy (P:Program) (ty:bX) (G:cC) (f:FuncId) (args:List AV) (ob:List (Nat × Obj)) (r:AV) (fP:List (Nat × Obj)):Prop:=
 ∀ (lo:Option Nat) (okA lent:Nat→Prop) (w:World) (β:Nat→Option Nat) (vs:List Value),
   (∀ o b,aA o ob=some b→zo (ql ty lo okA lent w.heap.size ob w β) o b)→Vh ob β→F2 (VR (ql ty lo okA lent w.heap.size ob w β)) args vs→
   (∀ g t x,G g=some (t,x)→LR ty w okA (.ro false t x) (.pointer (some ⟨g,0,none⟩)))→
   Calls P f vs.toArray w fun e w'=>∃ v β',e = .returned v∧gZ (fun k=>lent k∧¬ okA k) w.heap.size w w'∧
    (∀ o b,aA o fP=some b→zo (ql ty lo okA lent w.heap.size fP w' β') o b)∧Vh fP β'∧VR (ql ty lo okA lent w.heap.size fP w' β') r v
structure cM (P:Program) (E:Env):Prop where
 c:∀ f args r,E.C f args=some r→yS P f∧tx P E.ty E.G f args r
 m:∀ f args ob r fP,E.M f args ob=some (r,fP)→yS P f∧iy P E.ty E.G f args ob r fP
theorem sC:∀ {l:List AV},iw.zh l=true→∀ x ∈ l,iw x=true
 | [],_,x,h=>by simp at h
 | y::r,hc,x,h=>by
   simp only[iw.zh,Bool.and_eq_true] at hc;rcases List.mem_cons.1 h with rfl | h
   ·exact hc.1
   ·exact sC hc.2 x h
theorem sD {ty:bX} {t:TypeId} {x:AV} (hc:br ty t x) (hn:iw x=true):∀ y ∈ leaves x,jw y=true:=by
 induction hc with
 | leaf _ _ _ h4=>
   rw[bY h4];intro y hy;simp at hy;subst hy;cases y <;> first | exact hn | cases h4
 | @st t ts s b z fs h1 h2 h3 h4 ih=>
   simp only[leaves];intro y hy;obtain⟨x,h5,h6⟩:=cm hy;obtain⟨i,hi,e⟩:=List.getElem_of_mem h5;have tp:fs[i]? = some x:=by rw[List.getElem?_eq_getElem hi,e]
   obtain⟨u,hu⟩:∃ u,ts[i]? = some u:=⟨ts[i]'(by omega),by rw[List.getElem?_eq_getElem]⟩
   exact ih i x u tp hu (sC (by simpa[iw] using hn) x h5) y h6
 | ar h1 h2 h3 h4 h5 _=>
   simp only[leaves];intro y hy;obtain⟨q,h6,h7⟩:=cm hy;have:=(fA _ q (Nat.lt_succ_self _) (h5 q h6) y h7).2.1;have hl:=(fA _ q (Nat.lt_succ_self _) (h5 q h6) y h7).2.2.2;cases y <;> first | rfl | exact this | cases hl
theorem nz.vr {E:Env} {w0 w w':World} {σ:St} {a:Act} {β:Nat→Option Nat} (h:bG E w0 σ a w β) (hb:Below w.heap.size w w') {okA:Nat→Prop} {x:AV} {v:Value}
 (hA:(∀ b,okA b→¬ (aK E w0 σ w β).mu b)∨iw x=true)
 (hx:nz E.ty w' (cX w.heap.size okA) x v):mM (aK E w0 σ w' β) x v:=by
 have lr:∀ {y:AV} {u:Value},((∀ b,okA b→¬ (aK E w0 σ w β).mu b)∨jw y=true)→LR E.ty w' (cX w.heap.size okA (jw y)) y u→LR E.ty w' ((aK E w0 σ w' β).okb (jw y)) y u:=fun hy0 hy=>
  hy.mono fun b pR aR=>⟨⟨fun hm=>by
   have Vi:(aK E w0 σ w β).mu b:=hm;have new:w.heap.size≤b→False:=fun pR=>by
    rcases Vi with Vi | Vi
    ·have:=h.below.size;omega
    ·have:=(h.Ll Vi).2;omega
   rcases pR.2 with h1 | h1
   ·exact new h1
   ·rcases hy0 with h2 | h2
    ·exact h2 b h1 Vi
    ·exact new (pR.1 h2),fun hf=>Nat.le_trans (Nat.le_trans (jV _ _) h.below.size) (pR.1 hf)⟩,aR,rfl⟩
 cases x with
 | st t fs=>
   obtain⟨vs,e,hc,hF⟩:=hx;refine⟨vs,e,hc,hF.1,fun i x v hx hv=> .cl (lr ?_ (hF.2 i x v hx hv))⟩;exact hA.imp id fun hn=>sD hc hn x (List.mem_of_getElem? hx)
 | ar t fs=>
   obtain⟨vs,e,hc,hF⟩:=hx;refine⟨vs,e,hc,hF.1,fun i x v hx hv=> .cl (lr ?_ (hF.2 i x v hx hv))⟩;exact .inr (by
    have hn:iw (.ar t fs)=true∨iw (.ar t fs)=false:=by cases iw (.ar t fs) <;> simp
    cases hc with
    | leaf _ _ _ q4=>cases q4
    | ar h1 h2 h3 h4 h5=>
      have hm:=List.mem_of_getElem? hx;simp only[leaves] at hm;obtain⟨q,h6,h7⟩:=cm hm;have h8:=fA _ q (Nat.lt_succ_self _) (h5 q h6) x h7;cases x <;> first | rfl | exact h8.2.1 | cases h8.2.2.2)
 | cE _=>exact hx.elim
 | _=>exact .cl (lr (hA.imp id fun hn=>hn) hx)
theorem CR.vr {E:Env} {w0 w w':World} {σ:St} {a:Act} {β:Nat→Option Nat} (h:bG E w0 σ a w β) (hb:Below w.heap.size w w') {okA:Nat→Prop} {x:AV} {v:Value}
 (hA:(∀ b,okA b→¬ (aK E w0 σ w β).mu b)∨iw x=true)
 (hx:CR E.ty w' (cX w.heap.size okA) x v):VR (aK E w0 σ w' β) x v:=by
 cases x with
 | cE xs=>obtain⟨vs,e,hF⟩:=hx;exact⟨vs,e,hF.1,fun i x v hx hv=>nz.vr h hb (hA.imp id fun hn=>sC (by simpa[iw] using hn) x (List.mem_of_getElem? hx)) (hF.2 i x v hx hv)⟩
 | _=>exact ga (nz.vr h hb hA hx)
theorem LR.any {ty:bX} {w:World} {okb:Nat→Prop} {x:AV} {v:Value} (h:LR ty w okb x v):LR ty w (fun _=>True) x v:=h.mono fun _ _ hl=>⟨trivial,hl,rfl⟩
theorem LR.cL {ty:bX} {w:World} {okb:Nat→Prop} {t:TypeId} {fl:Fl} {es:List AV} {v:Value} (h:LR ty w okb (.sl t fl es) v) (fr:Bool):LR ty w okb (.sl t ⟨fr,fl.nil,fl.tight⟩ es) v:=by
 cases h with
 | sx t fl cc h1 h2=>exact .sx t _ cc h1 h2
 | sl t fl es eQ off cc vs h1 h2 h3 h4 h5 h6 h7=>exact .sl t _ es eQ off cc vs h1 h2 h3 h4 h5 h6 h7
theorem LR.loose {ty:bX} {w:World} {okb:Nat→Prop} {t:TypeId} {fl:Fl} {es:List AV} {v:Value} (h:LR ty w okb (.sl t fl es) v):LR ty w okb (.sl t ⟨false,none,false⟩ es) v:=by
 cases h with
 | sx t fl cc h1 h2=>exact .sx t _ cc (by simp) h2
 | sl t fl es eQ off cc vs h1 h2 h3 h4 h5 h6 h7=>exact .sl t _ es eQ off cc vs h1 (by simp) (by simp) h4 h5 h6 h7
theorem LR.He {ty:bX} {w:World} {okb:Nat→Prop} {t:TypeId} {f:Bool} {x:AV} {v:Value} (h:LR ty w okb (.ro f t x) v) (fr:Bool):LR ty w okb (.ro fr t x) v:=by
 cases h with
 | ro f t x eQ off vs h1 h2 h3 h4 h5=>exact .ro fr t x eQ off vs h1 h2 h3 h4 h5
theorem mz {E:Env} {w0 w:World} {σ:St} {a:Act} {β:Nat→Option Nat} (h:bG E w0 σ a w β) {o k:Nat} {b:Obj} {t:TypeId} (hb:aA o σ.ob=some b) (hr:b.r = .row t) (hk:β o=some k) :
 ∃ arr e,w.heap[k]? = some (.cells arr e (0,0))∧(∀ x ∈ b.es,br E.ty t x)∧∀ (j:Nat) (x:AV),(ay b.es)[j]? = some x→∃ v,arr[j]? = some v∧LR E.ty w ((aK E w0 σ w β).okb b.fr) x v:=by
 obtain⟨h1,h2⟩:=h.gD o b hb;simp only[aK,hk] at h2;obtain⟨_,arr,e,h3,h4⟩:=h2;unfold pk at h1;rw[hr] at h1;refine⟨arr,e,h3,h1.1,fun j x hx=>?_⟩;obtain⟨v,h5,h6⟩:=h4 j x hx;refine⟨v,h5,?_⟩;unfold fw at h6;rw[hr] at h6;exact h6
theorem jc {s:Nat} {es:List AV} (h:∀ x ∈ es,(leaves x).length=s) (n j:Nat):(ay (es.drop n))[j]? = (ay es)[n * s+j]?:=by
 induction n generalizing es with
 | zero=>simp
 | succ n ih=>
   cases es with
   | nil=>simp[ay]
   | cons x r=>
     rw[List.drop_succ_cons,ih (fun y hy=>h y (by simp[hy]))];simp only[ay];rw[List.getElem?_append_right (by rw[h x (by simp),Nat.succ_mul];omega),h x (by simp)];congr 1;rw[Nat.succ_mul];omega
theorem eO {es:List AV} (n j:Nat) {y:AV} (hy:(ay (es.take n))[j]? = some y):(ay es)[j]? = some y:=by
 have e:ay es=ay (es.take n)++ay (es.drop n):=by rw[← cr,List.take_append_drop]
 rw[e,List.getElem?_append_left (List.getElem?_eq_some_iff.1 hy).1];exact hy
theorem C1 {E:Env} {w0 w:World} {σ:St} {a:Act} {β:Nat→Option Nat} (h:bG E w0 σ a w β) {o off n:Nat} {b:Obj} {t:TypeId} {v:Value} (hb:aA o σ.ob=some b) (hr:b.r = .row t)
 (hn:off+n≤b.es.length) (gq:0 < aH E.ty t) (hv:VR (aK E w0 σ w β) (.own o t off n) v) (okb:Nat→Prop) (gU:∀ k,β o=some k→okb k) (de:∀ k,(aK E w0 σ w β).okb b.fr k→okb k) (fl:Fl) (tv:fl.nil=none) (htl:fl.tight=false) :
 LR E.ty w okb (.sl t fl ((b.es.drop off).take n)) v:=by
 have hlen:((b.es.drop off).take n).length=n:=by simp;omega
 rcases VR.jL hv with ⟨_,h1,h2,h3⟩ | ⟨k,cp,arr,e,g1,g2,g3,g4,g5⟩
 ·subst h2;subst h3;exact .sx t fl 0 (by rw[tv];simp) rfl
 ·obtain⟨arr',e',k1,k2,k3⟩:=mz h hb hr g1;have Bj:w.heap[k]? = some (.cells arr e (0,0)):=g2;rw[k1] at Bj;injection Bj with Bj;injection Bj with q1 q2 q3;subst q1;subst q2
  have hs:∀ x ∈ b.es,(leaves x).length=aH E.ty t:=fun x hx=>(k2 x hx).len
  have cw:∀ (j:Nat) (y:AV),(ay ((b.es.drop off).take n))[j]? = some y→∃ u,w.cell? ⟨k,off * aH E.ty t+j,none⟩=some u∧LR E.ty w okb y u:=fun j y hy=>by
   have h1:=eO n j hy;rw[jc hs] at h1;obtain⟨u,r1,r2⟩:=k3 _ y h1;refine⟨u,?_,r2.mono fun b hb hl=>⟨de b hb,hl,rfl⟩⟩;rw[lg w k _ _ _ _ k1];exact r1
  obtain⟨us,e1,e2⟩:=eR (ay ((b.es.drop off).take n)) (fun j z u=>w.cell? ⟨k,off * aH E.ty t+j,none⟩=some u∧LR E.ty w okb z u) cw;have hu:∀ (j:Nat) (z:AV),(ay ((b.es.drop off).take n))[j]? = some z→us[j]? = some (us.getD j undef):=fun j z hz=>by
   have:j < us.length:=by rw[e1];exact (List.getElem?_eq_some_iff.1 hz).1
   simp[this]
  have:=LR.sl (ty:=E.ty) (w:=w) (okb:=okb) t fl ((b.es.drop off).take n) k (off * aH E.ty t) cp (fun j=>us.getD j undef) (by rw[hlen];exact g4) (by rw[tv];simp) (by rw[htl];simp)
   (fun _=>⟨gU k g1,(Array.getElem?_eq_some_iff.1 k1).1⟩) (fun x hx=>k2 x (List.mem_of_mem_drop (List.mem_of_mem_take hx)))
   (fun j y hy=>(e2 j y _ hy (hu j y hy)).1) (fun j y hy=>(e2 j y _ hy (hu j y hy)).2)
  rw[hlen] at this;rw[g5];exact this
end Go.Abs
end
section
namespace Go.Abs
open Go Go.RowKit
section
variable {P:Program} {E:Env} {w0 w:World} {σ:St} {a:Act} {β:Nat→Option Nat}
def aca (c:Cx) (T:Nat→Prop) (z z':AV):Prop:=∀ v,(OR c z v∨∃ okb,(∀ b,okb b→T b)∧LR c.ty c.w okb z v)→LR c.ty c.w T z' v
structure ff (c:Cx) (S:AV→AV→Prop) (x y:AV):Prop where
 fy:∀ t,br c.ty t x→br c.ty t y
 leaf:bq x=true→bq y=true∧S x y
 all:∀ t,br c.ty t x→∀ (j:Nat) (z':AV),(leaves y)[j]? = some z'→∃ z,(leaves x)[j]? = some z∧S z z'
abbrev Ly (c:Cx) (T:Nat→Prop) (x y:AV):Prop:=ff c (aca c T) x y
theorem ff.eJ {c:Cx} {S:AV→AV→Prop} {x y:AV} (hx:bq x=true) (hy:bq y=true) (hs:S x y):ff c S x y where
 fy:=fun t hc=>by
  cases hc with
  | leaf h1 h2 h3 _=>exact .leaf h1 h2 h3 hy
  | st=>cases hx
  | ar=>cases hx
 leaf:=fun _=>⟨hy,hs⟩
 all:=fun t _ j z' hz=>by
  rw[bY hy] at hz;rw[bY hx];cases j with
  | zero=>simp at hz;subst hz;exact⟨x,rfl,hs⟩
  | succ j=>simp at hz
theorem oE {ty:bX} {ob:List (Nat × Obj)}:∀ (k:Nat) (fs gs:List AV),cH.gQ ty ob k fs=some gs→gs.length=fs.length∧
 ∀ (i:Nat) (x:AV),fs[i]? = some x→∃ k' y,k' < k∧gs[i]? = some y∧cH ty ob k' x=some y
 | 0,fs,gs,h=>by cases fs <;> simp[cH.gQ] at h
 | k+1,[],gs,h=>by simp[cH.gQ] at h;subst h;simp
 | k+1,x::r,gs,h=>by
   simp only[cH.gQ] at h;obtain⟨y,h1,h2⟩:=aq h;obtain⟨l,h3,h4⟩:=aq h2;injection h4 with h4;subst h4
   obtain⟨e1,e2⟩:=oE k r l h3;refine⟨by simp[e1],fun i z hz=>?_⟩;cases i with
   | zero=>simp at hz;subst hz;exact⟨k,y,Nat.lt_succ_self _,rfl,h1⟩
   | succ i=>
     obtain⟨k',y',h5,h6,h7⟩:=e2 i z (by simpa using hz);exact⟨k',y',by omega,by simpa using h6,h7⟩
theorem OR.bq {c:Cx} {x:AV} {v:Value} (h:OR c x v):bq x=true:=by
 cases h with
 | cl h=>exact h.leaf
 | _=>rfl
theorem wb {α:Type} (es:List α) (i n:Nat):(if i=0∧n=es.length then es else (es.drop i).take n)=(es.drop i).take n:=by
 split
 ·rename_i h;obtain⟨h1,h2⟩:=h;subst h1;subst h2;simp
 ·rfl
theorem ln {ty:bX} {c:Cx} {S:AV→AV→Prop} (hc:c.ty=ty) {t:TypeId} {fs gs:List AV} (h:br ty t (.st t fs)) (hl:gs.length=fs.length)
 (hk:∀ (i:Nat) (x:AV),fs[i]? = some x→∃ y,gs[i]? = some y∧ff c S x y):br ty t (.st t gs)∧
 ∀ (j:Nat) (z':AV),(ay gs)[j]? = some z'→∃ z,(ay fs)[j]? = some z∧S z z':=by
 subst hc;cases h with
 | leaf _ _ _ q4=>cases q4
 | @st _ ts s b z _ h1 h2 h3 h4=>
   have ja:∀ (i:Nat) (x:AV) (u:TypeId),gs[i]? = some x→ts[i]? = some u→br c.ty u x:=fun i y u hy hu=>by
    have hi:i < fs.length:=by rw[← hl];exact (List.getElem?_eq_some_iff.1 hy).1
    obtain⟨y',e1,e2⟩:=hk i fs[i] (by simp[hi]);rw[hy] at e1;injection e1 with e1;subst e1
    exact e2.fy u (h4 i _ u (by simp[hi]) hu)
   refine⟨.st h1 (by rw[hl];exact h2) h3 ja,?_⟩;have key:∀ (fs gs:List AV) (ts:List TypeId),fs.length=ts.length→gs.length=fs.length→(∀ (i:Nat) (x:AV) (u:TypeId),fs[i]? = some x→ts[i]? = some u→br c.ty u x)→
    (∀ (i:Nat) (x:AV) (u:TypeId),gs[i]? = some x→ts[i]? = some u→br c.ty u x)→
    (∀ (i:Nat) (x:AV),fs[i]? = some x→∃ y,gs[i]? = some y∧ff c S x y)→∀ (j:Nat) (z':AV),(ay gs)[j]? = some z'→∃ z,(ay fs)[j]? = some z∧S z z':=by
    intro fs
    induction fs with
    | nil=>intro gs ts _ h2 _ _ _ j z' hz;cases gs with | nil=>simp[ay] at hz | cons _ _=>simp at h2
    | cons x r ih=>
      intro gs ts h1 h2 h3 CQ h4 j z' hz;cases gs with
      | nil=>simp at h2
      | cons y q=>
        cases ts with
        | nil=>simp at h1
        | cons u us=>
          obtain⟨y',e1,e2⟩:=h4 0 x rfl;simp at e1;subst e1;have hx:=h3 0 x u rfl rfl;have hy:=CQ 0 y u rfl rfl;simp only[ay] at hz ⊢;by_cases hj:j < (leaves x).length
          ·rw[List.getElem?_append_left (by rw[hy.len,← hx.len];exact hj)] at hz;obtain⟨z,r1,r2⟩:=e2.all u hx j z' hz;exact⟨z,by rw[List.getElem?_append_left hj];exact r1,r2⟩
          ·rw[List.getElem?_append_right (by rw[hy.len,← hx.len];omega),hy.len,← hx.len] at hz;obtain⟨z,r1,r2⟩:=ih q us (by simpa using h1) (by simpa using h2) (fun i x u hx hu=>h3 (i+1) x u (by simpa using hx) (by simpa using hu))
            (fun i x u hx hu=>CQ (i+1) x u (by simpa using hx) (by simpa using hu)) (fun i x hx=>by obtain⟨y,a1,a2⟩:=h4 (i+1) x (by simpa using hx);exact⟨y,by simpa using a1,a2⟩) _ z' hz
           exact⟨z,by rw[List.getElem?_append_right (by omega)];exact r1,r2⟩
   exact key fs gs ts h2 hl h4 ja hk
theorem Qy (hT:dk P E.ty) (h:bG E w0 σ a w β) {T:Nat→Prop} (Vj:∀ b,¬ (aK E w0 σ w β).mu b→T b):∀ (k:Nat) (x y:AV),(closed x=true∨∀ b,T b)→cH E.ty σ.ob k x=some y→Ly (aK E w0 σ w β) T x y:=by
 have Bk:∀ {f:Bool} {z:AV} {v:Value},LR E.ty w ((aK E w0 σ w β).okb f) z v→LR E.ty w T z v:=fun hv=>hv.mono fun b hb hl=>⟨Vj b hb.1,hl,rfl⟩
 have Bl:∀ {okb:Nat→Prop} {z:AV} {v:Value},(∀ b,okb b→T b)→LR E.ty w okb z v→LR E.ty w T z v:=fun ho hv=>hv.mono fun b hb hl=>⟨ho b hb,hl,rfl⟩
 intro k
 induction k using Nat.strongRecOn with
 | _ k ih=>
   intro x y nR cN;cases k with
   | zero=>simp[cH] at cN
   | succ k=>
     cases x with
     | undef=>simp[cH] at cN
     | cE _=>simp[cH] at cN
     | int kk n=>
       simp only[cH] at cN;injection cN with cN;subst cN
       refine ff.eJ rfl rfl fun v hv=>?_
       rcases hv with hv | ⟨_,yT,hv⟩
       ·cases hv with | cl hv=>exact Bk hv
       ·exact Bl yT hv
     | bool b=>
       simp only[cH] at cN;injection cN with cN;subst cN
       refine ff.eJ rfl rfl fun v hv=>?_
       rcases hv with hv | ⟨_,yT,hv⟩
       ·cases hv with | cl hv=>exact Bk hv
       ·exact Bl yT hv
     | str s=>
       simp only[cH] at cN;injection cN with cN;subst cN
       refine ff.eJ rfl rfl fun v hv=>?_
       rcases hv with hv | ⟨_,yT,hv⟩
       ·cases hv with | cl hv=>exact Bk hv
       ·exact Bl yT hv
     | iu=>
       simp only[cH] at cN;injection cN with cN;subst cN
       refine ff.eJ rfl rfl fun v hv=>?_
       rcases hv with hv | ⟨_,yT,hv⟩
       ·cases hv with | cl hv=>exact Bk hv
       ·exact Bl yT hv
     | dY=>
       simp only[cH] at cN;injection cN with cN;subst cN
       refine ff.eJ rfl rfl fun v hv=>?_
       rcases hv with hv | ⟨_,yT,hv⟩
       ·cases hv with | cl hv=>exact Bk hv
       ·exact Bl yT hv
     | mp _ _ _=>
       simp only[cH] at cN;injection cN with cN;subst cN
       refine ff.eJ rfl rfl fun v hv=>?_
       rcases hv with hv | ⟨_,yT,hv⟩
       ·cases hv with | cl hv=>exact Bk hv
       ·exact Bl yT hv
     | sl t fl es=>
       simp only[cH] at cN;injection cN with cN;subst cN
       refine ff.eJ rfl rfl fun v hv=>?_
       rcases hv with hv | ⟨_,yT,hv⟩
       ·cases hv with | cl hv=>exact (Bk hv).loose
       ·exact (Bl yT hv).loose
     | ro f t q=>
       simp only[cH] at cN;injection cN with cN;subst cN
       refine ff.eJ rfl rfl fun v hv=>?_
       rcases hv with hv | ⟨_,yT,hv⟩
       ·cases hv with | cl hv=>exact (Bk hv).He false
       ·exact (Bl yT hv).He false
     | ar t es=>
       simp only[cH] at cN;injection cN with cN;subst cN
       refine⟨fun _ hc=>hc,(fun hl=>by cases hl),fun u hc j z' hz=>⟨z',hz,?_⟩⟩;have wc:closed z'=true∧fresh z'=true∧(∀ fr,cL fr z'=z')∧bq z'=true:=by
        cases hc with
        | leaf _ _ _ q4=>cases q4
        | ar h1 h2 h3 h4 h5=>
          have hm:=List.mem_of_getElem? hz;simp only[leaves] at hm;obtain⟨q,h6,h7⟩:=cm hm;exact fA _ q (Nat.lt_succ_self _) (h5 q h6) z' h7
       intro v hv;rcases hv with hv | ⟨_,yT,hv⟩
       ·exact Bk (hv.lr wc.1 (fr:=false) (fun hf=>by cases hf))
       ·exact Bl yT hv
     | st t fs=>
       simp only[cH] at cN;obtain⟨gs,h1,h2⟩:=aq cN;injection h2 with h2;subst h2
       obtain⟨e1,e2⟩:=oE k fs gs h1;have hk:∀ (i:Nat) (x:AV),fs[i]? = some x→∃ y,gs[i]? = some y∧Ly (aK E w0 σ w β) T x y:=fun i x hx=>by
        obtain⟨k',y,h3,h4,h5⟩:=e2 i x hx;exact⟨y,h4,ih k' (by omega) x y (nR.imp (fun hc=>iK (by simpa[closed] using hc) x (List.mem_of_getElem? hx)) id) h5⟩
       refine⟨fun u hc=>?_,(fun hl=>by cases hl),fun u hc j z' hz=>?_⟩
       ·have hu:u=t:=by
         cases hc with
         | leaf _ _ _ q4=>cases q4
         | st _ _ _ _=>rfl
        subst hu;exact (ln (c:=aK E w0 σ w β) rfl hc e1 hk).1
       ·have hu:u=t:=by
         cases hc with
         | leaf _ _ _ q4=>cases q4
         | st _ _ _ _=>rfl
        subst hu;exact (ln (c:=aK E w0 σ w β) rfl hc e1 hk).2 j z' hz
     | fn f cs=>
       simp only[cH] at cN;obtain⟨ds,h1,h2⟩:=aq cN;injection h2 with h2;subst h2
       obtain⟨e1,e2⟩:=oE k cs ds h1;refine ff.eJ rfl rfl fun v hv=>?_
       have key:∀ (us:Array Value),us.size=cs.length→(∀ (i:Nat) (x:AV),cs[i]? = some x→bq x=true∧(OR (aK E w0 σ w β) x (us.getD i undef)∨∃ okb,(∀ b,okb b→T b)∧LR E.ty w okb x (us.getD i undef)))→
        LR E.ty w T (.fn f ds) (.func (.func f) #[] us):=fun us cS hu=>by
        refine .fn f ds us (by rw[e1];exact cS) fun i y hy=>?_
        have hi:i < cs.length:=by rw[← e1];exact (List.getElem?_eq_some_iff.1 hy).1
        obtain⟨k',y',h3,h4,h5⟩:=e2 i cs[i] (by simp[hi]);rw[hy] at h4;injection h4 with h4;subst h4
        obtain⟨hl,nP⟩:=hu i cs[i] (by simp[hi]);exact ((ih k' (by omega) _ y (nR.imp (fun hc=>by simp[closed] at hc;subst hc;simp at hi) id) h5).leaf hl).2 _ nP
       rcases hv with hv | ⟨okb,yT,hv⟩
       ·cases hv with
        | cl hv=>
          cases hv with
          | fn f cs us h3 h4=>exact key us h3 fun i x hx=>⟨(h4 i x hx).leaf,.inr ⟨_,fun b hb=>Vj b hb.1,h4 i x hx⟩⟩
        | fn f cs us h3 h4=>
          exact key us h3 fun i x hx=>⟨(h4 i x hx).bq,.inl (h4 i x hx)⟩
       ·cases hv with
        | fn f cs us h3 h4=>exact key us h3 fun i x hx=>⟨(h4 i x hx).leaf,.inr ⟨_,yT,h4 i x hx⟩⟩
     | own o t i n=>
       have cw:∀ b,T b:=nR.elim (fun hc=>by simp[closed] at hc) id;simp only[cH] at cN;split at cN
       ·rename_i u fr es zr;split at cN
        ·rename_i hc;obtain⟨c1,c2⟩:=hc;subst c1;injection cN with cN;subst cN
         rw[wb];refine ff.eJ rfl rfl fun v hv=>?_
         have hOR:OR (aK E w0 σ w β) (.own o t i n) v:=by
          rcases hv with hv | ⟨_,yT,hv⟩
          ·exact hv
          ·cases hv
         have gq:0 < aH E.ty t:=by
          have:=(h.gD o _ zr).fy;exact this.2
         exact C1 h zr rfl c2 gq hOR T (fun k _=>cw k) (fun k _=>cw k) _ rfl rfl
        ·cases cN
       ·cases cN
     | ptr o r p=>
       have cw:∀ b,T b:=nR.elim (fun hc=>by simp[closed] at hc) id;simp only[cH] at cN;split at cN
       ·rename_i b zr;split at cN
        ·rename_i CF;split at cN
         ·rename_i q hq;split at cN
          ·rename_i u hu;obtain⟨y',h1,h2⟩:=aq cN;injection h2 with h2;subst h2
           have hqy:=ih k (Nat.lt_succ_self _) q y' (.inr cw) h1;refine ff.eJ rfl rfl fun v hv=>?_
           have hOR:VR (aK E w0 σ w β) (.ptr o r p) v:=by
            rcases hv with hv | ⟨_,yT,hv⟩
            ·exact hv
            ·cases hv
           obtain⟨kk,dd,e1,e2,e3⟩:=VR.kF hOR;subst CF;obtain⟨u',a1,a2,arr,e,a3,a4⟩:=qD (h.gD o b zr) e2 hq e3;have nP:u=u':=by
            have:b.r.di E.ty p=some u':=a1;rw[hu] at this;injection this
           subst nP;have hc:=hqy.fy u a2;have ig:∀ (j:Nat) (z':AV),(leaves y')[j]? = some z'→∃ v,w.cell? ⟨kk,dd+j,none⟩=some v∧LR E.ty w T z' v:=fun j z' hz=>by
            obtain⟨z,r1,r2⟩:=hqy.all u a2 j z' hz;obtain⟨v,r3,r4⟩:=a4 j z r1;refine⟨v,r3,r2 v ?_⟩;unfold fw at r4;split at r4
            ·exact .inl r4
            ·exact .inr ⟨_,fun b _=>cw b,r4⟩
            ·exact .inl r4
           obtain⟨us,f1,f2⟩:=eR (leaves y') (fun j z v=>w.cell? ⟨kk,dd+j,none⟩=some v∧LR E.ty w T z v) ig;have Bm:∀ (j:Nat) (z:AV),(leaves y')[j]? = some z→us[j]? = some (us.getD j undef):=fun j z hz=>by
            have:j < us.length:=by rw[f1];exact (List.getElem?_eq_some_iff.1 hz).1
            simp[this]
           rw[e1];exact .ro false u y' kk dd (fun j=>us.getD j undef) (cw _) (Array.getElem?_eq_some_iff.1 a3).1 hc (fun j y hy=>(f2 j y _ hy (Bm j y hy)).1) (fun j y hy=>(f2 j y _ hy (Bm j y hy)).2)
          ·cases cN
         ·cases cN
        ·cases cN
       ·cases cN
theorem Fp (hT:dk P E.ty) (h:bG E w0 σ a w β) {T:Nat→Prop} (Vj:∀ b,¬ (aK E w0 σ w β).mu b→T b) {k:Nat} {x y:AV} {v:Value} (nR:closed x=true∨∀ b,T b) (cN:cH E.ty σ.ob k x=some y) (hx:mM (aK E w0 σ w β) x v):nz E.ty w (fun _=>T) y v:=by
 have ok:=Qy hT h Vj k x y nR cN;have pT:∀ vs:Array Value,∀ t,br E.ty t x→F2 (OR (aK E w0 σ w β)) (leaves x) vs.toList→F2 (LR E.ty w T) (leaves y) vs.toList:=fun vs t hc hF=>by
  have hl:(leaves y).length=(leaves x).length:=by rw[(ok.fy t hc).len,br.len (ty:=E.ty) hc];rfl
  refine⟨by rw[hl];exact hF.1,fun i z' u hz hu=>?_⟩;obtain⟨z,r1,r2⟩:=ok.all t hc i z' hz;exact r2 u (.inl (hF.2 i z u r1 hu))
 cases x with
 | st t fs=>
   obtain⟨vs,e,hc,hF⟩:=hx;cases k with
   | zero=>simp[cH] at cN
   | succ k=>
     simp only[cH] at cN;obtain⟨gs,h1,h2⟩:=aq cN;injection h2 with h2;subst h2
     exact⟨vs,e,ok.fy t hc,pT vs t hc hF⟩
 | ar t es=>
   obtain⟨vs,e,hc,hF⟩:=hx;cases k with
   | zero=>simp[cH] at cN
   | succ k=>
     simp only[cH] at cN;injection cN with cN;subst cN
     exact⟨vs,e,hc,pT vs t hc hF⟩
 | cE _=>exact hx.elim
 | _=>
   obtain⟨h1,h2⟩:=ok.leaf rfl;exact (C0 h1).2 (h2 v (.inl hx))
end
end Go.Abs
end
section
namespace Go.Abs
open Go Go.RowKit
section
variable {P:Program} {E:Env} {w0 w:World} {σ:St} {a:Act} {β:Nat→Option Nat}
theorem bG.Bn (h:bG E w0 σ a w β) {d:Nat} (hf:σ.free d=true) {t:TypeId} {fr:Bool} (gq:0 < aH E.ty t) :
 bG E w0 ⟨σ.tm,bE d ⟨.row t,fr,[]⟩ σ.ob⟩ a w (fun o=>if o=d then none else β o):=by
 simp only[St.free,Bool.and_eq_true] at hf;have m:mS (aK E w0 σ w β) (aK E w0 ⟨σ.tm,bE d ⟨.row t,fr,[]⟩ σ.ob⟩ w (fun o=>if o=d then none else β o)):={
  ty:=rfl,base:=rfl,new:=rfl,size:=Nat.le_refl _
  cA:=fun k hk hl=>⟨fun lh=>lh.elim (fun q=>hk (.inl q)) fun⟨o,b',h1,h2⟩=>by
   simp only[bn] at h1;dsimp only at h2;by_cases ho:o=d
   ·rw[if_pos ho] at h2;cases h2
   ·rw[if_neg ho] at h2;rw[if_neg (Ne.symm ho)] at h1;exact hk (.inr ⟨o,b',h1,h2⟩),rfl⟩
  rows:=fun k arr' e' hk=>⟨arr',hk,rfl⟩ }
 exact {
  below:=h.below,size:=h.size,defers:=h.defers
  tms:=fun t x hx=>⟨(h.tms t x hx).1,m.vr (h.tms t x hx).2 fun o ho=>by
   show (if o=d then _ else β o)=β o;rw[if_neg];rintro rfl;rw[iI hf.1 t x hx] at ho;cases ho⟩
  gD:=fun o b' ho=>by
   simp only[bn] at ho;split at ho
   ·rename_i e1;subst e1;injection ho with ho;subst ho
    exact⟨⟨by simp,gq⟩,by simp[aK]⟩
   ·rename_i d_;refine m.KT (h.gD o b' ho) (fun o' my=>?_) ?_ fun k hk=>rfl
    ·show (if o'=d then _ else β o')=β o';rw[if_neg];rintro rfl;rw[kU hf.2 o b' ho (Ne.symm d_)] at my;cases my
    ·show (if o=d then _ else β o)=β o;rw[if_neg (Ne.symm d_)]
  inj:=fun o o' b1 b2 k h1 h2 k1 k2=>by
   simp only[bn] at h1 h2;by_cases e1:o=d
   ·rw[if_pos e1] at k1;cases k1
   ·by_cases e2:o'=d
    ·rw[if_pos e2] at k2;cases k2
    ·rw[if_neg e1] at k1;rw[if_neg e2] at k2;rw[if_neg (Ne.symm e1)] at h1;rw[if_neg (Ne.symm e2)] at h2;exact h.inj o o' b1 b2 k h1 h2 k1 k2 }
theorem bG.move (h:bG E w0 σ a w β) {d o:Nat} (hf:σ.free d=true) {b:Obj} {t:TypeId} (hr:b.r = .row t) (ho:aA o σ.ob=some b) (hod:o ≠ d) :
 bG E w0 ⟨σ.tm,bE d b (cK o σ.ob)⟩ a w (fun q=>if q=d then β o else β q):=by
 simp only[St.free,Bool.and_eq_true] at hf;have get:∀ q b',aA q (bE d b (cK o σ.ob))=some b'→(q=d∧b'=b)∨(q ≠ d∧q ≠ o∧aA q σ.ob=some b'):=fun q b' hq=>by
  simp only[bn,cZ] at hq;split at hq
  ·rename_i e;injection hq with hq;exact .inl ⟨e.symm,hq.symm⟩
  ·rename_i e;split at hq
   ·cases hq
   ·rename_i e2;exact .inr ⟨Ne.symm e,Ne.symm e2,hq⟩
 have m:mS (aK E w0 σ w β) (aK E w0 ⟨σ.tm,bE d b (cK o σ.ob)⟩ w (fun q=>if q=d then β o else β q)):={
  ty:=rfl,base:=rfl,new:=rfl,size:=Nat.le_refl _
  cA:=fun k hk hl=>⟨fun lh=>lh.elim (fun q=>hk (.inl q)) fun⟨q,b',h1,h2⟩=>by
   dsimp only at h2;rcases get q b' h1 with ⟨e1,e2⟩ | ⟨e1,e2,e3⟩
   ·rw[if_pos e1] at h2;exact hk (.inr ⟨o,b,ho,h2⟩)
   ·rw[if_neg e1] at h2;exact hk (.inr ⟨q,b',e3,h2⟩),rfl⟩
  rows:=fun k arr' e' hk=>⟨arr',hk,rfl⟩ }
 have hβ:∀ q,q ≠ d→(fun q=>if q=d then β o else β q) q=β q:=fun q hq=>if_neg hq
 exact {
  below:=h.below,size:=h.size,defers:=h.defers
  tms:=fun t x hx=>⟨(h.tms t x hx).1,m.vr (h.tms t x hx).2 fun q hq=>hβ q (by
   rintro rfl;rw[iI hf.1 t x hx] at hq;cases hq)⟩
  gD:=fun q b' hq=>by
   rcases get q b' hq with ⟨e1,e2⟩ | ⟨e1,e2,e3⟩
   ·subst e1;subst e2;obtain⟨h1,h2⟩:=h.gD o b' ho;refine⟨by exact h1,?_⟩;simp only[aK,if_true] at h2 ⊢;split
    ·rename_i hn;rw[hn] at h2;exact h2
    ·rename_i k hk;rw[hk] at h2;obtain⟨q1,arr,e,q2,q3⟩:=h2;refine⟨q1,arr,e,q2,fun j x hx=>?_⟩;obtain⟨v,r1,r2⟩:=q3 j x hx;refine⟨v,r1,?_⟩;unfold fw at r2 ⊢;rw[hr] at r2 ⊢;exact m.lr r2
   ·refine m.KT (h.gD q b' e3) (fun o' my=>hβ o' ?_) (hβ q e1) fun k hk=>rfl
    rintro rfl;rw[kU hf.2 q b' e3 e1] at my;cases my
  inj:=fun q q' b1 b2 k h1 h2 k1 k2=>by
   rcases get q b1 h1 with ⟨e1,e2⟩ | ⟨e1,e2,e3⟩ <;> rcases get q' b2 h2 with ⟨e1',Qv⟩ | ⟨e1',Qv,e3'⟩
   ·omega
   ·rw[if_pos e1] at k1;rw[if_neg e1'] at k2;exact absurd (h.inj o q' b b2 k ho e3' k1 k2) (Ne.symm Qv)
   ·rw[if_neg e1] at k1;rw[if_pos e1'] at k2;exact absurd (h.inj q o b1 b k e3 ho k1 k2) e2
   ·rw[if_neg e1] at k1;rw[if_neg e1'] at k2;exact h.inj q q' b1 b2 k e3 e3' k1 k2 }
theorem Fq (h:bG E w0 σ a w β) {e:TypeId} {x:AV} {v:Value} {xs:List AV} {fr:Bool} (hx:u6 σ.ob e x=some (xs,fr)) (hv:VR (aK E w0 σ w β) x v) :
 (∀ y ∈ xs,br E.ty e y)∧∃ news:List Value,news.length=(ay xs).length∧(∀ (j:Nat) (y:AV) (u:Value),(ay xs)[j]? = some y→news[j]? = some u→LR E.ty w ((aK E w0 σ w β).okb fr) y u)∧
   ((v = .slice none 0 0∧xs=[])∨∃ k off c,v = .slice (some ⟨k,off,none⟩) xs.length c∧∀ j u,news[j]? = some u→w.cell? ⟨k,off+j,none⟩=some u):=by
 have fin:∀ (xs:List AV) (k off:Nat),(∀ (j:Nat) (y:AV),(ay xs)[j]? = some y→∃ u,w.cell? ⟨k,off+j,none⟩=some u∧LR E.ty w ((aK E w0 σ w β).okb fr) y u)→
  ∃ news:List Value,news.length=(ay xs).length∧(∀ (j:Nat) (y:AV) (u:Value),(ay xs)[j]? = some y→news[j]? = some u→LR E.ty w ((aK E w0 σ w β).okb fr) y u)∧∀ j u,news[j]? = some u→w.cell? ⟨k,off+j,none⟩=some u:=fun xs k off cw=>by
  obtain⟨us,e1,e2⟩:=eR (ay xs) (fun j z u=>w.cell? ⟨k,off+j,none⟩=some u∧LR E.ty w ((aK E w0 σ w β).okb fr) z u) cw;refine⟨us,e1,fun j y u hy hu=>(e2 j y u hy hu).2,fun j u hu=>?_⟩;have hj:j < (ay xs).length:=by rw[← e1];exact (List.getElem?_eq_some_iff.1 hu).1
  exact (e2 j _ u (List.getElem?_eq_getElem hj) hu).1
 unfold u6 at hx;split at hx
 ·rename_i o u i n;split at hx
  ·rename_i u2 fr' es hb;split at hx
   ·rename_i hc;obtain⟨c1,c2,c3⟩:=hc;subst c1;subst c2;injection hx with hx;injection hx with h1 h2;subst h1;subst h2
    rw[wb];have hlen:((es.drop i).take n).length=n:=by simp;omega
    have sj:∀ y ∈ es,br E.ty u2 y:=(h.gD o _ hb).fy.1;refine⟨fun y hy=>sj y (List.mem_of_mem_drop (List.mem_of_mem_take hy)),?_⟩;rcases VR.jL hv with ⟨_,h1,h2,h3⟩ | ⟨k,cp,arr,e,g1,g2,g3,g4,g5⟩
    ·subst h2;subst h3;exact⟨[],by simp[ay],fun j y u hy _=>by simp[ay] at hy,.inl ⟨rfl,by simp⟩⟩
    ·obtain⟨arr',e',k1,k2,k3⟩:=mz h hb rfl g1;have hs:∀ x ∈ es,(leaves x).length=aH E.ty u2:=fun x hx=>(k2 x hx).len
     obtain⟨news,n1,n2,n3⟩:=fin ((es.drop i).take n) k (i * aH E.ty u2) fun j y hy=>by
      have h1:=eO n j hy;rw[jc hs] at h1;obtain⟨u,r1,r2⟩:=k3 _ y h1;exact⟨u,by rw[lg w k _ _ _ _ k1];exact r1,r2⟩
     exact⟨news,n1,n2,.inr ⟨k,i * aH E.ty u2,cp,by rw[g5,hlen];rfl,n3⟩⟩
   ·cases hx
  ·cases hx
 ·rename_i u fl es;split at hx
  ·rename_i hc;injection hx with hx;injection hx with h1 h2;subst h1;subst h2
   rcases VR.lk hv with ⟨q1,_,q3⟩ | ⟨k,off,cp,q1,_,_,_,q4,q5⟩
   ·subst q1;exact⟨by simp,[],by simp[ay],fun j y u hy _=>by simp[ay] at hy,.inl ⟨q3,rfl⟩⟩
   ·refine⟨fun y hy=>?_,?_⟩
    ·rcases hc with hc | hc
     ·subst hc;exact q4 y hy
     ·have:es=[]:=by simpa using hc
      subst this;cases hy
    ·obtain⟨news,n1,n2,n3⟩:=fin es k off q5;exact⟨news,n1,n2,.inr ⟨k,off,cp,q1,n3⟩⟩
  ·cases hx
 ·cases hx
theorem ik (t ty e:TypeId) (i:TypeInfo) (ht:P.underlying t=some (.slice e)) (hi:P.info? e=some i) (base:Option Addr) (n cap:Nat) (hn:n≤cap) (x:Value) (hx:x = .slice none 0 0∨∃ k c,x = .slice (some k) 0 c) :
 (Builtin.append_ #[t,t] ty #[.slice base n cap,x]).run P w = .ok (.slice base n cap) w:=by
 rcases hx with rfl | ⟨k,c,rfl⟩
 ·cases base with
  | none=>simp[Builtin.append_,run_underlying ht,sizeOf,typeInfo,hi,Builtin.lenOf,hn,run_firstCells_none,storeCells]
  | some b=>simp[Builtin.append_,run_underlying ht,sizeOf,typeInfo,hi,Builtin.lenOf,hn,run_firstCells_none,storeCells]
 ·have hf:=run_firstCells_some (P:=P) w i.size 0 k 0 c [] (by simp) (by simp);cases base with
  | none=>simp[Builtin.append_,run_underlying ht,sizeOf,typeInfo,hi,Builtin.lenOf,hn,hf,storeCells]
  | some b=>simp[Builtin.append_,run_underlying ht,sizeOf,typeInfo,hi,Builtin.lenOf,hn,hf,storeCells]
theorem pn (t ty e:TypeId) (i:TypeInfo) (ht:P.underlying t=some (.slice e)) (hi:P.info? e=some i) (k off n m cap:Nat) (iM:n+m≤cap) {ad:Addr} {c:Nat} {news:List Value}
 (hl:news.length=m * i.size) (ace:∀ j u,news[j]? = some u→w.cell? (ad.add j)=some u) {w':World} (fL:(storeCells ⟨k,off+n * i.size,none⟩ news 0).run P w = .ok () w') :
 (Builtin.append_ #[t,t] ty #[.slice (some ⟨k,off,none⟩) n cap,.slice (some ad) m c]).run P w = .ok (.slice (some ⟨k,off,none⟩) (n+m) cap) w':=by
 have hfc:=run_firstCells_some (P:=P) w i.size m ad m c news hl ace;simp[Builtin.append_,run_underlying ht,sizeOf,typeInfo,hi,Builtin.lenOf,iM,hfc,Addr.add_lit,fL]
theorem we (hT:dk P E.ty) (h:bG E w0 σ a w β) {d:Nat} (hf:σ.free d=true) {e:TypeId} {T:kD} (g8:E.ty e=some T) (gq:0 < T.size) {ys:List AV} {fr:Bool} (sj:∀ y ∈ ys,br E.ty e y)
 {arr:Array Value} {cap:Nat} (cS:arr.size=cap * T.size) (Lz:ys.length≤cap)
 (ig:∀ (j:Nat) (y:AV),(ay ys)[j]? = some y→∃ v,arr[j]? = some v∧LR E.ty w ((aK E w0 σ w β).okb fr) y v) :
 ∃ β',bG E w0 ⟨σ.tm,bE d ⟨.row e,fr,ys⟩ σ.ob⟩ a (w.drew.alloc (.cells arr e)) β'∧
   VR (aK E w0 ⟨σ.tm,bE d ⟨.row e,fr,ys⟩ σ.ob⟩ (w.drew.alloc (.cells arr e)) β') (.own d e 0 ys.length) (.slice (some ⟨w.heap.size,0,none⟩) ys.length cap):=by
 have hs:aH E.ty e=T.size:=by simp[aH,g8]
 have h1:bG E w0 σ a w.drew β:=h.grow ((Below.refl _ _).drew);obtain⟨hS,_⟩:=h1.new hf (b:=⟨.row e,fr,ys⟩) (arr:=arr) (e:=e) ⟨sj,by rw[hs];exact gq⟩ rfl
  (fun j q hq=>by
    obtain⟨u,r1,r2⟩:=ig j q hq;exact⟨u,r1,show LR E.ty w.drew ((aK E w0 σ w.drew β).okb fr) q u from r2.mono fun b hb hl=>⟨hb,hl,rfl⟩⟩)
 refine⟨_,hS,?_⟩;have:=OR.own (c:=aK E w0 ⟨σ.tm,bE d ⟨.row e,fr,ys⟩ σ.ob⟩ (w.drew.alloc (.cells arr e)) (fun o=>if o=d then some w.drew.heap.size else β o))
  d e 0 ys.length w.heap.size cap arr e (by simp[aK]) (by show (w.drew.heap.push _)[w.heap.size]? = _;show (w.heap.push _)[w.heap.size]? = _;simp) (by simp[aK,hs,cS]) Lz
 rw[Nat.zero_mul] at this;exact this
theorem lp {d o:Nat}:∀ {l:List (Nat × Obj)},St.free.kZ d l=true→St.free.kZ d (cK o l)=true
 | [],_=>rfl
 | (u,y)::r,h=>by
   simp only[St.free.kZ,Bool.and_eq_true] at h;simp only[cK];split
   ·exact lp h.2
   ·simp only[St.free.kZ,Bool.and_eq_true];exact⟨h.1,lp h.2⟩
theorem oF {α:Type} (o:Nat):∀ (l:List (Nat × α)),cK o (cK o l)=cK o l
 | []=>rfl
 | (u,y)::r=>by
   simp only[cK];split
   ·exact oF o r
   ·rename_i e;simp only[cK];rw[if_neg e,oF o r]
theorem Ft (hT:dk P E.ty) (h:bG E w0 σ a w β) {t ty:TypeId} {d o u2:Nat} (jb:σ.free d=true) {T:kD} (hk:P.underlying t=some (.slice u2)) (g8:E.ty u2=some T) (gq:0 < T.size)
 {i:TypeInfo} (i1:P.info? u2=some i) (i2:i.size=T.size) {fr fr':Bool} {es xs:List AV} {n:Nat} (hb:aA o σ.ob=some ⟨.row u2,fr',es⟩) {vs vx:Value} (hs:VR (aK E w0 σ w β) (.own o u2 0 n) vs)
 (mV:∀ y ∈ xs,br E.ty u2 y) {news:List Value} (n1:news.length=(ay xs).length) (n2:∀ (j:Nat) (y:AV) (u:Value),(ay xs)[j]? = some y→news[j]? = some u→LR E.ty w ((aK E w0 σ w β).okb fr) y u)
 (n3:(vx = .slice none 0 0∧xs=[])∨∃ k off c,vx = .slice (some ⟨k,off,none⟩) xs.length c∧∀ j u,news[j]? = some u→w.cell? ⟨k,off+j,none⟩=some u) (c3:n+xs.length≤es.length) (c4:o ≠ d) :
 ∃ v w' β',(Builtin.append_ #[t,t] ty #[vs,vx]).run P w = .ok v w'∧bG E w0 ⟨σ.tm,bE d ⟨.row u2,fr'&&fr,es.take n++(xs++es.drop (n+xs.length))⟩ (cK o σ.ob)⟩ a w' β'∧
   VR (aK E w0 ⟨σ.tm,bE d ⟨.row u2,fr'&&fr,es.take n++(xs++es.drop (n+xs.length))⟩ (cK o σ.ob)⟩ w' β') (.own d u2 0 (n+xs.length)) v:=by
 have cS:aH E.ty u2=T.size:=by simp[aH,g8]
 have sj:∀ y ∈ es,br E.ty u2 y:=(h.gD o _ hb).fy.1;have yE:news.length=xs.length * i.size:=by
  rw[n1,i2];exact bg T.size _ fun y hy=>by rw[(mV y hy).len,cS]
 have KW:∀ x ∈ es,(leaves x).length=T.size:=fun y hy=>by rw[(sj y hy).len,cS]
 have Hf:∀ b,cK o (bE o b σ.ob)=cK o σ.ob:=fun b=>by
  simp only[bE,cK,if_true];exact oF o σ.ob
 have Qz:∀ b:Obj,(∃ t,b.r = .row t)→St.free ⟨σ.tm,bE o b σ.ob⟩ d=true:=fun b hb=>by
  obtain⟨t,hb⟩:=hb;simp only[St.free,Bool.and_eq_true] at jb ⊢;refine⟨jb.1,?_⟩;simp only[bE,St.free.kZ,hb,bA.du,Bool.not_false,Bool.or_true,Bool.true_and];exact lp jb.2
 have Vd:∀ y ∈ es.take n++(xs++es.drop (n+xs.length)),br E.ty u2 y:=fun y hy=>by
  rcases List.mem_append.1 hy with hy | hy
  ·exact sj y (List.mem_of_mem_take hy)
  ·rcases List.mem_append.1 hy with hy | hy
   ·exact mV y hy
   ·exact sj y (List.mem_of_mem_drop hy)
 rcases VR.jL hs with ⟨q0,_,q1,q2⟩ | ⟨k,cp,arr,e',g1,g2,g3,g4,g5⟩
 ·subst q1;subst q2;have he:es=[]:=by
   have:=(h.gD o _ hb).eQ;have q0':β o=none:=q0;simp only[aK,q0'] at this;exact this.2
  subst he;have Qa:xs=[]:=List.eq_nil_of_length_eq_zero (by simpa using c3);subst Qa;obtain⟨hM0⟩:Nonempty (bG E w0 ⟨σ.tm,bE o ⟨.row u2,fr'&&fr,[]⟩ σ.ob⟩ a w β):=⟨by
   have hl:bG E w0 ⟨σ.tm,σ.ob⟩ a w β:=h;have m:mS (aK E w0 σ w β) (aK E w0 ⟨σ.tm,bE o ⟨.row u2,fr'&&fr,[]⟩ σ.ob⟩ w β):={
    ty:=rfl,base:=rfl,new:=rfl,size:=Nat.le_refl _
    cA:=fun k hk hl=>⟨fun lh=>lh.elim (fun q=>hk (.inl q)) fun⟨o',b',h1,h2⟩=>by
     simp only[bn] at h1;by_cases ho:o=o'
     ·subst ho;exact hk (.inr ⟨o,_,hb,h2⟩)
     ·rw[if_neg ho] at h1;exact hk (.inr ⟨o',b',h1,h2⟩),rfl⟩
    rows:=fun k arr' e' hk=>⟨arr',hk,rfl⟩ }
   exact {
    below:=h.below,size:=h.size,defers:=h.defers
    tms:=fun t x hx=>⟨(h.tms t x hx).1,m.vr (h.tms t x hx).2 fun _ _=>rfl⟩
    gD:=fun o' b' ho=>by
     simp only[bn] at ho;split at ho
     ·rename_i e1;subst e1;injection ho with ho;subst ho
      refine⟨⟨by simp,by rw[show (aK E w0 ⟨σ.tm,bE o ⟨.row u2,fr'&&fr,[]⟩ σ.ob⟩ w β).ty=E.ty from rfl,cS];exact gq⟩,?_⟩;have q0':β o=none:=q0;simp[aK,q0']
     ·exact m.KT (h.gD o' b' ho) (fun _ _=>rfl) rfl fun _ _=>rfl
    inj:=fun o1 o2 b1 b2 k h1 h2 k1 k2=>by
     simp only[bn] at h1 h2;by_cases e1:o=o1
     ·subst e1;by_cases e2:o=o2
      ·exact e2
      ·rw[if_neg e2] at h2;exact h.inj _ _ _ _ k hb h2 k1 k2
     ·rw[if_neg e1] at h1;by_cases e2:o=o2
      ·subst e2;exact h.inj _ _ _ _ k h1 hb k1 k2
      ·rw[if_neg e2] at h2;exact h.inj _ _ _ _ k h1 h2 k1 k2 }⟩
  have hM:=hM0.move (d:=d) (o:=o) (Qz _ ⟨_,rfl⟩) (b:=⟨.row u2,fr'&&fr,[]⟩) (t:=u2) rfl (by rw[bn,if_pos rfl]) c4;simp only[Hf] at hM;refine⟨.slice none 0 0,w,_,ik t ty u2 i hk i1 none 0 0 (Nat.le_refl _) vx ?_,by simpa using hM,?_⟩
  ·rcases n3 with ⟨q,_⟩ | ⟨k,off,c,q,_⟩
   ·exact .inl q
   ·exact .inr ⟨_,c,q⟩
  ·exact .l8 d u2 (by simp only[aK,if_true];exact q0)
 ·obtain⟨fz,e2,k1,k2,k3⟩:=mz h hb rfl g1;have Bj:w.heap[k]? = some (.cells arr e' (0,0)):=g2;rw[k1] at Bj;injection Bj with Bj;injection Bj with q1 q2 q3;subst q1;subst q2
  have QA:(ay es).length=es.length * T.size:=bg T.size _ KW;have Fu:fz.size=cp * T.size:=by
   have:(0+cp) * aH E.ty u2=fz.size:=g3;rw[← this,cS,Nat.zero_add]
  have g5':vs = .slice (some ⟨k,0,none⟩) n cp:=by rw[g5,Nat.zero_mul]
  subst g5';have cw:(ay es).length≤fz.size:=by
   refine Nat.le_of_not_lt fun aR=>?_
   obtain⟨v,r1,_⟩:=k3 fz.size _ (List.getElem?_eq_getElem aR);have:=(Array.getElem?_eq_some_iff.1 r1).1;omega
  have iM:n+xs.length≤cp:=by
   have h1:es.length * T.size≤cp * T.size:=by rw[← QA,← Fu];exact cw
   exact Nat.le_trans c3 (Nat.le_of_mul_le_mul_right h1 gq)
  have de:n * T.size+news.length≤fz.size:=by
   rw[Fu,yE,i2,← Nat.add_mul];exact Nat.mul_le_mul_right _ iM
  have Fk:∀ v ∈ news,i_ v:=fun v hv=>by
   obtain⟨j,hj,e⟩:=List.getElem_of_mem hv;have ve:j < (ay xs).length:=by rw[← n1];exact hj
   rw[← e];exact (n2 j _ _ (List.getElem?_eq_getElem ve) (List.getElem?_eq_getElem hj)).one
  have fL:=eh P k (0+n * i.size) e2 news 0 w fz k1 (by rw[i2];omega) Fk;have gb:(Builtin.append_ #[t,t] ty #[.slice (some ⟨k,0,none⟩) n cp,vx]).run P w = .ok (.slice (some ⟨k,0,none⟩) (n+xs.length) cp) (dB w k (.cells (qC fz (0+n * i.size+0) news) e2 (0,0))):=by
   rcases n3 with ⟨q,q'⟩ | ⟨k',off,c,q,q2⟩
   ·subst q';have kH:news=[]:=List.eq_nil_of_length_eq_zero (by rw[yE];simp);subst kH;rw[qC,nQ w k _ k1];exact ik t ty u2 i hk i1 _ n cp g4 vx (.inl q)
   ·subst q;exact pn t ty u2 i hk i1 k 0 n xs.length cp iM yE (fun j u hu=>by rw[Addr.add_lit];exact q2 j u hu) fL
  have e0:0+n * i.size+0=n * T.size:=by rw[i2];omega
  rw[e0] at gb;have htl:(ay (es.take n)).length=n * T.size:=by
   rw[bg T.size _ fun y hy=>KW y (List.mem_of_mem_take hy),List.length_take];congr 1;omega
  obtain⟨hW,_⟩:=h.write (b':=⟨.row u2,fr'&&fr,es.take n++(xs++es.drop (n+xs.length))⟩) (arr':=qC fz (n * T.size) news) hb g1 k1 (by simp) ⟨Vd,by rw[cS];exact gq⟩ (fun j y hy=>by
   show ∃ v,_∧LR E.ty w ((aK E w0 σ w β).okb (fr'&&fr)) y v;rw[cr,cr] at hy;rw[mT _ _ _ _ de];by_cases hj:j < n * T.size
   ·rw[List.getElem?_append_left (by omega)] at hy;obtain⟨v,r1,r2⟩:=k3 j y (eO n j hy);rw[if_neg (by omega)];exact⟨v,r1,jZ (c:=aK E w0 σ w β) r2 fun hq=>by simp at hq;exact hq.1⟩
   ·rw[List.getElem?_append_right (by omega),htl] at hy;by_cases vU:j - n * T.size < news.length
    ·rw[List.getElem?_append_left (by rw[← n1];exact vU)] at hy;rw[if_pos (by omega)];exact⟨_,List.getElem?_eq_getElem vU,jZ (c:=aK E w0 σ w β) (n2 _ y _ hy (List.getElem?_eq_getElem vU)) fun hq=>by simp at hq;exact hq.2⟩
    ·rw[List.getElem?_append_right (by rw[← n1];omega),jc KW] at hy;have hx:(ay xs).length=xs.length * T.size:=by rw[← n1,yE,i2]
     have e3:(n+xs.length) * T.size+(j - n * T.size - (ay xs).length)=j:=by
      rw[hx,Nat.add_mul];rw[n1,hx] at vU;omega
     rw[e3] at hy;obtain⟨v,r1,r2⟩:=k3 j y hy;rw[if_neg (by omega)];exact⟨v,r1,jZ (c:=aK E w0 σ w β) r2 fun hq=>by simp at hq;exact hq.1⟩)
  have hM:=hW.move (d:=d) (o:=o) (Qz _ ⟨_,rfl⟩) (b:=⟨.row u2,fr'&&fr,es.take n++(xs++es.drop (n+xs.length))⟩) (t:=u2) rfl (by rw[bn,if_pos rfl]) c4;simp only[Hf] at hM;refine⟨_,_,_,gb,hM,?_⟩;have Vk:k < w.heap.size:=(Array.getElem?_eq_some_iff.1 k1).1;have:=OR.own (c:=aK E w0 ⟨σ.tm,bE d ⟨.row u2,fr'&&fr,es.take n++(xs++es.drop (n+xs.length))⟩ (cK o σ.ob)⟩ (dB w k (.cells (qC fz (n * T.size) news) e2 (0,0))) (fun q=>if q=d then β o else β q))
   d u2 0 (n+xs.length) k cp (qC fz (n * T.size) news) e2 (by simp[aK];exact g1) (jW w k _ Vk) (by simp[aK,cS,Fu]) iM
  rw[Nat.zero_mul] at this;exact this
theorem Jv (hT:dk P E.ty) (h:bG E w0 σ a w β) {t ty:TypeId} {d:Nat} {s x r:AV} {ob:List (Nat × Obj)} (hr:u7 E d σ t s x=some (r,ob)) {vs vx:Value} (hs:VR (aK E w0 σ w β) s vs) (hx:VR (aK E w0 σ w β) x vx) :
 ∃ v w' β',(Builtin.append_ #[t,t] ty #[vs,vx]).run P w = .ok v w'∧bG E w0 ⟨σ.tm,ob⟩ a w' β'∧VR (aK E w0 ⟨σ.tm,ob⟩ w' β') r v:=by
 unfold u7 at hr;split at hr
 ·rename_i e sz by_ zz hD;split at hr
  ·rename_i T g8;obtain⟨⟨xs,fr⟩,h1,h2⟩:=aq hr;dsimp only at h2;split at h2
   ·rename_i hc;obtain⟨gq,jb⟩:=hc;have hk:=(hT.ok t _ hD).kind;simp only[kindOk] at hk;obtain⟨i,zv,i1,i2,i3,i4,i5,i6⟩:=(hT.ok e T g8).info;have cS:aH E.ty e=T.size:=by simp[aH,g8]
    have KV:zv.cells.size=T.size:=by
     have:=i5.1;rw[(hT.ok e T g8).fy.len,cS] at this;simpa using this.symm
    obtain⟨mV,news,n1,n2,n3⟩:=Fq h h1 hx;have hlx:(ay xs).length=xs.length * T.size:=bg T.size _ fun y hy=>by rw[(mV y hy).len,cS]
    have yE:news.length=xs.length * i.size:=by rw[n1,hlx,i2]
    have get:∀ (l:List Value) (zs:Array Value) (j:Nat),j < l.length→(l.toArray++zs)[j]? = l[j]?:=fun l zs j hj=>by
     rw[Array.getElem?_append_left (by simpa using hj)];simp
    have Tw:∀ {σ1:St} {g:Bool},(g=true→fr=true)→bG E w0 σ1 a w β→σ1.tm=σ.tm→(∀ k,(aK E w0 σ w β).okb fr k→(aK E w0 σ1 w β).okb fr k)→σ1.free d=true→xs.length * T.bytes≤140737488355328→xs.length≤140737488355328→∃ v w' β',(Builtin.append_ #[t,t] ty #[.slice none 0 0,vx]).run P w = .ok v w'∧
     bG E w0 ⟨σ1.tm,bE d ⟨.row e,g,xs⟩ σ1.ob⟩ a w' β'∧VR (aK E w0 ⟨σ1.tm,bE d ⟨.row e,g,xs⟩ σ1.ob⟩ w' β') (.own d e 0 xs.length) v:=fun {σ1 g} hg Vl _ Jw KU jM iJ=>by
     by_cases hxs:xs=[]
     ·subst hxs;refine⟨.slice none 0 0,w,_,ik t ty e i hk.1 i1 none 0 0 (Nat.le_refl _) vx ?_,Vl.Bn KU (by rw[cS];exact gq),?_⟩
      ·rcases n3 with ⟨q,_⟩ | ⟨k,off,c,q,_⟩
       ·exact .inl q
       ·exact .inr ⟨_,c,q⟩
      ·exact .l8 d e (by simp[aK])
     ·have hm:0 < xs.length:=List.length_pos_iff.2 hxs;rcases n3 with ⟨_,q⟩ | ⟨k,off,c,q,q2⟩
      ·exact absurd q hxs
      ·subst q;have gb:=run_append_nil (P:=P) w t ty e i zv hk.1 i1 i4 ⟨k,off,none⟩ xs.length c news yE (fun j u hu=>by rw[Addr.add_lit];exact q2 j u hu) hm (by omega) (by rw[i3];omega);have pR:=grownCap_ge w xs.length 0 e;obtain⟨β',hS,hV⟩:=we hT Vl KU g8 gq (ys:=xs) (fr:=g) mV (arr:=news.toArray++Builtin.zeroCells zv.cells (grownCap w xs.length 0 e - xs.length)) (cap:=grownCap w xs.length 0 e)
        (by rw[Array.size_append,size_zeroCells,KV,List.size_toArray,yE,i2,← Nat.add_mul];congr 1;omega) pR (fun j y hy=>by
          have hj:j < news.length:=by rw[n1];exact (List.getElem?_eq_some_iff.1 hy).1
          refine⟨news[j],by rw[get _ _ _ hj];exact List.getElem?_eq_getElem hj,(n2 j y _ hy (List.getElem?_eq_getElem hj)).mono fun b hb hl=>⟨⟨(Jw b hb).1,fun hq=>(Jw b hb).2 (hg hq)⟩,hl,rfl⟩⟩)
       exact⟨_,_,β',gb,hS,hV⟩
    split at h2
    ·rename_i t0 fl Fv;split at h2
     ·rename_i fp;obtain⟨c1,c2,c3⟩:=fp;injection h2 with h2;injection h2 with h2 h3;subst h2;subst h3
      rcases VR.lk hs with ⟨_,_,q⟩ | ⟨_,_,_,_,_,q,_⟩
      ·subst q;exact Tw (fun h=>h) h rfl (fun _ hb=>hb) jb (by simpa[roomy] using c2) c3
      ·exact absurd c1 q
     ·cases h2
    ·rename_i o u n;split at h2
     ·rename_i u2 fr' es hb;split at h2
      ·rename_i fp;obtain⟨c1,c2,c3,c4,c5,c6⟩:=fp;subst c1;subst c2;injection h2 with h2;injection h2 with h2 h3;subst h2;subst h3
       have c5':(n+xs.length) * T.bytes≤140737488355328:=by simpa[roomy] using c5
       have sj:∀ y ∈ es,br E.ty u2 y:=(h.gD o _ hb).fy.1;have Tx:bG E w0 ⟨σ.tm,cK o σ.ob⟩ a w β:=h.less (fun _ _ hx=>hx) fun q b hq=>by
        rw[cZ] at hq;split at hq
        ·cases hq
        ·exact hq
       have acf:St.free ⟨σ.tm,cK o σ.ob⟩ d=true:=by
        simp only[St.free,Bool.and_eq_true] at jb ⊢;exact⟨jb.1,lp jb.2⟩
       have LA:∀ (g:Bool) k,(aK E w0 σ w β).okb g k→(aK E w0 ⟨σ.tm,cK o σ.ob⟩ w β).okb g k:=fun g k hk=>⟨fun lh=>lh.elim (fun z=>hk.1 (.inl z)) fun⟨q,b,q1,q2⟩=>hk.1 (.inr (by
        rw[cZ] at q1;split at q1
        ·cases q1
        ·exact⟨q,b,q1,q2⟩)),hk.2⟩
       rcases VR.jL hs with ⟨q0,_,q1,q2⟩ | ⟨k,cp,arr,e',g1,g2,g3,g4,g5⟩
       ·
        subst q1;subst q2;have KW:es=[]:=List.eq_nil_of_length_eq_zero c3.symm;subst KW;have:=Tw (g:=fr'&&fr) (fun hq=>by simp at hq;exact hq.2) Tx rfl (LA fr) acf (by simpa using c5') (by simpa using c6);rw[Nat.zero_add];exact this
       ·obtain⟨fz,e2,k1,k2,k3⟩:=mz h hb rfl g1;have Bj:w.heap[k]? = some (.cells arr e' (0,0)):=g2;rw[k1] at Bj;injection Bj with Bj;injection Bj with q1 q2 q3;subst q1;subst q2
        have QA:(ay es).length=n * T.size:=by rw[c3];exact bg T.size _ fun y hy=>by rw[(sj y hy).len,cS]
        have Fu:fz.size=cp * T.size:=by
         have:(0+cp) * aH E.ty u2=fz.size:=g3;rw[← this,cS,Nat.zero_add]
        have hn:n * T.size≤fz.size:=by rw[Fu];exact Nat.mul_le_mul_right _ g4
        have g5':vs = .slice (some ⟨k,0,none⟩) n cp:=by rw[g5,Nat.zero_mul]
        subst g5';have Vd:∀ y ∈ es++xs,br E.ty u2 y:=fun y hy=>by
         rcases List.mem_append.1 hy with hy | hy
         ·exact sj y hy
         ·exact mV y hy
        have hlen:(es++xs).length=n+xs.length:=by rw[List.length_append,c3]
        by_cases iM:n+xs.length≤cp
        ·
         have de:n * T.size+news.length≤fz.size:=by
          rw[Fu,yE,i2,← Nat.add_mul];exact Nat.mul_le_mul_right _ iM
         have Fk:∀ v ∈ news,i_ v:=fun v hv=>by
          obtain⟨j,hj,e⟩:=List.getElem_of_mem hv;have ve:j < (ay xs).length:=by rw[← n1];exact hj
          rw[← e];exact (n2 j _ _ (List.getElem?_eq_getElem ve) (List.getElem?_eq_getElem hj)).one
         have fL:=eh P k (0+n * i.size) e2 news 0 w fz k1 (by rw[i2];omega) Fk;have gb:(Builtin.append_ #[t,t] ty #[.slice (some ⟨k,0,none⟩) n cp,vx]).run P w = .ok (.slice (some ⟨k,0,none⟩) (n+xs.length) cp) (dB w k (.cells (qC fz (0+n * i.size+0) news) e2 (0,0))):=by
          rcases n3 with ⟨q,q'⟩ | ⟨k',off,c,q,q2⟩
          ·subst q';have kH:news=[]:=List.eq_nil_of_length_eq_zero (by rw[yE];simp);subst kH;rw[qC,nQ w k _ k1];exact ik t ty u2 i hk.1 i1 _ n cp g4 vx (.inl q)
          ·subst q;exact pn t ty u2 i hk.1 i1 k 0 n xs.length cp iM yE (fun j u hu=>by rw[Addr.add_lit];exact q2 j u hu) fL
         have e0:0+n * i.size+0=n * T.size:=by rw[i2];omega
         rw[e0] at gb;obtain⟨hW,_⟩:=h.write (b':=⟨.row u2,fr'&&fr,es++xs⟩) (arr':=qC fz (n * T.size) news) hb g1 k1 (by simp) ⟨Vd,by rw[cS];exact gq⟩ (fun j y hy=>by
          show ∃ v,_∧LR E.ty w ((aK E w0 σ w β).okb (fr'&&fr)) y v;rw[cr] at hy;rw[mT _ _ _ _ de];by_cases hj:j < n * T.size
          ·rw[List.getElem?_append_left (by omega)] at hy;obtain⟨v,r1,r2⟩:=k3 j y hy;rw[if_neg (by omega)];exact⟨v,r1,jZ (c:=aK E w0 σ w β) r2 fun hq=>by simp at hq;exact hq.1⟩
          ·rw[List.getElem?_append_right (by omega),QA] at hy;have vU:j - n * T.size < news.length:=by rw[n1];exact (List.getElem?_eq_some_iff.1 hy).1
           rw[if_pos (by omega)];exact⟨_,List.getElem?_eq_getElem vU,jZ (c:=aK E w0 σ w β) (n2 _ y _ hy (List.getElem?_eq_getElem vU)) fun hq=>by simp at hq;exact hq.2⟩)
         have Qz:St.free ⟨σ.tm,bE o ⟨.row u2,fr'&&fr,es++xs⟩ σ.ob⟩ d=true:=by
          simp only[St.free,Bool.and_eq_true] at jb ⊢;refine⟨jb.1,?_⟩;simp only[bE,St.free.kZ,bA.du,Bool.not_false,Bool.or_true,Bool.true_and];exact lp jb.2
         have hM:=hW.move (d:=d) (o:=o) Qz (b:=⟨.row u2,fr'&&fr,es++xs⟩) (t:=u2) rfl (by rw[bn,if_pos rfl]) c4;have Hf:cK o (bE o ⟨.row u2,fr'&&fr,es++xs⟩ σ.ob)=cK o σ.ob:=by
          simp only[bE,cK,if_true];exact oF o σ.ob
         simp only[Hf] at hM;refine⟨_,_,_,gb,hM,?_⟩;have Vk:k < w.heap.size:=(Array.getElem?_eq_some_iff.1 k1).1;have:=OR.own (c:=aK E w0 ⟨σ.tm,bE d ⟨.row u2,fr'&&fr,es++xs⟩ (cK o σ.ob)⟩ (dB w k (.cells (qC fz (n * T.size) news) e2 (0,0))) (fun q=>if q=d then β o else β q))
          d u2 0 (n+xs.length) k cp (qC fz (n * T.size) news) e2 (by simp[aK];exact g1) (jW w k _ Vk) (by simp[aK,cS,Fu]) iM
         rw[Nat.zero_mul] at this;exact this
        ·
         rcases n3 with ⟨_,q⟩ | ⟨k',off,c,q,q2⟩
         ·subst q;exact absurd g4 (by simpa using iM)
         ·subst q;have hol:(fz.toList.take (n * T.size)).length=n * i.size:=by rw[i2];simp;omega
          have sA:=growslice_fits (need:=n+xs.length) (old:=cp) (bytes:=i.bytes) (by omega) (by rw[i3];exact c5');have gb:=run_append_grow (P:=P) w t ty u2 i zv hk.1 i1 i4 ⟨k,0,none⟩ n cp (fz.toList.take (n * T.size)) hol (fun j u hu=>by
           have hj:j < n * T.size:=by
            have:=(List.getElem?_eq_some_iff.1 hu).1;rw[hol,i2] at this;exact this
           rw[List.getElem?_take_of_lt hj,Array.getElem?_toList] at hu;rw[Addr.add_lit,lg w k _ _ _ _ k1,Nat.zero_add];exact hu) ⟨k',off,none⟩ xs.length c news yE (fun j u hu=>by rw[Addr.add_lit];exact q2 j u hu) (by omega) (by omega) sA
          have pR:=grownCap_ge w (n+xs.length) cp u2;obtain⟨β',hS,hV⟩:=we hT Tx acf g8 gq (ys:=es++xs) (fr:=fr'&&fr) Vd
           (arr:=(fz.toList.take (n * T.size)).toArray++news.toArray++Builtin.zeroCells zv.cells (grownCap w (n+xs.length) cp u2 - (n+xs.length))) (cap:=grownCap w (n+xs.length) cp u2)
           (by rw[Array.size_append,Array.size_append,size_zeroCells,KV,List.size_toArray,List.size_toArray,hol,yE,i2,← Nat.add_mul,← Nat.add_mul];congr 1;omega) (by rw[hlen];exact pR) (fun j y hy=>by
             rw[cr] at hy;have ajA:(fz.toList.take (n * T.size)).length=n * T.size:=by rw[hol,i2]
             by_cases hj:j < n * T.size
             ·rw[List.getElem?_append_left (by omega)] at hy;obtain⟨v,r1,r2⟩:=k3 j y hy;refine⟨v,?_,(jZ (c:=aK E w0 σ w β) r2 fun (hq:(fr'&&fr)=true)=>by simp at hq;exact hq.1).mono fun b hb hl=>⟨LA _ b hb,hl,rfl⟩⟩;rw[Array.append_assoc,get _ _ _ (by omega),List.getElem?_take_of_lt hj,Array.getElem?_toList];exact r1
             ·rw[List.getElem?_append_right (by omega),QA] at hy;have vU:j - n * T.size < news.length:=by rw[n1];exact (List.getElem?_eq_some_iff.1 hy).1
              refine⟨news[j - n * T.size],?_,(jZ (c:=aK E w0 σ w β) (n2 _ y _ hy (List.getElem?_eq_getElem vU)) fun (hq:(fr'&&fr)=true)=>by simp at hq;exact hq.2).mono fun b hb hl=>⟨LA _ b hb,hl,rfl⟩⟩;rw[Array.append_assoc,Array.getElem?_append_right (by simp only[List.size_toArray];omega),List.size_toArray,ajA,get _ _ _ vU];exact List.getElem?_eq_getElem vU)
          rw[hlen] at hV;exact⟨_,_,β',gb,hS,hV⟩
      ·split at h2
       ·rename_i fp;obtain⟨c1,c2,c3,c4⟩:=fp;subst c1;subst c2;injection h2 with h2;injection h2 with h2 h3;subst h2;subst h3
        exact Ft hT h jb hk.1 g8 gq i1 i2 hb hs mV n1 n2 n3 c3 c4
       ·cases h2
     ·cases h2
    ·cases h2
   ·cases h2
  ·cases hr
 ·cases hr
end
end Go.Abs
end
section
namespace Go.Abs
open Go Go.RowKit
section
variable {P:Program} {E:Env} {w0 w:World} {σ:St} {a:Act} {β:Nat→Option Nat} {x:AV} {ob:List (Nat × Obj)} {d:Nat} {o:Oper}
theorem Jy (h:bG E w0 σ a w β) (hG:bj E w0) {p:Option Operand} {n l:Nat} (hb:yD E.G σ p n=some l) :
 (p=none∧l=n)∨∃ y k,p=some y∧a.eval y = .int k (l:Int):=by
 unfold yD at hb;split at hb
 ·injection hb with hb;exact .inl ⟨rfl,hb.symm⟩
 ·rename_i y;obtain⟨v,h1,h2⟩:=aq hb;have hv:=bt h hG h1;split at h2
  ·rename_i k i;split at h2
   ·rename_i h0;injection h2 with h2
    refine .inr ⟨y,k,rfl,?_⟩;rw[VR.eE hv,← h2,Int.toNat_of_nonneg h0]
   ·cases h2
  ·cases h2
theorem run_sliceBound {k:IntKind} {l y:Nat} {code:BoundsCode} (h:l≤y):(Instr.sliceBound (.int k (l:Int)) y code).run P w = .ok l w:=by
 have:(0:Int)≤(l:Int)∧(l:Int)≤(y:Int):=⟨by omega,by omega⟩
 simp[Instr.sliceBound,asIntOf,Sem.run_bind,this]
def Bd (v:Option Value) (n l:Nat):Prop:=(v=none∧l=n)∨∃ k,v=some (.int k (l:Int))
theorem fY {s:Bool} {len cap l h:Nat} {lo hi:Option Value} (hl:Bd lo 0 l) (hh:Bd hi len h) (h1:l≤h) (h2:h≤cap) :
 (Instr.sliceBounds s len cap lo hi none).run P w = .ok (l,h,cap) w:=by
 rcases hl with ⟨rfl,rfl⟩ | ⟨k,rfl⟩ <;> rcases hh with ⟨rfl,rfl⟩ | ⟨k',rfl⟩ <;>
  simp[Instr.sliceBounds,Sem.run_bind,run_sliceBound,h1,h2]
theorem gG {s:Bool} {len cap l h m:Nat} {lo hi mx:Option Value} {n:Nat} (hl:Bd lo 0 l) {k k':IntKind} (hh:hi=some (.int k (h:Int))) (hm:mx=some (.int k' (m:Int))) (h1:l≤h) (h2:h≤m) (h3:m≤cap) :
 (Instr.sliceBounds s len cap lo hi mx).run P w = .ok (l,h,m) w:=by
 subst hh;subst hm;rcases hl with ⟨rfl,rfl⟩ | ⟨k,rfl⟩ <;>
  simp[Instr.sliceBounds,Sem.run_bind,run_sliceBound,h1,h2,h3]
theorem QB {ty:bX} {t u:TypeId} (h:pg.yM ty t=some u):∃ s b z,ty t=some ⟨.slice u,s,b,z⟩:=by
 unfold pg.yM at h;split at h
 ·rename_i e s b z hD;injection h with h;subst h;exact⟨s,b,z,hD⟩
 ·cases h
theorem zt (h:bG E w0 σ a w β) {o u off n:Nat}:(β o=none→iX σ.ob (.own o u off n)=0)∧∀ k arr e cp,β o=some k→w.heap[k]? = some (.cells arr e (0,0))→(off+cp) * aH E.ty u=arr.size→iX σ.ob (.own o u off n)≤off+cp:=by
 unfold iX;dsimp only;cases hb:aA o σ.ob with
 | none=>simp
 | some b=>
   obtain⟨r,fr,es⟩:=b;cases r with
   | box _=>simp
   | oQ _=>simp
   | row v=>
     dsimp only;split;rotate_left
     ·exact⟨fun _=>rfl,fun _ _ _ _ _ _ _=>Nat.zero_le _⟩
     rename_i hv;subst hv;obtain⟨h1,h2⟩:=h.gD o _ hb;refine⟨fun hn=>?_,fun k arr e cp hk ha hs=>?_⟩
     ·simp only[aK,hn] at h2;rw[h2.2];rfl
     ·simp only[aK,hk] at h2;obtain⟨_,arr',e',h3,h4⟩:=h2;rw[ha] at h3;injection h3 with h3;injection h3 with h3 h5;subst h3
      have hl:(ay es).length=es.length * aH E.ty v:=bg _ _ fun y hy=>(h1.1 y hy).len
      have cw:(ay es).length≤arr.size:=by
       refine Nat.le_of_not_lt fun aR=>?_
       obtain⟨v,r1,_⟩:=h4 arr.size _ (List.getElem?_eq_getElem aR);have:=(Array.getElem?_eq_some_iff.1 r1).1;omega
      rw[hl,← hs] at cw;exact Nat.le_of_mul_le_mul_right cw h1.2
theorem zu (hT:dk P E.ty) (h:bG E w0 σ a w β) {t:TypeId} {x y:AV} {l hh:Nat} {m:Option Nat} {rl:Nat} (cB:rl≤iX σ.ob x) (ajB:m ≠ none→rl=0) {v:Value} (hx:VR (aK E w0 σ w β) x v) (hr:pg E.ty t x l hh m rl=some y)
 {lo hi mx:Option Value} (mN:Bd lo 0 l) (hhi:Bd hi (qt x) hh) (hm:(mx=none∧m=none)∨∃ m' k k',m=some m'∧mx=some (.int k (m':Int))∧hi=some (.int k' (hh:Int))) :
 ∃ v',(Instr.sliceAt t v lo hi mx).run P w = .ok v' w∧VR (aK E w0 σ w β) y v':=by
 have iN:∀ {e:TypeId} {s b:Nat} {z:AV},E.ty t=some ⟨.slice e,s,b,z⟩→∀ (ba:Option Addr) (len cap l h m:Nat) (lo hi mx:Option Value),(Instr.sliceBounds true len cap lo hi mx).run P w = .ok (l,h,m) w→
  ∀ {T:kD},E.ty e=some T→(Instr.sliceAt t (.slice ba len cap) lo hi mx).run P w = .ok (.slice (if m=l then ba else ba.map (·.add (l * T.size))) (h - l) (m - l)) w:=fun {e s b z} hD ba len cap l h m lo hi mx hb {T} g8=>by
  have hk:=(hT.ok t _ hD).kind;simp only[kindOk] at hk;have cS:aH E.ty e=T.size:=by simp[aH,g8]
  simp only[Instr.sliceAt,Instr.slice,Sem.run_bind,run_underlying hk.1,Result.andThen_ok,hb,cj hT.ok g8,cS,Sem.run_pure]
 unfold pg at hr;split at hr
 ·rename_i o u off n;split at hr
  ·rename_i hc;obtain⟨c1,c2,c3,c4,c5⟩:=hc;obtain⟨s,b,z,hD⟩:=QB c5;obtain⟨T,g8⟩:∃ T,E.ty u=some T:=by
    simp only[pg.ph,hD] at c4;split at c4
    ·rename_i T Jz;exact⟨T,Jz⟩
    ·omega
   have gq:0 < T.size:=by simpa[pg.ph,hD,g8] using c4
   have cS:aH E.ty u=T.size:=by simp[aH,g8]
   rcases VR.jL hx with ⟨q0,q1,q2,q3⟩ | ⟨k,cp,arr,e',g1,g2,g3,g4,g5⟩
   ·subst q1;subst q2;subst q3;have e0:rl=0:=by have:=(zt h (o:=o) (u:=u) (off:=0) (n:=0)).1 q0;omega
    have e1:hh=0:=by omega
    have e2:l=0:=by omega
    subst e1;subst e2;split at hr
    ·rename_i m';split at hr
     ·rename_i hq;injection hr with hr;subst hr
      rcases hm with ⟨_,q⟩ | ⟨m2,k,k',q1,q2,q3⟩
      ·cases q
      ·injection q1 with q1;subst q1
       exact⟨_,iN hD none 0 0 0 0 m' lo hi mx (gG (n:=0) mN q3 q2 (Nat.le_refl _) hq.1 hq.2) g8,.undef _⟩
     ·cases hr
    ·rw[if_pos rfl] at hr;injection hr with hr;subst hr
     rcases hm with ⟨q,_⟩ | ⟨m2,k,k',q1,q2,q3⟩
     ·subst q;refine⟨_,iN hD none 0 0 0 0 0 lo hi none (fY mN hhi (Nat.le_refl _) (Nat.le_refl _)) g8,?_⟩;exact .l8 o u q0
     ·cases q1
   ·subst g5;have e0:rl≤off+cp:=Nat.le_trans cB ((zt h (o:=o) (u:=u) (off:=off) (n:=n)).2 k arr e' cp g1 g2 g3);have c3':hh≤cp:=by omega
    split at hr
    ·rename_i m';have e00:=ajB (by simp);split at hr
     ·rename_i hq;injection hr with hr;subst hr
      rcases hm with ⟨_,q⟩ | ⟨m2,k,k',q1,q2,q3⟩
      ·cases q
      ·injection q1 with q1;subst q1
       exact⟨_,iN hD _ n cp l hh m' lo hi mx (gG (n:=0) mN q3 q2 c2 hq.1 (by omega)) g8,.undef _⟩
     ·cases hr
    ·rcases hm with ⟨q,_⟩ | ⟨m2,k,k',q1,q2,q3⟩
     ·subst q;refine⟨_,iN hD _ n cp l hh cp lo hi none (fY mN hhi c2 (by omega)) g8,?_⟩;have g3':(off+cp) * T.size=arr.size:=by rw[← cS];exact g3
      split at hr
      ·rename_i e;subst e;injection hr with hr;subst hr
       have:=OR.own (c:=aK E w0 σ w β) o u off hh k cp arr e' g1 g2 g3 (by omega);have e2:(if cp=0 then some (⟨k,off * aH (aK E w0 σ w β).ty u,none⟩:Addr) else (some (⟨k,off * aH (aK E w0 σ w β).ty u,none⟩:Addr)).map (·.add (0 * T.size)))=some ⟨k,off * aH (aK E w0 σ w β).ty u,none⟩:=by
        split
        ·rfl
        ·simp[Addr.add]
       rw[e2];exact this
      ·split at hr
       ·rename_i e1 e2;injection hr with hr;subst hr
        rw[if_neg (by omega)];have:=OR.own (c:=aK E w0 σ w β) o u (off+l) (hh - l) k (cp - l) arr e' g1 g2 (by
         show (off+l+(cp - l)) * aH E.ty u=arr.size;rw[cS,← g3'];congr 1;omega) (by omega)
        have e3:(some (⟨k,off * aH (aK E w0 σ w β).ty u,none⟩:Addr)).map (·.add (l * T.size))=some ⟨k,(off+l) * aH (aK E w0 σ w β).ty u,none⟩:=by
         have:aH (aK E w0 σ w β).ty u=T.size:=cS;rw[this,Option.map_some,Addr.add_lit,Nat.add_mul]
        rw[e3];exact this
       ·rename_i e1 e2;injection hr with hr;subst hr
        have e3:hh - l=0:=by omega
        rw[e3];have hex:∃ k2 Fw,(if cp=l then some (⟨k,off * aH (aK E w0 σ w β).ty u,none⟩:Addr) else (some (⟨k,off * aH (aK E w0 σ w β).ty u,none⟩:Addr)).map (·.add (l * T.size)))=some ⟨k2,Fw,none⟩:=by
         split
         ·exact⟨_,_,rfl⟩
         ·exact⟨_,_,by rw[Option.map_some,Addr.add_lit]⟩
        obtain⟨k2,Fw,e4⟩:=hex;rw[e4];exact .cl (.sl u ⟨true,some false,false⟩ [] k2 Fw (cp - l) (fun _=>undef) (Nat.zero_le _) (by simp) (by simp) (by simp) (by simp) (by simp[ay]) (by simp[ay]))
     ·cases q1
  ·cases hr
 ·rename_i u fl es;split at hr
  ·rename_i hc;obtain⟨c1,c2,c3,c4,c5⟩:=hc;obtain⟨e,s,b,z,hD⟩:∃ e s b z,E.ty t=some ⟨.slice e,s,b,z⟩:=by
    unfold isSlice at c1;split at c1
    ·rename_i e s b z hD;exact⟨e,s,b,z,hD⟩
    ·cases c1
   obtain⟨T,g8⟩:∃ T,E.ty e=some T:=by
    simp only[pg.ph,hD] at c4;split at c4
    ·rename_i T Jz;exact⟨T,Jz⟩
    ·omega
   rcases VR.lk hx with ⟨q1,q2,q3⟩ | ⟨k,off,cp,q1,q2,q3,q4,q5,q6⟩
   ·subst q1;subst q3;have e1:hh=0:=by simpa using c3
    have e2:l=0:=by omega
    subst e1;subst e2;split at hr
    ·rename_i m';split at hr
     ·rename_i hq;injection hr with hr;subst hr
      rcases hm with ⟨_,q⟩ | ⟨m2,k,k',q1,q2,q3⟩
      ·cases q
      ·injection q1 with q1;subst q1
       exact⟨_,iN hD none 0 0 0 0 m' lo hi mx (gG (n:=0) mN q3 q2 (Nat.le_refl _) hq.1 hq.2) g8,.undef _⟩
     ·cases hr
    ·injection hr with hr;subst hr
     rcases hm with ⟨q,_⟩ | ⟨m2,k,k',q1,q2,q3⟩
     ·subst q;refine⟨_,iN hD none 0 0 0 0 0 lo hi none (fY mN hhi (Nat.le_refl _) (Nat.le_refl _)) g8,?_⟩;exact .cl (.sx u _ 0 q2 rfl)
     ·cases q1
   ·subst q1;split at hr
    ·rename_i m';split at hr
     ·rename_i hq;injection hr with hr;subst hr
      rcases hm with ⟨_,q⟩ | ⟨m2,k,k',q1,q2,q3⟩
      ·cases q
      ·injection q1 with q1;subst q1
       exact⟨_,iN hD _ es.length cp l hh m' lo hi mx (gG (n:=0) mN q3 q2 c2 hq.1 (by omega)) g8,.undef _⟩
     ·cases hr
    ·injection hr with hr;subst hr
     rcases hm with ⟨q,_⟩ | ⟨m2,k,k',q1,q2,q3⟩
     ·subst q;refine⟨_,iN hD _ es.length cp l hh cp lo hi none (fY mN hhi c2 (by omega)) g8,?_⟩;have hlen:((es.drop l).take (hh - l)).length=hh - l:=by simp;omega
      by_cases an0:hh=l
      ·have e3:hh - l=0:=by omega
       have hex:∃ k2 Fw,(if cp=l then some (⟨k,off,none⟩:Addr) else (some (⟨k,off,none⟩:Addr)).map (·.add (l * T.size)))=some ⟨k2,Fw,none⟩:=by
        split
        ·exact⟨_,_,rfl⟩
        ·exact⟨_,_,by rw[Option.map_some,Addr.add_lit]⟩
       obtain⟨k2,Fw,e4⟩:=hex;rw[e4,e3,List.take_zero];exact .cl (.sl u ⟨fl.fr,fl.nil,false⟩ [] k2 Fw (cp - l) (fun _=>undef) (Nat.zero_le _) q3 (by simp) (by simp) (by simp) (by simp[ay]) (by simp[ay]))
      ·rw[if_neg (by omega),Option.map_some,Addr.add_lit];have d_:es ≠ []:=by rintro rfl;simp at c3;omega
       have hue:u=e:=by
        rcases c5 with c5 | c5
        ·simp only[pg.yM,hD] at c5;injection c5 with c5;exact c5.symm
        ·simp at c5;exact absurd c5 d_
       subst hue;have cS:aH E.ty u=T.size:=by simp[aH,g8]
       have hs:∀ x ∈ es,(leaves x).length=T.size:=fun x hx=>by rw[(q5 x hx).len];exact cS
       have cw:∀ (j:Nat) (y:AV),(ay ((es.drop l).take (hh - l)))[j]? = some y→∃ v,w.cell? ⟨k,off+l * T.size+j,none⟩=some v∧LR E.ty w ((aK E w0 σ w β).okb fl.fr) y v:=fun j y hy=>by
        have h1:=eO (hh - l) j hy;rw[jc hs] at h1;obtain⟨v,r1,r2⟩:=q6 _ y h1;exact⟨v,by rw[← r1];congr 2;omega,r2⟩
       have:=LR.sl (ty:=E.ty) (w:=w) (okb:=(aK E w0 σ w β).okb fl.fr) u ⟨fl.fr,fl.nil,false⟩ ((es.drop l).take (hh - l)) k (off+l * T.size) (cp - l) (fun j=>(w.cell? ⟨k,off+l * T.size+j,none⟩).getD undef)
        (by rw[hlen];omega) q3 (by simp) (fun _=>q4 d_) (fun x hx=>q5 x (List.mem_of_mem_drop (List.mem_of_mem_take hx)))
        (fun j y hy=>by obtain⟨v,r1,r2⟩:=cw j y hy;rw[r1];rfl) (fun j y hy=>by obtain⟨v,r1,r2⟩:=cw j y hy;rw[r1];exact r2)
       rw[hlen] at this;exact .cl this
     ·cases q1
  ·cases hr
 ·rename_i s;split at hr
  ·split at hr
   ·rename_i hc;obtain⟨c1,c2,c3⟩:=hc;injection hr with hr;subst hr
    have e:=VR.mW hx;subst e;rcases hm with ⟨q,_⟩ | ⟨m2,k,k',q1,q2,q3⟩
    ·subst q;refine⟨.string (s.extract l hh),?_,.cl (.str _)⟩;unfold isStr at c1;split at c1
     ·rename_i sz b zz hD;have hk:=(hT.ok t _ hD).kind;simp only[kindOk] at hk;have hb:=fY (P:=P) (w:=w) (s:=false) (len:=s.size) (cap:=s.size) mN hhi c2 c3;simp[Instr.sliceAt,Instr.slice,Sem.run_bind,run_underlying hk,Result.andThen_ok,hb,Sem.run_pure]
     ·cases c1
    ·cases q1
   ·cases hr
  ·cases hr
 ·cases hr
theorem ok_slice (hT:dk P E.ty) (h:bG E w0 σ a w β) (hG:bj E w0) {t:TypeId} {y:Operand} {lo hi mx:Option Operand} (ho:o.op = .slice t y lo hi mx) (hr:aZ E d σ (.slice t y lo hi mx)=some (x,ob)) :
 b9 E w0 σ a ob x ((execOp a.eval o).run P w):=by
 simp only[aZ] at hr;have dm:(execOp a.eval o)=(do pure (Next.value (← Instr.sliceAt t (a.eval y) (lo.map a.eval) (hi.map a.eval) (mx.map a.eval)))):=by simp[execOp,ho]
 obtain⟨xv,h1,h2⟩:=aq hr;obtain⟨l,h3,h4⟩:=aq h2;obtain⟨hh,h5,h6⟩:=aq h4;have hx:=bt h hG h1;have bd:∀ {p:Option Operand} {n l:Nat},yD E.G σ p n=some l→Bd (p.map a.eval) n l:=fun {p n l} hb=>by
  rcases Jy h hG hb with ⟨q1,q2⟩ | ⟨y,k,q1,q2⟩
  ·subst q1;exact .inl ⟨rfl,q2⟩
  ·subst q1;exact .inr ⟨k,by simp[q2]⟩
 split at h6
 ·obtain⟨v,h7,h8⟩:=aq h6;injection h8 with h8;injection h8 with h8 h9;subst h8;subst h9
  obtain⟨v',r1,r2⟩:=zu hT h (Nat.le_refl _) (by simp) hx h7 (bd h3) (bd h5) (mx:=none) (.inl ⟨rfl,rfl⟩);exact b9.same h (by rw[dm];exact bT r1) r2
 ·rename_i mm;split at h6
  ·rename_i his;obtain⟨m,h7,h8⟩:=aq h6;obtain⟨v,h9,dR⟩:=aq h8;injection dR with cT;injection cT with cT mX;subst cT;subst mX
   obtain⟨hy,rfl⟩:=Option.isSome_iff_exists.1 his;have e1:∃ k,(some hy).map a.eval=some (.int k (hh:Int)):=by
    rcases bd h5 with ⟨q,_⟩ | ⟨k,q⟩
    ·cases q
    ·exact⟨k,q⟩
   have e2:∃ k,(some mm).map a.eval=some (.int k (m:Int)):=by
    rcases bd h7 with ⟨q,_⟩ | ⟨k,q⟩
    ·cases q
    ·exact⟨k,q⟩
   obtain⟨k',e1⟩:=e1;obtain⟨k,e2⟩:=e2;obtain⟨v',r1,r2⟩:=zu hT h (Nat.zero_le _) (fun _=>rfl) hx h9 (bd h3) (bd h5) (mx:=(some mm).map a.eval) (.inr ⟨m,k,k',rfl,e2,e1⟩);exact b9.same h (by rw[dm];exact bT r1) r2
  ·cases h6
end
end Go.Abs
end
section
namespace Go.Abs
open Go Go.RowKit
section
variable {P:Program} {E:Env} {w0 w:World} {σ:St} {a:Act} {β:Nat→Option Nat} {x:AV} {ob:List (Nat × Obj)} {d:Nat} {o:Oper}
theorem VR.LB {c:Cx} {x:AV} {v:Value} (h:VR c x v) (hl:bq x=true):OR c x v:=by cases x <;> first | exact h | cases hl
theorem C2 (h:bG E w0 σ a w β) (hG:bj E w0) {fn:Fn} {first captured:Array Operand} (ho:o.op = .makeFunc fn first captured) (hr:aZ E d σ (.makeFunc fn first captured)=some (x,ob)) :
 b9 E w0 σ a ob x ((execOp a.eval o).run P w):=by
 simp only[aZ] at hr;split at hr
 ·rename_i f;split at hr
  ·rename_i hf;obtain⟨l,h1,h2⟩:=aq hr;split at h2
   ·rename_i cw;injection h2 with h2;injection h2 with h2 h3;subst h2;subst h3
    have hl:=fe h hG captured.toList l h1;have Vm:first = #[]:=Array.eq_empty_of_size_eq_zero hf
    refine b9.same h (v:= .func (.func f) #[] (captured.map a.eval)) (by simp[execOp,ho,Instr.makeFunc,Vm]) ?_;refine OR.fn f l _ (by have:=hl.1;simp at this ⊢;exact this.symm) fun i y hy=>?_
    have hi:i < (captured.toList.map a.eval).length:=by rw[← hl.1];exact (List.getElem?_eq_some_iff.1 hy).1
    have e1:(captured.toList.map a.eval)[i]? = some (captured.toList.map a.eval)[i]:=List.getElem?_eq_getElem hi;have e2:=hl.2 i y _ hy e1;have e1':(captured.map a.eval)[i]? = some (captured.toList.map a.eval)[i]:=by
     rw[← Array.getElem?_toList,Array.toList_map];exact e1
    have:(captured.map a.eval).getD i undef=(captured.toList.map a.eval)[i]:=by simp[Array.getD_eq_getD_getElem?,e1']
    rw[this];exact e2.LB (List.all_eq_true.1 cw y (List.mem_of_getElem? hy))
   ·cases h2
  ·cases hr
 ·cases hr
theorem LC (hT:dk P E.ty) (h:bG E w0 σ a w β) (hG:bj E w0) {t:TypeId} {y z:Operand} (ho:o.op = .index t y z) (hr:aZ E d σ (.index t y z)=some (x,ob)) :
 b9 E w0 σ a ob x ((execOp a.eval o).run P w):=by
 simp only[aZ] at hr;obtain⟨p,h1,h2⟩:=aq hr;obtain⟨q,h3,h4⟩:=aq h2;have hp:=bt h hG h1;have hq:=bt h hG h3;have dm:(execOp a.eval o)=(do pure (Next.value (← Instr.index t (a.eval y) (a.eval z)))):=by simp[execOp,ho]
 split at h4
 ·rename_i s kk i;have e1:=VR.mW hp;have e2:=VR.eE hq;split at h4
  ·rename_i hc;obtain⟨c1,c2⟩:=hc;obtain⟨b,h5,h6⟩:=aq h4;injection h6 with h6;injection h6 with h6 h7;subst h6;subst h7
   unfold isStr at c1;split at c1
   ·rename_i sz bb zz hD;have hk:=(hT.ok t _ hD).kind;simp only[kindOk] at hk;refine b9.same h (v:= .int .u8 b.toNat) ?_ (.cl (.int _ _));rw[dm];refine bT ?_;unfold Instr.index;simp only[Sem.run_bind,e1,e2,asIntOf,Sem.run_pure,Result.andThen_ok,run_underlying hk];rw[if_pos c2,h5];rfl
   ·cases c1
  ·cases h4
 ·cases h4
def C3 (P:Program) (E:Env) (w0:World) (σ:St) (a:Act) (ob:List (Nat × Obj)) (x:AV) (o:Oper) (w:World):Prop:=
 ∀ (next:Act→World→Prop) (Q:Exit→Act→World→Prop),
   (∀ v w' β',bG E w0 ⟨σ.tm,ob⟩ a w' β'→VR (aK E w0 ⟨σ.tm,ob⟩ w' β') x v→next (a.put o.dst v) w')→o.wp P a w next Q
theorem b9.goes (h:b9 E w0 σ a ob x ((execOp a.eval o).run P w)):C3 P E w0 σ a ob x o w:=fun next Q K=>by
 obtain⟨v,w',β',hr,hS,hV⟩:=h;unfold Oper.wp;rcases hr with hr | ⟨hv,hr⟩
 ·rw[hr];exact K v w' β' hS hV
 ·rw[hr];subst hv;exact K undef w' β' hS hV
theorem sE (hT:dk P E.ty) (hC:cM P E) (h:bG E w0 σ a w β) (hG:bj E w0) {c:Call} (ho:o.op = .call c) (hr:aZ E d σ (.call c)=some (x,ob))
 (hq:∀ g l,c.callee = .value g→Ld E.Q g=true→dZ E.G σ c.args.toList=some l→pj E d σ (vR g) l=some (x,ob)→C3 P E w0 σ a ob x o w):C3 P E w0 σ a ob x o w:=by
 simp only[aZ] at hr;split at hr
 ·rename_i g j0;split at hr
  ·rename_i C4;obtain⟨l,h1,h2⟩:=aq hr;exact hq g l j0 C4 h1 h2
  obtain⟨gv,h1,h2⟩:=aq hr;obtain⟨l,h3,h4⟩:=aq h2;have hg:=bt h hG h1;have hl:=fe h hG c.args.toList l h3;split at h4
  ·rename_i f cs;obtain⟨l',h5,h6⟩:=aq h4;obtain⟨r,h7,h8⟩:=aq h6;split at h8;rotate_left
   ·cases h8
   rename_i hbk;injection h8 with h8;injection h8 with h8 h9;subst h8;subst h9
   obtain⟨LD,Fx⟩:=hC.c f l' r h7;obtain⟨T,Vj,hTc,hTb⟩:∃ T:Nat→Prop,(∀ b,¬ (aK E w0 σ w β).mu b→T b)∧(closed.fq (l++cs)=true∨∀ b,T b)∧((∀ b,T b→¬ (aK E w0 σ w β).mu b)∨iw r=true):=by
    rcases hbk with hb | hb
    ·exact⟨fun b=>¬ (aK E w0 σ w β).mu b,fun _ h=>h,.inl hb,.inl fun _ h=>h⟩
    ·exact⟨fun _=>True,fun _ _=>trivial,.inr fun _=>trivial,.inr hb⟩
   obtain⟨us,e1,e2⟩:∃ us:Array Value,a.eval g = .func (.func f) #[] us∧(us.size=cs.length∧∀ (i:Nat) (y:AV),cs[i]? = some y→mM (aK E w0 σ w β) y (us.getD i undef)):=by
    have wg:OR (aK E w0 σ w β) (.fn f cs) (a.eval g):=hg;generalize a.eval g=gg at wg;cases wg with
    | cl wg=>
      cases wg with
      | fn f cs us q1 q2=>exact⟨us,rfl,q1,fun i y hy=>by
         have:=q2 i y hy;exact (jU this.leaf).2 (.cl (this.mono fun b hb aR=>⟨⟨hb.1,fun hf=>hb.2 (by simp[jw])⟩,aR,rfl⟩))⟩
    | fn f cs us q1 q2=>exact⟨us,rfl,q1,fun i y hy=>(jU (q2 i y hy).bq).2 (q2 i y hy)⟩
   have gb:(execOp a.eval o).run P w = .ok (.enter f (c.args.map a.eval++us)) w:=by
    obtain⟨fn,q1,q2,q3⟩:=LD;obtain⟨body,hb⟩:=Option.isSome_iff_exists.1 q2;simp[execOp,ho,resolve,j0,e1,Deferred.ofValue,invoke,callFunc,q1,q3,hb]
   have lI:F2 (nz E.ty w (fun _=>T)) l' (c.args.map a.eval++us).toList:=by
    obtain⟨e3,e4⟩:=oE 30 (l++cs) l' h5;have hlen:l.length=(c.args.toList.map a.eval).length:=hl.1;refine⟨by rw[e3];simp[hlen,e2.1],fun i y v hy hv=>?_⟩;have hi:i < (l++cs).length:=by rw[← e3];exact (List.getElem?_eq_some_iff.1 hy).1
    obtain⟨k',y',_,q1,q2⟩:=e4 i (l++cs)[i] (by simp[hi]);rw[hy] at q1;injection q1 with q1;subst q1
    have hVR:VR (aK E w0 σ w β) (l++cs)[i] v:=by
     simp only[Array.toList_append,Array.toList_map] at hv;by_cases qk:i < l.length
     ·rw[List.getElem?_append_left (by rw[← hlen];exact qk)] at hv;exact hl.2 i _ v (by rw[List.getElem_append_left qk];simp) hv
     ·rw[List.getElem?_append_right (by rw[← hlen];omega),← hlen] at hv;have hic:i - l.length < cs.length:=by simp at hi;omega
      have:=e2.2 (i - l.length) cs[i - l.length] (by simp[hic]);have hu:us.getD (i - l.length) undef=v:=by
       rw[Array.getD_eq_getD_getElem?,← Array.getElem?_toList,hv];rfl
      rw[hu] at this;rw[List.getElem_append_right (by omega)];exact ga this
    have d_:∀ vs,(l++cs)[i] ≠ .cE vs:=fun vs e=>by
     rw[e] at q2;cases k' <;> simp[cH] at q2
    have hV1:mM (aK E w0 σ w β) (l++cs)[i] v:=by
     generalize (l++cs)[i]=q at *;cases q <;> first | exact hVR | exact absurd rfl (d_ _)
    exact Fp hT h Vj (hTc.imp (fun hc=>iK hc _ (List.getElem_mem hi)) id) q2 hV1
   intro next Q K;unfold Oper.wp;rw[gb];refine Calls.mono (Fx T w _ lI fun g t x hg=>(h.old (hG g t x hg)).mono fun b hb hl=>⟨Vj b hb.1,hl,rfl⟩) fun e w' he=>?_
   obtain⟨v,e3,e4,e5⟩:=he;subst e3;exact K v w' β (h.grow e4) (CR.vr h e4 hTb e5)
  ·cases h4
 ·rename_i j0;obtain⟨l,h3,h4⟩:=aq hr;have hl:=fe h hG c.args.toList l h3;refine b9.goes ?_;split at h4
  ·rename_i s x' t t' lH;split at h4
   ·rename_i e;subst e;have h2:c.args.toList.length=2:=by have:=hl.1;simpa using this.symm
    obtain⟨a0,a1,ha⟩:∃ a0 a1,c.args.toList=[a0,a1]:=by
     cases hq:c.args.toList with
     | nil=>rw[hq] at h2;cases h2
     | cons p r=>
       cases r with
       | nil=>rw[hq] at h2;cases h2
       | cons q r=>
         cases r with
         | nil=>exact⟨p,q,rfl⟩
         | cons=>rw[hq] at h2;simp at h2
    rw[ha] at hl;obtain⟨v,w',β',r1,r2,r3⟩:=Jv (ty:=o.type) hT h h4 (hl.2 0 _ _ rfl rfl) (hl.2 1 _ _ rfl rfl);refine⟨v,w',β',.inl ?_,r2,r3⟩;have e1:c.args.map a.eval = #[a.eval a0,a.eval a1]:=by
     apply Array.ext';simp[ha]
    have e2:c.argTypes = #[t,t]:=by
     apply Array.ext';simp[lH]
    have:execOp a.eval o=(do pure (Next.value (← Builtin.append_ #[t,t] o.type #[a.eval a0,a.eval a1]))):=by
     simp[execOp,ho,resolve,j0,invoke,builtin,e1,e2]
    rw[this];exact bT r1
   ·cases h4
  ·cases h4
 ·rename_i j0;obtain⟨l,h3,h4⟩:=aq hr;have hl:=fe h hG c.args.toList l h3;refine b9.goes ?_;split at h4
  ·rename_i k p k' q;split at h4
   ·rename_i e;subst e;injection h4 with h4;injection h4 with h4 h5;subst h4;subst h5
    have h2:c.args.toList.length=2:=by have:=hl.1;simpa using this.symm
    obtain⟨a0,a1,ha⟩:∃ a0 a1,c.args.toList=[a0,a1]:=by
     cases hq:c.args.toList with
     | nil=>rw[hq] at h2;cases h2
     | cons p r=>
       cases r with
       | nil=>rw[hq] at h2;cases h2
       | cons q r=>
         cases r with
         | nil=>exact⟨p,q,rfl⟩
         | cons=>rw[hq] at h2;simp at h2
    rw[ha] at hl;have v0:=VR.eE (hl.2 0 _ _ rfl rfl);have v1:=VR.eE (hl.2 1 _ _ rfl rfl);have e1:c.args.map a.eval = #[.int k p,.int k q]:=by
     apply Array.ext';simp[ha,v0,v1]
    refine b9.same h (v:= .int k (if q > p then q else p)) ?_ (.cl (.int _ _));have:execOp a.eval o=(do pure (Next.value (← Builtin.max_ c.argTypes o.type #[.int k p,.int k q]))):=by
     simp[execOp,ho,resolve,j0,invoke,builtin,e1]
    rw[this];refine bT ?_;simp[Builtin.max_,Builtin.max2]
   ·cases h4
  ·cases h4
 ·rename_i j0;obtain⟨l,h3,h4⟩:=aq hr;have hl:=fe h hG c.args.toList l h3;refine b9.goes ?_;have ach:∀ (n:Int),(Builtin.len_ c.argTypes o.type (c.args.map a.eval)).run P w = .ok (.int .i64 n) w→(execOp a.eval o).run P w = .ok (.value (.int .i64 n)) w:=fun n hn=>by
   have:execOp a.eval o=(do pure (Next.value (← Builtin.len_ c.argTypes o.type (c.args.map a.eval)))):=by
    simp[execOp,ho,resolve,j0,invoke,builtin]
   rw[this];exact bT hn
  obtain⟨n,h5,h6⟩:=aq h4;injection h6 with h6;injection h6 with h6 h7;subst h6;subst h7
  refine b9.same h (v:= .int .i64 n) (ach n ?_) (.cl (.int _ _));have arg:∀ y,l=[y]→∃ v,(c.args.map a.eval)[0]? = some v∧VR (aK E w0 σ w β) y v:=fun y hy=>by
   subst hy;have hi:0 < (c.args.toList.map a.eval).length:=by rw[← hl.1];simp
   have e1:(c.args.toList.map a.eval)[0]? = some (c.args.toList.map a.eval)[0]:=List.getElem?_eq_getElem hi;exact⟨_,by rw[← Array.getElem?_toList,Array.toList_map];exact e1,hl.2 0 y _ rfl e1⟩
  unfold lenOf at h5;split at h5
  ·rename_i t u fl es lH;split at h5
   ·rename_i CZ;injection h5 with h5;subst h5
    obtain⟨v,e1,e2⟩:=arg _ rfl;have et:c.argTypes[0]? = some t:=by rw[← Array.getElem?_toList,lH];rfl
    unfold isSlice at CZ;split at CZ
    ·rename_i e s b zz hD;have hk:=(hT.ok t _ hD).kind;simp only[kindOk] at hk;rcases VR.lk e2 with ⟨q1,_,q3⟩ | ⟨k,off,cp,q1,_⟩
     ·subst q1;subst q3;simp only[Builtin.len_,et,e1,Sem.run_bind,run_underlying hk.1,Result.andThen_ok];rfl
     ·subst q1;simp only[Builtin.len_,et,e1,Sem.run_bind,run_underlying hk.1,Result.andThen_ok];rfl
    ·cases CZ
   ·cases h5
  ·rename_i t o' u off n' lH;split at h5
   ·rename_i CZ;injection h5 with h5;subst h5
    obtain⟨v,e1,e2⟩:=arg _ rfl;have et:c.argTypes[0]? = some t:=by rw[← Array.getElem?_toList,lH];rfl
    unfold isSlice at CZ;split at CZ
    ·rename_i e s b zz hD;have hk:=(hT.ok t _ hD).kind;simp only[kindOk] at hk;rcases VR.jL e2 with ⟨_,_,q2,q3⟩ | ⟨k,cp,arr,ee,_,_,_,_,q5⟩
     ·subst q2;subst q3;simp only[Builtin.len_,et,e1,Sem.run_bind,run_underlying hk.1,Result.andThen_ok];rfl
     ·subst q5;simp only[Builtin.len_,et,e1,Sem.run_bind,run_underlying hk.1,Result.andThen_ok];rfl
    ·cases CZ
   ·cases h5
  ·rename_i t s lH;split at h5
   ·rename_i fL;injection h5 with h5;subst h5
    obtain⟨v,e1,e2⟩:=arg _ rfl;have et:c.argTypes[0]? = some t:=by rw[← Array.getElem?_toList,lH];rfl
    unfold isStr at fL;split at fL
    ·rename_i sz b zz hD;have hk:=(hT.ok t _ hD).kind;simp only[kindOk] at hk;have e3:=VR.mW e2;subst e3;simp only[Builtin.len_,et,e1,Sem.run_bind,run_underlying hk,Result.andThen_ok];rfl
    ·cases fL
   ·cases h5
  ·cases h5
 ·cases hr
end
end Go.Abs
end
section
namespace Go.Abs
open Go Go.RowKit
theorem Hg:∀ (l:List Nat) (b o n:Nat),aA o (num b l)=some n→b≤n∧l[n - b]? = some o
 | [],b,o,n,h=>by simp[num,aA] at h
 | x::r,b,o,n,h=>by
   simp only[num,aA] at h;split at h
   ·rename_i e;injection h with h;subst h;subst e;simp
   ·obtain⟨h1,h2⟩:=Hg r (b+1) o n h;refine⟨by omega,?_⟩;have:n - b=(n - (b+1))+1:=by omega
    rw[this,List.getElem?_cons_succ];exact h2
theorem Hh:∀ (l:List Nat) (b o:Nat),o ∈ l→∃ n,aA o (num b l)=some n
 | x::r,b,o,h=>by
   simp only[num,aA];by_cases e:x=o
   ·exact⟨b,if_pos e⟩
   ·rw[if_neg e];exact Hh r (b+1) o ((List.mem_cons.1 h).resolve_left (Ne.symm e))
theorem LF {l:List Nat} {b o:Nat} (h:o ∈ l):b≤rn (num b l) o∧l[rn (num b l) o - b]? = some o:=by
 obtain⟨n,hn⟩:=Hh l b o h;have:=Hg l b o n hn;simpa[rn,hn] using this
theorem kV {ob:List (Nat × Obj)}:∀ (l9:List Nat) (b:Nat) (l:List (Nat × Obj)),nv ob (num b l9)=some l→∀ n x,aA n l=some x→
 ∃ o,b≤n∧l9[n - b]? = some o∧aA o ob=some x∧mR x=true
 | [],b,l,h,n,x,hx=>by simp[num,nv] at h;subst h;simp[aA] at hx
 | o::r,b,l,h,n,x,hx=>by
   simp only[num,nv] at h;obtain⟨y,h1,h2⟩:=aq h;split at h2
   ·rename_i hk;obtain⟨l',h3,h4⟩:=aq h2;injection h4 with h4;subst h4
    simp only[aA] at hx;split at hx
    ·rename_i e;injection hx with hx;subst hx;subst e
     exact⟨o,Nat.le_refl _,by simp,h1,hk⟩
    ·obtain⟨o',q1,q2,q3⟩:=kV r (b+1) l' h3 n x hx;refine⟨o',by omega,?_,q3⟩;have:n - b=(n - (b+1))+1:=by omega
     rw[this,List.getElem?_cons_succ];exact q2
   ·cases h2
theorem zw {ob:List (Nat × Obj)}:∀ (l9:List Nat) (b:Nat) (l:List (Nat × Obj)),nv ob (num b l9)=some l→∀ i o,l9[i]? = some o→∃ x,aA (b+i) l=some x∧aA o ob=some x
 | [],b,l,h,i,o,hi=>by simp at hi
 | o::r,b,l,h,i,o',hi=>by
   simp only[num,nv] at h;obtain⟨y,h1,h2⟩:=aq h;split at h2
   ·obtain⟨l',h3,h4⟩:=aq h2;injection h4 with h4;subst h4
    cases i with
    | zero=>simp at hi;subst hi;exact⟨y,by simp[aA],h1⟩
    | succ i=>
      obtain⟨x,q1,q2⟩:=zw r (b+1) l' h3 i o' (by simpa using hi);refine⟨x,?_,q2⟩;simp only[aA];rw[if_neg (by omega),← q1];congr 1;omega
   ·cases h2
theorem C5 {ob:List (Nat × Obj)}:∀ (os:List Nat) (l:List (Nat × Obj)),pick ob os=some l→∀ o x,aA o l=some x→aA o ob=some x
 | [],l,h,o,x,hx=>by simp[pick] at h;subst h;simp[aA] at hx
 | p::r,l,h,o,x,hx=>by
   simp only[pick] at h;obtain⟨y,h1,h2⟩:=aq h;obtain⟨l',h3,h4⟩:=aq h2;injection h4 with h4;subst h4
   simp only[aA] at hx;split at hx
   ·rename_i e;injection hx with hx;subst hx;subst e;exact h1
   ·exact C5 r l' h3 o x hx
theorem C6 {α:Type}:∀ (l:List (Nat × α)) (o:Nat),o ∈ lM l→∃ x,aA o l=some x
 | (p,x)::r,o,h=>by
   simp only[lM,List.mem_cons] at h;simp only[aA];by_cases e:p=o
   ·exact⟨x,if_pos e⟩
   ·rw[if_neg e];exact C6 r o (h.resolve_left (Ne.symm e))
theorem wh:∀ (l:List Nat),sv l=true→l.Nodup
 | [],_=>List.nodup_nil
 | x::r,h=>by
   simp only[sv,Bool.and_eq_true,Bool.not_eq_true'] at h;refine List.nodup_cons.2 ⟨fun hm=>?_,wh r h.2⟩;have:=h.1;rw[List.contains_iff_mem.2 hm] at this;cases this
theorem within_iff {l:List Nat}:∀ (r:List Nat),within l r=true→∀ o ∈ r,o ∈ l
 | [],_,o,h=>by cases h
 | x::r,h,o,ho=>by
   simp only[within,Bool.and_eq_true] at h;rcases List.mem_cons.1 ho with e | ho
   ·subst e;simpa using h.1
   ·exact within_iff r h.2 o ho
theorem C7 (b:Nat):∀ (l:List Nat),lM (num b l)=l
 | []=>rfl
 | x::r=>by simp only[num,lM];rw[C7 (b+1) r]
theorem tz {σ:St}:∀ (l:List Nat) (b:Nat),oC σ (num b l)=true→∀ i,i < l.length→σ.free (b+i)=true
 | [],b,_,i,hi=>by simp at hi
 | x::r,b,h,i,hi=>by
   simp only[num,oC,Bool.and_eq_true] at h;cases i with
   | zero=>exact h.1
   | succ i=>
     have:=tz r (b+1) h.2 i (by simpa using hi);rw[show b+(i+1)=b+1+i by omega];exact this
theorem wi:∀ (l b:List (Nat × Obj)) (n:Nat),aA n (nN l b)=match aA n l with | some x=>some x | none=>aA n b
 | [],b,n=>rfl
 | (m,x)::r,b,n=>by
   simp only[nN,bn,aA];split
   ·rfl
   ·exact wi r b n
theorem C8 (ds:List Nat) (l:List (Nat × Obj)) (o:Nat):aA o (jR ds l)=if o ∈ ds then none else aA o l:=by
 induction ds with
 | nil=>simp[jR]
 | cons d r ih=>
   simp only[jR,cZ,ih,List.mem_cons];by_cases h1:d=o
   ·simp[h1]
   ·rw[if_neg h1];by_cases h2:o ∈ r
    ·simp[h2]
    ·simp[h2,Ne.symm h1]
mutual
theorem Hi (x:AV) (l:List Nat) (o:Nat):(o ∈ l→o ∈ ids x l)∧(bA o x=true→o ∈ ids x l):=by
 cases x with
 | own p t i n=>
   simp only[ids,bA,beq_iff_eq];split
   ·rename_i h;exact⟨fun h=>h,fun e=>by subst e;simpa using h⟩
   ·exact⟨fun h=>by simp[h],fun e=>by subst e;simp⟩
 | ptr p r q=>
   simp only[ids,bA,beq_iff_eq];split
   ·rename_i h;exact⟨fun h=>h,fun e=>by subst e;simpa using h⟩
   ·exact⟨fun h=>by simp[h],fun e=>by subst e;simp⟩
 | fn f cs=>simp only[ids,bA];exact nT cs l o
 | st t fs=>simp only[ids,bA];exact nT fs l o
 | cE vs=>simp only[ids,bA];exact nT vs l o
 | _=>exact⟨fun h=>h,fun h=>by simp[bA] at h⟩
theorem nT (x:List AV) (l:List Nat) (o:Nat):(o ∈ l→o ∈ ids.lL x l)∧(bA.du o x=true→o ∈ ids.lL x l):=by
 cases x with
 | nil=>exact⟨fun h=>h,fun h=>by simp[bA.du] at h⟩
 | cons y r=>
   simp only[ids.lL,bA.du,Bool.or_eq_true];have h1:=Hi y l o;have h2:=nT r (ids y l) o;exact⟨fun h=>h2.1 (h1.1 h),fun h=>h.elim (fun h=>h2.1 (h1.2 h)) h2.2⟩
end
mutual
theorem JA (x:AV) (l:List Nat) (h:l.Nodup):(ids x l).Nodup:=by
 cases x with
 | own p t i n=>
   simp only[ids];split
   ·exact h
   ·rename_i hc;refine List.nodup_append.2 ⟨h,by simp,fun a ha b hb=>?_⟩;simp at hb;subst hb;rintro rfl;exact hc (by simpa using ha)
 | ptr p r q=>
   simp only[ids];split
   ·exact h
   ·rename_i hc;refine List.nodup_append.2 ⟨h,by simp,fun a ha b hb=>?_⟩;simp at hb;subst hb;rintro rfl;exact hc (by simpa using ha)
 | fn f cs=>simp only[ids];exact lq cs l h
 | st t fs=>simp only[ids];exact lq fs l h
 | cE vs=>simp only[ids];exact lq vs l h
 | _=>exact h
theorem lq (x:List AV) (l:List Nat) (h:l.Nodup):(ids.lL x l).Nodup:=by
 cases x with
 | nil=>exact h
 | cons y r=>simp only[ids.lL];exact lq r _ (JA y l h)
end
theorem zx {l:List Nat} (h:l.Nodup) {i j:Nat} {o:Nat} (hi:l[i]? = some o) (hj:l[j]? = some o):i=j:=by
 obtain⟨h1,h2⟩:=List.getElem?_eq_some_iff.1 hi;obtain⟨h3,h4⟩:=List.getElem?_eq_some_iff.1 hj;exact (List.getElem_inj h).1 (h2.trans h4.symm)
theorem mY (pr:List (Nat × Nat)):∀ l,jx.u9 pr l=l.map (jx pr)
 | []=>rfl
 | x::r=>by simp only[jx.u9,List.map_cons];rw[mY pr r]
theorem zy (pr:List (Nat × Nat)) (x:AV):bq (jx pr x)=bq x:=by cases x <;> rfl
theorem vf (pr:List (Nat × Nat)) {x:AV} (h:closed x=true) (hl:bq x=true):jx pr x=x:=by
 cases x <;> first | rfl | (simp[closed] at h;done) | cases hl | skip
 rename_i f cs;simp only[closed,List.isEmpty_iff] at h;subst h;rfl
theorem LR.jx {ty:bX} {w:World} {okb:Nat→Prop} {x:AV} {v:Value} (h:LR ty w okb x v) (pr:List (Nat × Nat)):Abs.jx pr x=x:=by
 induction h with
 | fn f cs us h1 h2 ih=>
   simp only[Abs.jx,mY];congr 1
   refine List.ext_getElem? fun i=>?_
   rw[List.getElem?_map];cases hc:cs[i]? with
   | none=>rfl
   | some y=>simp[ih i y hc]
 | _=>rfl
theorem qF {g:AV→AV}:∀ (fs:List AV),(∀ x ∈ fs,leaves (g x)=(leaves x).map g)→ay (fs.map g)=(ay fs).map g
 | [],_=>rfl
 | x::r,h=>by
   simp only[List.map_cons,ay,List.map_append];rw[h x (by simp),qF r fun y hy=>h y (by simp[hy])]
theorem br.jx {ty:bX} {t:TypeId} {x:AV} (h:br ty t x) (pr:List (Nat × Nat)):br ty t (Abs.jx pr x)∧leaves (Abs.jx pr x)=(leaves x).map (Abs.jx pr):=by
 induction h with
 | leaf h1 h2 h3 h4=>
   exact⟨.leaf h1 h2 h3 (by rw[zy];exact h4),by rw[bY h4,bY (by rw[zy];exact h4)];rfl⟩
 | @st t ts s b z fs h1 h2 h3 h4 ih=>
   have hk:∀ x ∈ fs,leaves (Abs.jx pr x)=(leaves x).map (Abs.jx pr):=fun x hx=>by
    obtain⟨i,hi,e⟩:=List.getElem_of_mem hx;have tp:fs[i]? = some x:=by rw[List.getElem?_eq_getElem hi,e]
    exact (ih i x ts[i] tp (by rw[List.getElem?_eq_getElem])).2
   refine⟨?_,?_⟩
   ·simp only[Abs.jx,mY];refine .st h1 (by simpa using h2) h3 fun i x u hx hu=>?_
    rw[List.getElem?_map] at hx;cases hf:fs[i]? with
    | none=>rw[hf] at hx;cases hx
    | some y=>rw[hf] at hx;injection hx with hx;subst hx;exact (ih i y u hf hu).1
   ·simp only[Abs.jx,mY,leaves];exact qF fs hk
 | ar h1 h2 h3 h4 h5 _=>
   refine⟨.ar h1 h2 h3 h4 h5,?_⟩;simp only[Abs.jx,leaves];have:∀ (l:List AV),(∀ z ∈ l,Abs.jx pr z=z)→l=l.map (Abs.jx pr):=fun l hl=>by
    induction l with
    | nil=>rfl
    | cons a r ih=>rw[List.map_cons,hl a (by simp),← ih fun z hz=>hl z (by simp[hz])]
   refine this _ fun z hz=>?_
   obtain⟨q,h6,h7⟩:=cm hz;have h8:=fA _ q (Nat.lt_succ_self _) (h5 q h6) z h7;exact vf pr h8.1 h8.2.2.2
theorem gp.orR {c c':Cx} (m:gp c c') {pr:List (Nat × Nat)} {x:AV} {v:Value} (h:OR c x v) (hβ:∀ o,bA o x=true→c'.β (rn pr o)=c.β o):OR c' (jx pr x) v:=by
 induction h with
 | undef v=>exact .undef v
 | cl h=>rw[h.jx pr];exact .cl (m.lr h)
 | l8 o t h=>exact .l8 _ t (by rw[hβ o (by simp[bA])];exact h)
 | own o t off n k cp arr e h1 h2 h3 h4=>
   obtain⟨arr',h5,h6⟩:=m.rows k arr e h2;have:=OR.own (c:=c') (rn pr o) t off n k cp arr' e (by rw[hβ o (by simp[bA])];exact h1) h5 (by rw[m.ty,h6];exact h3) h4
   rwa [m.ty] at this
 | ptr o r p k d h1 h2=>exact .ptr _ r p k d (by rw[hβ o (by simp[bA])];exact h1) (by rw[m.ty];exact h2)
 | fn f cs vs h1 _ ih=>
   simp only[jx,mY];refine .fn f _ vs (by simpa using h1) fun i x hx=>?_
   rw[List.getElem?_map] at hx;cases hc:cs[i]? with
   | none=>rw[hc] at hx;cases hx
   | some y=>
     rw[hc] at hx;injection hx with hx;subst hx
     refine ih i y hc fun o ho=>hβ o ?_
     simp only[bA];cases hm:bA.du o cs with
     | true=>rfl
     | false=>rw[iH o cs hm i y hc] at ho;cases ho
theorem F2.Vn {R R':AV→Value→Prop} {g:AV→AV} {xs:List AV} {vs:List Value} (h:F2 R xs vs) (hg:∀ (i:Nat) (x:AV) (v:Value),xs[i]? = some x→vs[i]? = some v→R x v→R' (g x) v):F2 R' (xs.map g) vs:=by
 refine⟨by simpa using h.1,fun i y v hy hv=>?_⟩;rw[List.getElem?_map] at hy;cases hc:xs[i]? with
 | none=>rw[hc] at hy;cases hy
 | some x=>rw[hc] at hy;injection hy with hy;subst hy;exact hg i x v hc hv (h.2 i x v hc hv)
theorem gp.QC {c c':Cx} (m:gp c c') {pr:List (Nat × Nat)} {x:AV} {v:Value} (h:mM c x v) (hβ:∀ o,bA o x=true→c'.β (rn pr o)=c.β o):mM c' (jx pr x) v:=by
 have hβ':∀ o,c'.β (rn pr o)=c.β o∨bA o x=false:=fun o=>by
  cases hm:bA o x with
  | true=>exact .inl (hβ o hm)
  | false=>exact .inr rfl
 have key:∀ t,br c.ty t x→∀ vs:Array Value,F2 (OR c) (leaves x) vs.toList→br c'.ty t (jx pr x)∧F2 (OR c') (leaves (jx pr x)) vs.toList:=fun t hc vs hF=>by
  obtain⟨h1,h2⟩:=hc.jx pr;refine⟨by rw[m.ty];exact h1,?_⟩;rw[h2];refine F2.Vn hF fun i y u hy hu hr=>m.orR hr fun o ho=>?_
  rcases hβ' o with h | h
  ·exact h
  ·rw[mr hc o h y (List.mem_of_getElem? hy)] at ho;cases ho
 cases x with
 | st t fs=>obtain⟨vs,e,hc,hF⟩:=h;obtain⟨h1,h2⟩:=key t hc vs hF;exact⟨vs,e,h1,h2⟩
 | ar t es=>obtain⟨vs,e,hc,hF⟩:=h;obtain⟨h1,h2⟩:=key t hc vs hF;exact⟨vs,e,h1,h2⟩
 | cE _=>exact h.elim
 | _=>exact m.orR h hβ
theorem gp.vrR {c c':Cx} (m:gp c c') {pr:List (Nat × Nat)} {x:AV} {v:Value} (h:VR c x v) (hβ:∀ o,bA o x=true→c'.β (rn pr o)=c.β o):VR c' (jx pr x) v:=by
 cases x with
 | cE xs=>
   obtain⟨vs,e,hF⟩:=h;simp only[jx,mY];refine⟨vs,e,F2.Vn hF fun i y u hy hu hr=>m.QC hr fun o ho=>hβ o ?_⟩;simp only[bA];cases hm:bA.du o xs with
   | true=>rfl
   | false=>rw[iH o xs hm i y hy] at ho;cases ho
 | st t fs=>exact ga (m.QC (x:= .st t fs) h hβ)
 | ar t es=>exact ga (m.QC (x:= .ar t es) h hβ)
 | _=>exact ga (m.QC (show mM c _ v from h) hβ)
theorem gp.obj {c c':Cx} (m:gp c c') {o o':Nat} {b:Obj} (h:zo c o b) (hk:mR b=true) (hβ:c'.β o'=c.β o) (aci:∀ k,c.β o=some k→c'.w.heap[k]? = c.w.heap[k]?) (mw:∀ k,c.β o=some k→c.new k→c'.new k):zo c' o' b:=by
 obtain⟨h1,h2⟩:=h;refine⟨by rw[m.ty];exact h1,?_⟩;rw[hβ];split
 ·rename_i hn;rw[hn] at h2;exact h2
 ·rename_i k hs;rw[hs] at h2;obtain⟨a,arr,e,h3,h4⟩:=h2;refine⟨mw k hs a,arr,e,by rw[aci k hs];exact h3,fun j x hx=>?_⟩;obtain⟨v,h5,h6⟩:=h4 j x hx;refine⟨v,h5,?_⟩;unfold Abs.fw at h6 ⊢;unfold pk at h1;cases hr:b.r with
  | oQ t=>simp[mR,hr] at hk
  | row t=>rw[hr] at h6;exact m.lr h6
  | box t=>
    rw[hr] at h6 h1;obtain⟨y,e1,e2⟩:=h1;simp only[mR,hr,e1,closed.fq,Bool.and_true] at hk;rw[e1] at hx;simp only[ay,List.append_nil] at hx;have hc:=(iL e2).1 hk x (List.mem_of_getElem? hx);have:=h6.lr hc (fr:=jw x) (fun hf=>by
     have hl:bq x=true:=by
      rcases h6 with _ | _ | _ | _ | _ | _ <;> first | rfl | exact LR.leaf ‹_›
     cases x <;> first | rfl | exact hf | cases hl | (simp[closed] at hc))
    exact .cl (m.lr this)
section
variable {P:Program} {E:Env} {w0 w:World} {σ:St} {a:Act} {β:Nat→Option Nat} {x:AV} {ob:List (Nat × Obj)} {d:Nat} {o:Oper}
theorem JB (h:bG E w0 σ a w β) (hG:bj E w0) {c:Call} (ho:o.op = .call c) {g:Operand} (j0:c.callee = .value g) {f:FuncId} {cs l:List AV} (h1:σ.val E.G g=some (.fn f cs))
 (h3:dZ E.G σ c.args.toList=some l) (LD:yS P f) :
 ∃ us:Array Value,(execOp a.eval o).run P w = .ok (.enter f (c.args.map a.eval++us)) w∧F2 (VR (aK E w0 σ w β)) (l++cs) (c.args.map a.eval++us).toList:=by
 have hg:=bt h hG h1;have hl:=fe h hG c.args.toList l h3;obtain⟨us,e1,e2⟩:∃ us:Array Value,a.eval g = .func (.func f) #[] us∧(us.size=cs.length∧∀ (i:Nat) (y:AV),cs[i]? = some y→mM (aK E w0 σ w β) y (us.getD i undef)):=by
  have wg:OR (aK E w0 σ w β) (.fn f cs) (a.eval g):=hg;generalize a.eval g=gg at wg;cases wg with
  | cl wg=>
    cases wg with
    | fn f cs us q1 q2=>exact⟨us,rfl,q1,fun i y hy=>by
       have:=q2 i y hy;exact (jU this.leaf).2 (.cl (this.mono fun b hb aR=>⟨⟨hb.1,fun hf=>hb.2 (by simp[jw])⟩,aR,rfl⟩))⟩
  | fn f cs us q1 q2=>exact⟨us,rfl,q1,fun i y hy=>(jU (q2 i y hy).bq).2 (q2 i y hy)⟩
 refine⟨us,?_,?_⟩
 ·obtain⟨fn,q1,q2,q3⟩:=LD;obtain⟨body,hb⟩:=Option.isSome_iff_exists.1 q2;simp[execOp,ho,resolve,j0,e1,Deferred.ofValue,invoke,callFunc,q1,q3,hb]
 ·have hlen:l.length=(c.args.toList.map a.eval).length:=hl.1;refine⟨by simp[hlen,e2.1],fun i y v hy hv=>?_⟩;simp only[Array.toList_append,Array.toList_map] at hv;by_cases qk:i < l.length
  ·rw[List.getElem?_append_left (by rw[← hlen];exact qk)] at hv;rw[List.getElem?_append_left qk] at hy;exact hl.2 i _ v hy hv
  ·rw[List.getElem?_append_right (by rw[← hlen];omega),← hlen] at hv;rw[List.getElem?_append_right (by omega)] at hy;have:=e2.2 (i - l.length) y hy;have hu:us.getD (i - l.length) undef=v:=by
    rw[Array.getD_eq_getD_getElem?,← Array.getElem?_toList,hv];rfl
   rw[hu] at this;exact ga this
theorem tA (hC:cM P E) (h:bG E w0 σ a w β) (hG:bj E w0) {c:Call} (ho:o.op = .call c) {g:Operand} (j0:c.callee = .value g) {f:FuncId} {cs l:List AV} (h1:σ.val E.G g=some (.fn f cs))
 (h3:dZ E.G σ c.args.toList=some l) (X:Nat) (hr:(av (nv σ.ob (num gR (ids.lL (l++cs) []))) fun G9=>av (E.M f (jx.u9 (num gR (ids.lL (l++cs) [])) (l++cs)) G9) (zi X σ (num gR (ids.lL (l++cs) []))))=some (x,ob)):C3 P E w0 σ a ob x o w:=by
 obtain⟨G9,h4,h5⟩:=aq hr;obtain⟨⟨r,LG⟩,h6,h7⟩:=aq h5;unfold zi at h7;dsimp only at h7;split at h7;rotate_left
 ·cases h7
 rename_i hc;obtain⟨c1,c2,c3⟩:=hc;obtain⟨l1,h8,h9⟩:=aq h7;injection h9 with h9;injection h9 with h9 dR;subst h9;subst dR
 obtain⟨LD,Fx⟩:=hC.m f _ G9 r LG h6;obtain⟨us,gb,lI⟩:=JB (P:=P) h hG ho j0 h1 h3 LD;have hnd:(ids.lL (l++cs) []).Nodup:=lq _ _ List.nodup_nil;have acj:∀ (i:Nat) (y:AV),(l++cs)[i]? = some y→∀ q,bA q y=true→q ∈ ids.lL (l++cs) []:=fun i y hy q hq=>(nT (l++cs) [] q).2 (by
  cases hm:bA.du q (l++cs) with
  | true=>rfl
  | false=>rw[iH q _ hm i y hy] at hq;cases hq)
 generalize ids.lL (l++cs) []=l9 at *;have c1':=wh _ c1;have c3':=within_iff _ c3;have an9:∀ q,q ∈ lM LG→∃ y,aA q LG=some y:=fun q hq=>C6 LG q hq
 have jb:∀ n,X≤n→n - X < (lM LG).length→σ.free n=true:=fun n tB C9=>by
  have:=tz (σ:=σ) (lM LG) X c2 (n - X) C9
  rwa [show X+(n - X)=n by omega] at this
 generalize lM LG=keys at *;obtain⟨β0,hβ0⟩:∃ β0:Nat→Option Nat,β0=fun n=>if gR≤n then (match l9[n - gR]? with | some q=>β q | none=>none) else none:=⟨_,rfl⟩
 obtain⟨Bo,Fy⟩:∃ Bo:Nat→Prop,Bo=fun k=>¬ (aK E w0 σ w β).mu k:=⟨_,rfl⟩
 obtain⟨qG,C_⟩:∃ qG:Nat→Prop,qG=fun k=>∃ q b,q ∈ l9∧aA q σ.ob=some b∧β q=some k:=⟨_,rfl⟩
 obtain⟨Qb,ajE⟩:∃ Qb:Option Nat,Qb=some (ie E.lo w0.heap.size):=⟨_,rfl⟩
 have mN:ie Qb w.heap.size=ie E.lo w0.heap.size:=by
  have:=jV E.lo w0.heap.size;have:=h.below.size;subst ajE;exact Nat.min_eq_left (by omega)
 have dJ:∀ n q,gR≤n→l9[n - gR]? = some q→β0 n=β q:=fun n q h1 h2=>by subst hβ0;simp[h1,h2]
 have eQ:∀ q b k,aA q σ.ob=some b→β q=some k→(aK E w0 σ w β).new k∧k < w.heap.size:=fun q b k h1 h2=>by
  have:=(h.gD q b h1).eQ;simp only[aK,h2] at this;obtain⟨h3,arr,e,h4,_⟩:=this;exact⟨h3,(Array.getElem?_eq_some_iff.1 h4).1⟩
 have m0:gp (aK E w0 σ w β) (ql E.ty Qb Bo qG w.heap.size G9 w β0):={
  ty:=rfl,base:=mN,size:=Nat.le_refl _
  cA:=fun b hb hl=>⟨fun lh=>by
   rcases lh with lh | ⟨n,y,h1,h2⟩
   ·exact lh.2 (by rw[Fy];exact hb)
   ·obtain⟨q,q1,q2,q3,_⟩:=kV l9 gR G9 h4 n y h1;rw[dJ n q q1 q2] at h2;exact hb (.inr ⟨q,y,q3,h2⟩),rfl⟩
  rows:=fun b arr e hb=>⟨arr,hb,rfl⟩ }
 have yU:∀ n b,aA n G9=some b→zo (ql E.ty Qb Bo qG w.heap.size G9 w β0) n b:=fun n b hn=>by
  obtain⟨q,q1,q2,q3,q4⟩:=kV l9 gR G9 h4 n b hn;refine m0.obj (h.gD q b q3) q4 (dJ n q q1 q2) (fun _ _=>rfl) fun k hk mw=> .inr ⟨?_,?_⟩
  ·rw[C_];exact⟨q,b,List.mem_of_getElem? q2,q3,hk⟩
  ·rw[Fy];exact fun hn=>hn (.inr ⟨q,b,q3,hk⟩)
 have yV:Vh G9 β0:=fun n n' b b' k h1 h2 k1 k2=>by
  obtain⟨q,q1,q2,q3,_⟩:=kV l9 gR G9 h4 n b h1;obtain⟨q',q1',q2',q3',_⟩:=kV l9 gR G9 h4 n' b' h2;rw[dJ n q q1 q2] at k1;rw[dJ n' q' q1' q2'] at k2;have:=h.inj q q' b b' k q3 q3' k1 k2;subst this;have:=zx hnd q2 q2';omega
 have Hj:F2 (VR (ql E.ty Qb Bo qG w.heap.size G9 w β0)) (jx.u9 (num gR l9) (l++cs)) (c.args.map a.eval++us).toList:=by
  rw[mY];refine F2.Vn lI fun i y v hy hv hr=>m0.vrR hr fun q hq=>?_
  have hm:=acj i y hy q hq;obtain⟨r1,r2⟩:=LF (b:=gR) hm;exact dJ _ q r1 r2
 have acm:∀ g t x,E.G g=some (t,x)→LR E.ty w Bo (.ro false t x) (.pointer (some ⟨g,0,none⟩)):=fun g t x hg=>
  (h.old (hG g t x hg)).mono fun b hb hl=>⟨by rw[Fy];exact hb.1,hl,rfl⟩
 intro next Q K;unfold Oper.wp;rw[gb];refine Calls.mono (Fx Qb Bo qG w β0 _ yU yV Hj acm) fun e w' he=>?_
 obtain⟨v,β',e1,hb,acn,aco,Fz⟩:=he;subst e1;obtain⟨β1,hβ1⟩:∃ β1:Nat→Option Nat,β1=fun n=>if X≤n∧n - X < keys.length then (match keys[n - X]? with | some q=>β' q | none=>none) else β n:=⟨_,rfl⟩
 have FA:∀ n q,X≤n→keys[n - X]? = some q→β1 n=β' q:=fun n q h1 h2=>by
  subst hβ1;have:n - X < keys.length:=(List.getElem?_eq_some_iff.1 h2).1;dsimp only;rw[if_pos ⟨h1,this⟩,h2]
 have tC:∀ n,¬ (X≤n∧n - X < keys.length)→β1 n=β n:=fun n hn=>by subst hβ1;simp only[if_neg hn]
 have b1T:∀ t y,aA t σ.tm=some y→∀ q,bA q y=true→β1 q=β q:=fun t y hy q hq=>tC q fun hn=>by
  have hf:=jb q hn.1 hn.2;simp only[St.free,Bool.and_eq_true] at hf;rw[iI hf.1 t y hy] at hq;cases hq
 have get:∀ n y,aA n (nN l1 (jR (lM (num gR l9)) σ.ob))=some y→(∃ q,X≤n∧keys[n - X]? = some q∧aA q LG=some y∧mR y=true)∨(¬ (X≤n∧n - X < keys.length)∧n ∉ l9∧aA n σ.ob=some y):=fun n y hn=>by
  rw[wi] at hn;split at hn
  ·rename_i z hz;injection hn with hn;subst hn
   obtain⟨q,q1,q2,q3,q4⟩:=kV keys X l1 h8 n z hz;exact .inl ⟨q,q1,q2,q3,q4⟩
  ·rename_i hz;rw[C8,C7] at hn;split at hn
   ·cases hn
   ·rename_i vd;refine .inr ⟨fun de=>?_,vd,hn⟩;obtain⟨z,z1,_⟩:=zw keys X l1 h8 (n - X) keys[n - X] (by simp[de.2]);rw[show X+(n - X)=n by omega,hz] at z1;cases z1
 have acp:∀ q y k,aA q LG=some y→β' q=some k→w.heap.size≤k∨(qG k∧¬ Bo k):=fun q y k h1 h2=>by
  have:=(acn q y h1).eQ;simp only[ql,h2] at this;exact this.1
 have nmu:∀ b,¬ (aK E w0 σ w β).mu b→b < w.heap.size→¬ (aK E w0 ⟨σ.tm,nN l1 (jR (lM (num gR l9)) σ.ob)⟩ w' β1).mu b:=fun b iJ aR lh=>by
  rcases lh with z | ⟨n,y,h1,h2⟩
  ·exact iJ (.inl z)
  ·rcases get n y h1 with ⟨q,q1,q2,q3,_⟩ | ⟨q1,q2,q3⟩
   ·rw[FA n q q1 q2] at h2;rcases acp q y b q3 h2 with h3 | h3
    ·omega
    ·exact h3.2 (by rw[Fy];exact iJ)
   ·rw[tC n q1] at h2;exact iJ (.inr ⟨n,y,q3,h2⟩)
 have m1:gp (aK E w0 σ w β) (aK E w0 ⟨σ.tm,nN l1 (jR (lM (num gR l9)) σ.ob)⟩ w' β1):={
  ty:=rfl,base:=rfl,size:=hb.size
  cA:=fun b iJ aR=>⟨nmu b iJ aR,hb.block b aR fun hl=>hl.2 (by rw[Fy];exact iJ)⟩
  rows:=hb.rows }
 have m2:gp (ql E.ty Qb Bo qG w.heap.size LG w' β') (aK E w0 ⟨σ.tm,nN l1 (jR (lM (num gR l9)) σ.ob)⟩ w' β1):={
  ty:=rfl,base:=mN.symm,size:=Nat.le_refl _
  cA:=fun b iJ aR=>⟨fun lh=>by
   rcases lh with z | ⟨n,y,h1,h2⟩
   ·have hs:=h.below.size;exact iJ (.inl ⟨by have:=z.1;omega,by rw[Fy];exact fun hA=>hA (.inl z)⟩)
   ·rcases get n y h1 with ⟨q,q1,q2,q3,_⟩ | ⟨q1,q2,q3⟩
    ·rw[FA n q q1 q2] at h2;exact iJ (.inr ⟨q,y,q3,h2⟩)
    ·rw[tC n q1] at h2;exact iJ (.inl ⟨(eQ n y b q3 h2).2,by rw[Fy];exact fun hA=>hA (.inr ⟨n,y,q3,h2⟩)⟩),rfl⟩
  rows:=fun b arr e iJ=>⟨arr,iJ,rfl⟩ }
 have acq:∀ k,qG k→(aK E w0 σ w β).new k:=fun k hk=>by
  rw[C_] at hk;obtain⟨q,b,_,q1,q2⟩:=hk;exact (eQ q b k q1 q2).1
 refine K v w' β1 ?_ (m2.vrR Fz fun q hq=>?_);rotate_left
 ·have hm:=c3' q ((Hi r [] q).2 hq);obtain⟨r1,r2⟩:=LF (b:=X) hm;exact FA _ q r1 r2
 exact {
  below:=h.below.trans ⟨hb.os,hb.tape,hb.output,hb.size,fun k hk hl=>hb.block k (by have:=h.below.size;omega) fun hq=>by
   rcases acq k hq.1 with h1 | h1
   ·omega
   ·exact hl h1,hb.rows⟩
  size:=h.size,defers:=h.defers.to fun k hk=>by
   rw[hb.block k (Array.getElem?_eq_some_iff.1 hk).1 fun hq=>by
    have hl:=hq.1;rw[C_] at hl;obtain⟨q,b,_,q1,q2⟩:=hl;have:=(h.gD q b q1).eQ;simp only[aK,q2] at this;obtain⟨_,arr,e,h3,_⟩:=this;rw[hk] at h3;cases h3]
   exact hk
  tms:=fun t y hy=>⟨(h.tms t y hy).1,m1.vr (h.tms t y hy).2 (b1T t y hy)⟩
  gD:=fun n y hn=>by
   rcases get n y hn with ⟨q,q1,q2,q3,q4⟩ | ⟨q1,q2,q3⟩
   ·refine m2.obj (acn q y q3) q4 (FA n q q1 q2) (fun _ _=>rfl) fun k hk mw=>?_
    rcases mw with h1 | h1
    ·exact .inl (Nat.le_trans h.below.size h1)
    ·exact acq k h1.1
   ·have m:mS (aK E w0 σ w β) (aK E w0 ⟨σ.tm,nN l1 (jR (lM (num gR l9)) σ.ob)⟩ w' β1):={ m1 with new:=rfl }
    refine m.KT (h.gD n y q3) (fun q hq=>tC q fun de=>?_) (tC n q1) fun k hk=>hb.block k (eQ n y k q3 hk).2 fun hq=>?_
    ·have hf:=jb q de.1 de.2;simp only[St.free,Bool.and_eq_true] at hf;by_cases e:n=q
     ·subst e;exact q1 de
     ·rw[kU hf.2 n y q3 e] at hq;cases hq
    ·have h1:=hq.1;rw[C_] at h1;obtain⟨q,b,r1,r2,r3⟩:=h1;have:=h.inj n q y b k q3 r2 hk r3;subst this;exact q2 r1
  inj:=fun n n' y y' k h1 h2 k1 k2=>by
   have Ty:∀ n n' y y',(∃ q,X≤n∧keys[n - X]? = some q∧aA q LG=some y∧mR y=true)→(¬ (X≤n'∧n' - X < keys.length)∧n' ∉ l9∧aA n' σ.ob=some y')→β1 n=some k→β1 n'=some k→False:=fun n n' y y' ⟨q,q1,q2,q3,_⟩ ⟨p1,p2,p3⟩ k1 k2=>by
    rw[FA n q q1 q2] at k1;rw[tC n' p1] at k2;have hl:=(eQ n' y' k p3 k2).2;rcases acp q y k q3 k1 with h3 | h3
    ·omega
    ·have h4:=h3.1;rw[C_] at h4;obtain⟨p,b,r1,r2,r3⟩:=h4;have:=h.inj n' p y' b k p3 r2 k2 r3;subst this;exact p2 r1
   rcases get n y h1 with hA | hA <;> rcases get n' y' h2 with hB | hB
   ·obtain⟨q,q1,q2,q3,_⟩:=hA;obtain⟨q',q1',q2',q3',_⟩:=hB;rw[FA n q q1 q2] at k1;rw[FA n' q' q1' q2'] at k2;have:=aco q q' y y' k q3 q3' k1 k2;subst this;have:=zx c1' q2 q2';omega
   ·exact (Ty n n' y y' hA hB k1 k2).elim
   ·exact (Ty n' n y' y hB hA k2 k1).elim
   ·rw[tC n hA.1] at k1;rw[tC n' hB.1] at k2;exact h.inj n n' y y' k hA.2.2 hB.2.2 k1 k2 }
theorem FB (hC:cM P E) (h:bG E w0 σ a w β) (hG:bj E w0) {c:Call} (ho:o.op = .call c) {g:Operand} (j0:c.callee = .value g) {f:FuncId} {cs l:List AV} (h1:σ.val E.G g=some (.fn f cs))
 (h3:dZ E.G σ c.args.toList=some l) (hr:CM E d σ f (l++cs)=some (x,ob)):C3 P E w0 σ a ob x o w:=
 tA hC h hG ho j0 h1 h3 (Lc d) hr
mutual
theorem QD (x:AV):jx [] x=x:=by
 cases x with
 | own o t i n=>rfl
 | ptr o r p=>rfl
 | fn f cs=>simp only[jx];rw[nU cs]
 | st t fs=>simp only[jx];rw[nU fs]
 | cE vs=>simp only[jx];rw[nU vs]
 | _=>rfl
theorem nU (l:List AV):jx.u9 [] l=l:=by
 cases l with
 | nil=>rfl
 | cons x r=>simp only[jx.u9];rw[QD x,nU r]
end
theorem LH {q:AV × List (Nat × Obj)} (h:zj d σ q=some (x,ob)):zi d σ [] q=some (x,ob):=by
 unfold zj at h;split at h
 ·rename_i o b hq;split at h
  ·rename_i hc;obtain⟨c1,c2,c3⟩:=hc;unfold zi;simp only[hq,lM,num,sv,oC,c1,c3,nv,aA,c2,av,List.contains_nil,Bool.not_false,Bool.and_self,and_self,if_true,jR,nN];exact h
  ·cases h
 ·cases h
theorem pU (hC:cM P E) (h:bG E w0 σ a w β) (hG:bj E w0) {c:Call} (ho:o.op = .call c) {g:Operand} (j0:c.callee = .value g) (hq:Ld E.Q g=true) {l:List AV}
 (h3:dZ E.G σ c.args.toList=some l) (hr:pj E d σ (vR g) l=some (x,ob)):C3 P E w0 σ a ob x o w:=by
 obtain⟨f,rfl⟩:∃ f,g = .func f:=by
  cases g with
  | func f=>exact⟨f,rfl⟩
  | _=>cases hq
 unfold pj at hr;split at hr
 ·rename_i hi;obtain⟨q,h4,h5⟩:=aq hr;have zp:ids.lL (l++[]) []=[]:=by rw[List.append_nil];exact List.isEmpty_iff.1 hi
  refine tA hC h hG ho j0 (f:=f) (cs:=[]) rfl h3 d ?_;rw[zp];simp only[num,nv,aN,List.append_nil,nU];rw[show E.M f l []=some q from h4];exact LH h5
 ·cases hr
end
end Go.Abs
end
