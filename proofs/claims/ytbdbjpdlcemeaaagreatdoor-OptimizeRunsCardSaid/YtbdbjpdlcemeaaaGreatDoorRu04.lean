/- A part of a proof. -/
import Derived.RangeFuncIn
import Derived.RangeFuncCalls
import Derived.RangeFuncOwn
import Derived.RangeFuncSeq
import Derived.LoopNIn
import Derived.Scope
import Derived.Deep.Slices
import Derived.Test.YtbdbjpdlcemeaaaGreatDoorRu02
set_option linter.unusedSimpArgs false
set_option linter.unusedVariables false
section
namespace Go.Abs
open Go Go.RowKit
section
variable {P:Program} {E:Env} {w0 w:World} {σ:St} {a:Act} {β:Nat→Option Nat} {o:Oper}
theorem uJ {n:Nat} {row:String} {args:Array Value} {R:Value→World→Prop} (h:Rows P row args w R):RowsIn Fence.wide n P row args w R:=
 fun c cs _=>let ⟨v,w',r,s⟩:=h c cs;⟨v,w',r,stepsIn_wide.2 s⟩
theorem FW {o:Oper} {next:Act→World→Prop} {Q:Exit→Act→World→Prop} {l n:Nat} {r:Result Next} (h:o.upon P a next Q r):o.uponIn (Fence.wide.inRound l) n P a next Q r:=by
 cases r with
 | ok x w'=>
   cases x with
   | value v=>exact h
   | skip=>exact h
   | defer d=>exact h
   | enter f args=>exact⟨fun hd=>by simp[Fence.wide] at hd,CallsIn.inRound l (callsIn_wide.2 h)⟩
   | row row args=>exact⟨fun hd=>by simp[Fence.wide] at hd,uJ h⟩
   | _=>exact h.elim
 | halt s w'=>cases s <;> first | exact h | exact h.elim
theorem Nm {o:Oper} {next:Act→World→Prop} {Q:Exit→Act→World→Prop} {l n:Nat} (hd:∀ c,o.op ≠ .defer c) (h:o.wp P a w next Q):o.wpIn (Fence.wide.inRound l) n P a w next Q:=by
 refine⟨fun _ _=>trivial,?_⟩;rw[Fence.inRound_round,Oper.semAt_eq _ _ _ hd];exact FW h
theorem JJ {o:Oper} {next:Act→World→Prop} {Q:Exit→Act→World→Prop} {n:Nat} {r:Result Next} (h:o.upon P a next Q r):o.uponIn Fence.wide n P a next Q r:=by
 cases r with
 | ok x w'=>
   cases x with
   | value v=>exact h
   | skip=>exact h
   | defer d=>exact h
   | enter f args=>exact⟨fun hd=>by simp[Fence.wide] at hd,callsIn_wide.2 h⟩
   | row row args=>exact⟨fun hd=>by simp[Fence.wide] at hd,uJ h⟩
   | _=>exact h.elim
 | halt s w'=>cases s <;> first | exact h | exact h.elim
def Rj (P:Program) (F:Fence) (n:Nat):Prop:=(∀ f,F.fn f)∧∀ (o:Oper) (a:Act) (w:World) (next:Act→World→Prop) (Q:Exit→Act→World→Prop),(∀ c,o.op ≠ .defer c)→o.wp P a w next Q→o.wpIn F n P a w next Q
theorem xK (l n:Nat):Rj P (Fence.wide.inRound l) n:=⟨fun _=>trivial,fun _ _ _ _ _ hd h=>Nm hd h⟩
theorem iO (n:Nat):Rj P Fence.wide n:=⟨fun _=>trivial,fun _ _ _ _ _ _ h=>⟨fun _ _=>trivial,JJ h⟩⟩
def oG:Op→Bool
 | .defer _=>false
 | _=>true
def bQ (S:List Nat):Code→Bool
 | .skip=>true
 | .exit _=>true
 | .ret=>true
 | .cond _ x y=>bQ S x&&bQ S y
 | .region _ N false=>N.toList.all fun o=>oG o.op&&(match o.dst with | some t=> !S.contains t | none=>true)
 | .seq x y=>bQ S x&&bQ S y
 | .block _ c=>bQ S c
 | _=>false
def Kept (S:List Nat) (a a':Act):Prop:=(∀ t ∈ S,a'.tmps.getD t undef=a.tmps.getD t undef)∧a'.defers=a.defers
theorem Kept.refl (S:List Nat) (a:Act):Kept S a a:=⟨fun _ _=>rfl,rfl⟩
theorem Kept.trans {S:List Nat} {a b c:Act} (h:Kept S a b) (k:Kept S b c):Kept S a c:=⟨fun t ht=>(k.1 t ht).trans (h.1 t ht),k.2.trans h.2⟩
theorem Kept.put {S:List Nat} {a:Act} {d:Option Nat} {v:Value} (hd:(match d with | some t=> !S.contains t | none=>true)=true):Kept S a (a.put d v):=by
 refine⟨fun t ht=>?_,by cases d <;> rfl⟩;cases d with
 | none=>rfl
 | some u=>
   have d_:u ≠ t:=by
    rintro rfl;simp only[Bool.not_eq_true',List.contains_eq_mem,decide_eq_false_iff_not] at hd;exact hd ht
   simp only[Act.put,Array.getD_eq_getD_getElem?];rw[Array.getElem?_setIfInBounds_ne d_]
theorem JK {S:List Nat} (D_:(match o.dst with | some t=> !S.contains t | none=>true)=true) (hT:dk P E.ty) (hC:cM P E) (h:bG E w0 σ a w β) (hG:bj E w0) {N:Array Oper} {σ':St} (hr:yN E N.toList o σ=some σ') {K:Act→World→Prop} {Q:Exit→Act→World→Prop}
 (hK:∀ a' w' β',bG E w0 σ' a' w' β'→Kept S a a'→K a' w') :
 if Region.wanted o (yielded N a.tmps) then o.wp P a w K Q else K (a.put o.dst undef) w:=by
 have run:av (dg E (o.dst.getD 0) σ o.op) (bI E σ o.dst)=some σ'→o.wp P a w K Q:=fun hr=>by
  obtain⟨⟨x,ob⟩,h1,h2⟩:=aq hr;refine wq hT hC h hG h1 K Q fun v w' β' hS hV=>?_
  unfold bI at h2;split at h2
  ·rename_i t ht;split at h2
   ·rename_i aR;injection h2 with h2;subst h2
    rw[ht];exact hK _ _ _ (hS.put aR hV) (by rw[← ht];exact Kept.put D_)
   ·cases h2
  ·rename_i ht;injection h2 with h2;subst h2
   rw[ht];exact hK _ _ _ hS (by rw[← ht];exact Kept.put D_)
 unfold yN at hr;split at hr
 ·rename_i hg;rw[if_pos (by simp[Region.wanted,hg])];exact run hr
 ·rename_i j b hg;split at hr
  ·rename_i t ht;split at hr
   ·rename_i q hq;have hy:yielded N a.tmps j=some q:=by
     obtain⟨h1,h2⟩:=h.tms t _ hq;have h3:=VR.fC h2;have h4:a.tmps[t]? = some (.bool q):=by
      have:t < a.tmps.size:=by rw[h.size];exact h1
      rw[Array.getD_eq_getD_getElem?] at h3;rw[Array.getElem?_eq_getElem this] at h3 ⊢;simpa using h3
     have h5:(N[j]?).bind (·.dst)=some t:=by
      unfold ib at ht;rw[Array.getElem?_toList] at ht;split at ht
      ·rename_i o' my;rw[my];exact ht
      ·cases ht
     simp[yielded,h5,h4]
    have hw:Region.wanted o (yielded N a.tmps)=(q==b):=by
     simp[Region.wanted,hg,hy]
    rw[hw];split at hr
    ·rename_i e;subst e;rw[if_pos (by simp)];exact run hr
    ·rename_i e;rw[if_neg (by simpa using e)];unfold bI at hr;split at hr
     ·rename_i t' sG;split at hr
      ·rename_i aR;injection hr with hr;subst hr
       rw[sG];exact hK _ _ _ (h.put aR ⟨#[],rfl,rfl,fun i x v hx=>by simp at hx⟩) (by rw[← sG];exact Kept.put D_)
      ·cases hr
     ·rename_i sG;injection hr with hr;subst hr
      rw[sG];exact hK _ _ _ h (by rw[← sG];exact Kept.put D_)
   ·rename_i hq;have hy:yielded N a.tmps j=none:=by
     obtain⟨h1,h2⟩:=h.tms t _ hq;obtain⟨vs,h3,CQ⟩:=h2;have h4:a.tmps[t]? = some (.tuple vs):=by
      have:t < a.tmps.size:=by rw[h.size];exact h1
      rw[Array.getD_eq_getD_getElem?] at h3;rw[Array.getElem?_eq_getElem this] at h3 ⊢;simpa using h3
     have h5:(N[j]?).bind (·.dst)=some t:=by
      unfold ib at ht;rw[Array.getElem?_toList] at ht;split at ht
      ·rename_i o' my;rw[my];exact ht
      ·cases ht
     simp[yielded,h5,h4]
    have hw:Region.wanted o (yielded N a.tmps)=false:=by
     simp[Region.wanted,hg,hy]
    rw[hw,if_neg (by simp)];unfold bI at hr;split at hr
    ·rename_i t' sG;split at hr
     ·rename_i aR;injection hr with hr;subst hr
      rw[sG];exact hK _ _ _ (h.put aR ⟨#[],rfl,rfl,fun i x v hx=>by simp at hx⟩) (by rw[← sG];exact Kept.put D_)
     ·cases hr
    ·rename_i sG;injection hr with hr;subst hr
     rw[sG];exact hK _ _ _ h (by rw[← sG];exact Kept.put D_)
   ·cases hr
  ·cases hr
theorem kW (hT:dk P E.ty) (hC:cM P E) (hG:bj E w0) {N:Array Oper} {Q:Exit→Act→World→Prop} {σ':St} {S:List Nat} {F:Fence} {n:Nat} (hF:Rj P F n) {a0:Act} {tail:List Nat}:∀ (rest:List Oper) (k:Nat) (σ:St) (a:Act) (w:World) (β:Nat→Option Nat),
 (∀ j,j < rest.length→rest[j]? = N[k+j]?)→(rest.all fun o=>oG o.op&&(match o.dst with | some t=> !S.contains t | none=>true))=true→
 gS E N.toList rest σ=some σ'→bG E w0 σ a w β→Kept S a0 a→(∀ a' w' β',bG E w0 σ' a' w' β'→Kept S a0 a'→wpOpsIn F n P N Q tail a' w')→wpOpsIn F n P N Q (List.range' k rest.length++tail) a w
 | [],k,σ,a,w,β,_,_,hr,h,hs,hQ=>by
   simp[gS] at hr;subst hr;simpa using hQ _ _ _ h hs
 | o::rest,k,σ,a,w,β,hl,cw,hr,h,hs,hQ=>by
   simp only[gS] at hr;obtain⟨σ1,h1,h2⟩:=aq hr;simp only[List.all_cons,Bool.and_eq_true] at cw;obtain⟨⟨hd,D_⟩,Uc⟩:=cw;have h0:N[k]? = some o:=by have:=hl 0 (by simp);simpa using this.symm
   simp only[List.length_cons,List.range'_succ,List.cons_append,wpOpsIn,h0];have key:=JK (Q:=Q) D_ hT hC h hG (N:=N) h1 (K:=wpOpsIn F n P N Q (List.range' (k+1) rest.length++tail)) fun a' w' β' hS hk=>
    kW hT hC hG hF rest (k+1) σ1 a' w' β' (fun j hj=>by have:=hl (j+1) (by simp;omega);rw[List.getElem?_cons_succ] at this;rw[this];congr 1;omega) Uc h2 hS (hs.trans hk) hQ
   have hnd:∀ c,o.op ≠ .defer c:=fun c hc=>by rw[hc] at hd;cases hd
   split
   ·rename_i hw;rw[if_pos hw] at key;exact hF.2 _ _ _ _ _ hnd key
   ·rename_i hw;rw[if_neg hw] at key;exact⟨fun f _=>hF.1 f,key⟩
def Ud (E:Env) (w0:World) (e:AX) (σ':St) (S:List Nat) (a0:Act):Exit→Act→World→Prop:=fun ex a' w'=>ex=Bq e∧(∃ β',bG E w0 σ' a' w' β')∧Kept S a0 a'
theorem j1 (hZ:∀ id,E.Z id=[]) (hT:dk P E.ty) (hC:cM P E) (hG:bj E w0) {H:Nat→Hint} {k n:Nat} {S:List Nat} {F:Fence} (hF:Rj P F n):∀ (c:Code) (σ σ':St) (e:AX),bQ S c=true→a9 E H k c σ=some (e,σ')→
 ∀ (a:Act) (w:World) (β:Nat→Option Nat),bG E w0 σ a w β→c.wpIn F n P (Ud E w0 e σ' S a) a w:=by
 intro c
 induction c with
 | skip=>
   intro σ σ' e _ hr a w β h;simp only[a9] at hr;injection hr with hr;injection hr with h1 h2;subst h1;subst h2
   exact wpIn_skip ⟨rfl,⟨β,h⟩,.refl _ _⟩
 | exit id=>
   intro σ σ' e _ hr a w β h;simp only[a9] at hr;injection hr with hr;injection hr with h1 h2;subst h1;subst h2
   exact wpIn_exit ⟨rfl,⟨β,h⟩,.refl _ _⟩
 | ret=>
   intro σ σ' e _ hr a w β h;simp only[a9] at hr;injection hr with hr;injection hr with h1 h2;subst h1;subst h2
   exact wpIn_ret ⟨rfl,⟨β,h⟩,.refl _ _⟩
 | cond cc c1 c2 KX LQ=>
   intro σ σ' e hs hr a w β h;simp only[bQ,Bool.and_eq_true] at hs;simp only[a9] at hr;obtain⟨q,h1,h2⟩:=aq hr;have hq:=bt h hG h1;split at h2
   ·rename_i b;refine wpIn_cond (VR.fC hq) ?_;split at h2
    ·rename_i e1;subst e1;exact KX σ σ' e hs.1 h2 a w β h
    ·rename_i e1;have:b=false:=by simpa using e1
     subst this;exact LQ σ σ' e hs.2 h2 a w β h
   ·cases h2
 | region id N dr=>
   intro σ σ' e hs hr a w β h;cases dr with
   | true=>cases hs
   | false=>
     simp only[a9] at hr;obtain⟨σ1,h1,h2⟩:=aq hr;injection h2 with h2;injection h2 with h2 h3;subst h2;subst h3
     rw[hZ id] at h1;refine wpIn_region ?_;rw[List.range_eq_range'];have:=kW (Q:=Ud E w0 .norm (kR E σ1) S a) (tail:=[]) hT hC hG hF (N:=N) N.toList 0 _ a w β (fun j _=>by simp) hs h1 (by simpa[St.freeze] using h) (.refl S a) fun a' w' β' hS hk=>
      ⟨rfl,⟨β',hS.less (fun t x hx=>(nV _ _ t x (fun _ _ _=>trivial) hx).2) (fun o b hb=>hb)⟩,hk⟩
     simpa using this
 | seq c1 c2 KX LQ=>
   intro σ σ' e hs hr a w β h;simp only[bQ,Bool.and_eq_true] at hs;simp only[a9] at hr;refine wpIn_seq ?_;rcases then_eq hr with ⟨σ1,h1,h2⟩ | ⟨h1,h2⟩
   ·refine wpIn_mono (KX σ σ1 .norm hs.1 h1 a w β h) fun e' a' w' hp=>?_
    obtain⟨he,⟨β',hS⟩,hk⟩:=hp;subst he;exact wpIn_mono (LQ σ1 σ' e hs.2 h2 a' w' β' hS) fun e2 a2 w2 hp2=>⟨hp2.1,hp2.2.1,hk.trans hp2.2.2⟩
   ·refine wpIn_mono (KX σ σ' e hs.1 h1 a w β h) fun e' a' w' hp=>?_
    obtain⟨he,hS,hk⟩:=hp;subst he;cases e with
    | norm=>exact absurd rfl h2
    | exit i=>exact⟨rfl,hS,hk⟩
    | ret=>exact⟨rfl,hS,hk⟩
 | block id c ih=>
   intro σ σ' e hs hr a w β h;simp only[a9] at hr;refine wpIn_block ?_;unfold inBlock at hr;split at hr
   ·rename_i i σ1 h1;refine wpIn_mono (ih σ σ1 (.exit i) hs h1 a w β h) fun e' a' w' hp=>?_
    obtain⟨he,hS,hk⟩:=hp;subst he;simp only[Bq,Exit.inBlock];split at hr
    ·rename_i e1;injection hr with hr;injection hr with h2 h3;subst h2;subst h3
     rw[if_pos e1];exact⟨rfl,hS,hk⟩
    ·rename_i e1;injection hr with hr;injection hr with h2 h3;subst h2;subst h3
     rw[if_neg e1];exact⟨rfl,hS,hk⟩
   ·rename_i d_;refine wpIn_mono (ih σ σ' e hs hr a w β h) fun e' a' w' hp=>?_
    obtain⟨he,hS,hk⟩:=hp;subst he;cases e with
    | norm=>exact⟨rfl,hS,hk⟩
    | exit i=>exact absurd hr (d_ i σ')
    | ret=>exact⟨rfl,hS,hk⟩
 | _=>intro σ σ' e hs;cases hs
theorem bG.ctx {E E':Env} {w0 w0' w:World} {σ σ2:St} {a a2:Act} {β:Nat→Option Nat} (h:bG E w0 σ a w β) (m:gp (aK E w0 σ w β) (aK E' w0' σ2 w β)) (zr:σ2.ob=σ.ob) (hn:E'.n=E.n)
 (mw:∀ o b k,aA o σ.ob=some b→β o=some k→(aK E w0 σ w β).new k→(aK E' w0' σ2 w β).new k) (V_:gZ (Fh E') w0'.heap.size w0' w) (cS:a2.tmps.size=a.tmps.size)
 (hd:Marks w0'.heap.size a2.defers w) (Iw:∀ t x,aA t σ2.tm=some x→aA t σ.tm=some x∧a2.tmps.getD t undef=a.tmps.getD t undef):bG E' w0' σ2 a2 w β where
 below:=V_
 size:=by rw[cS,h.size,hn]
 defers:=hd
 tms:=fun t x hx=>by
  obtain⟨h1,h2⟩:=Iw t x hx;obtain⟨h3,h4⟩:=h.tms t x h1;exact⟨by rw[hn];exact h3,by rw[h2];exact m.vr h4 fun _ _=>rfl⟩
 gD:=fun o b ho=>by
  rw[zr] at ho;obtain⟨h1,h2⟩:=h.gD o b ho;refine⟨by rw[m.ty];exact h1,?_⟩;show match β o with | none=>_ | some k=>_
  have h2':match β o with | none=>_ | some k=>_:=h2
  split
  ·rename_i hn;rw[hn] at h2';exact h2'
  ·rename_i k hk;rw[hk] at h2';obtain⟨q,arr,e,h3,h4⟩:=h2';refine⟨mw o b k ho hk q,arr,e,h3,fun j x hx=>?_⟩;obtain⟨v,h5,h6⟩:=h4 j x hx;exact⟨v,h5,m.fw h6 fun _ _ _=>rfl⟩
 inj:=fun o o' b b' k h1 h2=>by rw[zr] at h1 h2;exact h.inj o o' b b' k h1 h2
def pX (σ:St) (β:Nat→Option Nat) (k:Nat):Prop:=∃ o b,aA o σ.ob=some b∧β o=some k
def Rk (E:Env) (w0:World) (σ:St) (w:World) (β:Nat→Option Nat):Env:={ E with okA:=fun k=>¬ (aK E w0 σ w β).mu k,lent:=pX σ β,lo:=some w0.heap.size }
theorem kX {E:Env} {w0 w:World} {σ:St} {a:Act} {β:Nat→Option Nat} (h:bG E w0 σ a w β) {k:Nat} (hk:pX σ β k):∃ arr e,w.heap[k]? = some (.cells arr e (0,0))∧(w0.heap.size≤k∨(E.lent k∧¬ E.okA k)):=by
 obtain⟨o,b,h1,h2⟩:=hk;have:=(h.gD o b h1).eQ;simp only[aK,h2] at this;obtain⟨q,arr,e,h3,_⟩:=this;exact⟨arr,e,h3,q⟩
theorem bG.Wa {E:Env} {w0 w:World} {σ:St} {a:Act} {β:Nat→Option Nat} (h:bG E w0 σ a w β) (mN:E.lo=none) {tm:Array Value} (Iw:tm=a.tmps):bG (Rk E w0 σ w β) w σ { tmps:=tm,defers:=[] } w β:=by
 subst Iw;have hs:=h.below.size;refine h.ctx ⟨rfl,?_,Nat.le_refl _,fun b hb _=>⟨fun lh=>?_,rfl⟩,fun b arr e hb=>⟨arr,hb,rfl⟩⟩ rfl rfl (fun o b k h1 h2 _=> .inr ⟨⟨o,b,h1,h2⟩,fun gU=>gU (.inr ⟨o,b,h1,h2⟩)⟩) (.refl _ _ _) rfl (.nil _ _) fun t x hx=>⟨hx,rfl⟩
 ·show ie (some w0.heap.size) w.heap.size=ie E.lo w0.heap.size;rw[mN];simp[ie];omega
 ·rcases lh with ⟨_,h2⟩ | h2
  ·exact h2 hb
  ·exact hb (.inr h2)
theorem xL {α:Type} (l:List (Nat × α)):∀ (ts:List Nat) (t:Nat) (v:α),aA t (aQ l ts)=some v→t ∈ ts
 | [],t,v,h=>by simp[aQ,aA] at h
 | u::r,t,v,h=>by
   simp only[aQ] at h;split at h
   ·simp only[aA] at h;split at h
    ·rename_i e;rw[e];exact List.mem_cons_self ..
    ·exact List.mem_cons_of_mem _ (xL l r t v h)
   ·exact List.mem_cons_of_mem _ (xL l r t v h)
theorem bG.back {E:Env} {w0 w w':World} {σ σ':St} {a a':Act} {β β':Nat→Option Nat} (h:bG E w0 σ a w β) (mN:E.lo=none) (hL:∀ k,¬ E.lent k) (h':bG (Rk E w0 σ w β) w σ' a' w' β')
 {S:List Nat} (hS:aQ σ'.tm S=aQ σ.tm S) (hk:∀ t ∈ S,a'.tmps.getD t undef=a.tmps.getD t undef):bG E w0 ⟨aQ σ.tm S,σ'.ob⟩ a w' β':=by
 have hs:=h.below.size;have vd:∀ k,k < w0.heap.size→¬ pX σ β k:=fun k aR Ea=>by
  obtain⟨_,_,_,h1⟩:=kX h Ea;rcases h1 with h1 | h1
  ·omega
  ·exact hL k h1.1
 have dt:∀ k,k < w.heap.size→¬ pX σ β k→w'.heap[k]? = w.heap[k]?:=fun k h1 h2=>h'.below.block k h1 fun hl=>h2 hl.1
 refine h'.ctx ⟨rfl,?_,Nat.le_refl _,fun b hb aR=>⟨fun lh=>?_,rfl⟩,fun b arr e hb=>⟨arr,hb,rfl⟩⟩ rfl rfl (fun o b k h1 h2 hn=>?_) ?_ ?_ ?_ fun t x hx=>?_
 ·show ie E.lo w0.heap.size=ie (some w0.heap.size) w.heap.size;rw[mN];simp[ie];omega
 ·rcases lh with ⟨h1,h2⟩ | h2
  ·exact hb (.inl ⟨by omega,fun gU=>gU (.inl ⟨h1,h2⟩)⟩)
  ·exact hb (.inr h2)
 ·rcases hn with h3 | h3
  ·exact .inl (by omega)
  ·obtain⟨_,_,_,h4⟩:=kX h h3.1;exact h4
 ·exact⟨h'.below.os.trans h.below.os,h'.below.tape.trans h.below.tape,h'.below.output.trans h.below.output,Nat.le_trans hs h'.below.size,
   fun k h1 h2=>(dt k (by omega) (vd k h1)).trans (h.below.block k h1 h2),
   fun b arr e hb=>by
    obtain⟨U3,q1,q2⟩:=h.below.rows b arr e hb;obtain⟨fz,q3,q4⟩:=h'.below.rows b U3 e q1;exact⟨fz,q3,q4.trans q2⟩⟩
 ·rw[h.size,h'.size];rfl
 ·exact h.defers.to fun k hk=>by
   rw[dt k (Array.getElem?_eq_some_iff.1 hk).1 fun Ea=>by obtain⟨_,_,h3,_⟩:=kX h Ea;rw[hk] at h3;cases h3];exact hk
 ·have tp:aA t (aQ σ.tm S)=some x:=hx;have h1:=xL _ _ _ _ tp;have hx2:aA t (aQ σ'.tm S)=some x:=by rw[hS];exact tp
  exact⟨fZ _ _ t x hx2,(hk t h1).symm⟩
end
end Go.Abs
end
section
namespace Go.Abs
open Go Go.RowKit
structure Alike (T:Nat→Prop) (w w':World):Prop where
 os:w'.os=w.os
 tape:w'.tape=w.tape
 output:w'.output=w.output
 size:w.heap.size≤w'.heap.size
 same:∀ (k:Nat) (o:Go.Obj),w.heap[k]? = some o→¬ T k→qJ o=false→w'.heap[k]? = some o
def Iter (P:Program) (ty:bX) (G:cC) (gf:Nat) (bh:List AV) (ys:List (List AV)):Prop:=
 ∀ (okA:Nat→Prop) (W0:World) (vs:List Value),F2 (nz ty W0 fun _=>okA) bh vs→(∀ g t x,G g=some (t,x)→LR ty W0 okA (.ro false t x) (.pointer (some ⟨g,0,none⟩)))→
 ∀ (l:Nat) (J:Nat→(Nat→Prop)→World→Prop) (Jx:World→Prop) (T0:Nat→Prop),(∀ k,okA k→¬ T0 k)→(∀ k,T0 k→k < W0.heap.size)→
   (∀ i T W W',J i T W→Below W.heap.size W W'→J i T W')→(∀ W W',Jx W→Below W.heap.size W W'→Jx W')→J 0 T0 W0→
   (∀ i y T W ws,ys[i]? = some y→J i T W→F2 (nz ty W fun _ b=>(okA b∨W0.heap.size≤b)∧¬ T b) y ws→
     YieldAt Fence.wide 0 P l ws.toArray W fun e W'=>
      (e = .returned (.bool true)∧∃ T',J (i+1) T' W'∧(∀ k,T' k→(T k∨W.heap.size≤k)∧k < W'.heap.size)∧Alike T W W')∨(e = .returned (.bool false)∧Jx W'∧Alike T W W'))→
   CallsIn Fence.wide 0 P gf (#[.func (.yield l) #[] #[]]++vs.toArray) W0 fun e W'=>(∃ v,e = .returned v)∧((∃ T,J ys.length T W')∨Jx W')
section
variable {E:Env} {w0 w:World} {σ:St} {a:Act} {β:Nat→Option Nat}
theorem bG.acT (h:bG E w0 σ a w β) {p:Nat} {b b':Obj} (hp:aA p σ.ob=some b) (hO:zo (aK E w0 σ w β) p b'):bG E w0 ⟨σ.tm,bE p b' σ.ob⟩ a w β:=by
 have mV:aK E w0 ⟨σ.tm,bE p b' σ.ob⟩ w β=aK E w0 σ w β:=by
  unfold aK;congr 1
  funext k
  refine propext ⟨fun hk=>hk.imp id fun⟨o,x,h1,h2⟩=>?_,fun hk=>hk.imp id fun⟨o,x,h1,h2⟩=>?_⟩
  ·simp only[bn] at h1;split at h1
   ·rename_i e;subst e;exact⟨p,b,hp,h2⟩
   ·exact⟨o,x,h1,h2⟩
  ·by_cases e:p=o
   ·subst e;exact⟨p,b',by simp[bn],h2⟩
   ·exact⟨o,x,by simp[bn,e,h1],h2⟩
 exact {
  below:=h.below
  size:=h.size
  defers:=h.defers
  tms:=fun t x hx=>by rw[mV];exact h.tms t x hx
  gD:=fun o x hx=>by
   rw[mV];simp only[bn] at hx;split at hx
   ·rename_i e;subst e;injection hx with hx;subst hx;exact hO
   ·exact h.gD o x hx
  inj:=fun o o' x x' k h1 h2 k1 k2=>by
   have get:∀ q y,aA q (bE p b' σ.ob)=some y→∃ y',aA q σ.ob=some y':=fun q y hq=>by
    simp only[bn] at hq;split at hq
    ·rename_i e;subst e;exact⟨b,hp⟩
    ·exact⟨y,hq⟩
   obtain⟨y,g1⟩:=get o x h1;obtain⟨y',g2⟩:=get o' x' h2;exact h.inj o o' y y' k g1 g2 k1 k2 }
theorem bG.Ix (h:bG E w0 σ a w β) {p o c:Nat} {u v t:TypeId} {frb fr:Bool} {n:Nat} {es:List AV} (hp:aA p σ.ob=some ⟨.box u,frb,[.own o t 0 n]⟩) (ho:aA o σ.ob=some ⟨.row v,fr,es⟩) (hf:σ.free c=true) (hoc:o ≠ c) (hpo:p ≠ o) (hpc:p ≠ c) :
 ∃ β',bG E w0 ⟨σ.tm,bE p ⟨.box u,frb,[.own c t 0 n]⟩ (bE c ⟨.row v,fr,es⟩ (cK o σ.ob))⟩ a w β'∧∀ k,pX ⟨σ.tm,bE p ⟨.box u,frb,[.own c t 0 n]⟩ (bE c ⟨.row v,fr,es⟩ (cK o σ.ob))⟩ β' k→pX σ β k:=by
 have hM:=h.move (d:=c) (o:=o) hf (b:=⟨.row v,fr,es⟩) (t:=v) rfl ho hoc;have hpM:aA p (bE c ⟨.row v,fr,es⟩ (cK o σ.ob))=some ⟨.box u,frb,[.own o t 0 n]⟩:=by
  rw[bn,if_neg (Ne.symm hpc),cZ,if_neg (Ne.symm hpo)];exact hp
 obtain⟨ja,sH⟩:=hM.gD p _ hpM;refine⟨_,hM.acT hpM ⟨?_,?_⟩,fun k hk=>?_⟩
 ·obtain⟨x,hx,hc⟩:=ja;injection hx with hx;subst hx
  cases hc with
  | leaf h1 h2 h3 h4=>exact⟨_,rfl,.leaf h1 h2 h3 rfl⟩
 ·split
  ·rename_i hn;rw[hn] at sH;obtain⟨⟨_,q⟩,_⟩:=sH;cases q
  ·rename_i k hk;rw[hk] at sH;obtain⟨q1,arr,e,q2,q3⟩:=sH;refine⟨q1,arr,e,q2,fun j x hx=>?_⟩;have hj:j=0:=by
    have aR:j < (ay [AV.own c t 0 n]).length:=(List.getElem?_eq_some_iff.1 hx).1;simp[ay,leaves] at aR;omega
   subst hj;have tp:AV.own c t 0 n=x:=by simpa[ay,leaves] using hx
   subst tp;obtain⟨z,r1,r2⟩:=q3 0 (.own o t 0 n) (by simp[ay,leaves]);refine⟨z,r1,?_⟩;show OR _ _ _;have r2:OR _ (.own o t 0 n) z:=r2;cases r2 with
   | cl h1=>cases h1
   | l8 o t g=>
     refine .l8 c t ?_;have g:(if o=c then β o else β o)=none:=g;show (if c=c then β o else β c)=none;simpa using g
   | own o t off n k2 cp fz e2 g1 g2 g3 g4=>
     refine .own c t 0 n k2 cp fz e2 ?_ g2 g3 g4;have g1:(if o=c then β o else β o)=some k2:=g1;show (if c=c then β o else β c)=some k2;simpa using g1
 ·obtain⟨q,b,h1,h2⟩:=hk;simp only[bn,cZ] at h1;simp only at h2;split at h1
  ·rename_i e;subst e;rw[if_neg hpc] at h2;exact⟨p,_,hp,h2⟩
  ·split at h1
   ·rename_i e;subst e;rw[if_pos rfl] at h2;exact⟨o,_,ho,h2⟩
   ·rename_i e1 e2;rw[if_neg (Ne.symm e2)] at h2;split at h1
    ·cases h1
    ·exact⟨q,b,h1,h2⟩
end
def xM (ps:List Nat) (y:List AV) (tm:List (Nat × AV)):List (Nat × AV):=(ps.zip y).foldl (fun l q=>bE q.1 q.2 l) tm
def AA (E:Env) (w0:World) (tm:List (Nat × AV)) (ob ob2:List (Nat × Obj)):Prop:=
 ∀ (a:Act) (w:World) (β:Nat→Option Nat),bG E w0 ⟨tm,ob⟩ a w β→∃ β',bG E w0 ⟨tm,ob2⟩ a w β'∧∀ k,pX ⟨tm,ob2⟩ β' k→pX ⟨tm,ob⟩ β k
theorem AA.refl (E:Env) (w0:World) (tm:List (Nat × AV)) (ob:List (Nat × Obj)):AA E w0 tm ob ob:=fun _ _ β h=>⟨β,h,fun _ hk=>hk⟩
inductive ki (jx:List (Nat × Obj)→List (Nat × Obj)→Prop) (run:Code→St→AX × St→Prop) (ps:List Nat) (assign body:Code) (S:List Nat) (tm:List (Nat × AV)):List (List AV)→List (Nat × Obj)→AX→List (Nat × Obj)→Prop
 | done (ob:List (Nat × Obj)):ki jx run ps assign body S tm [] ob .norm ob
 | goes {y:List AV} {r:List (List AV)} {ob ob2 fP:List (Nat × Obj)} {σ2 σ3:St} {e:AX}:y.length=ps.length→(∀ x ∈ y,fo x=true)→run assign ⟨xM ps y tm,ob⟩ (.norm,σ2)→run body σ2 (.norm,σ3)→aQ σ3.tm S=tm→jx σ3.ob ob2→
    ki jx run ps assign body S tm r ob2 e fP→ki jx run ps assign body S tm (y::r) ob e fP
 | stops {y:List AV} {r:List (List AV)} {ob:List (Nat × Obj)} {σ2 σ3:St} {i:Nat}:y.length=ps.length→(∀ x ∈ y,fo x=true)→run assign ⟨xM ps y tm,ob⟩ (.norm,σ2)→run body σ2 (.exit i,σ3)→aQ σ3.tm S=tm→
    ki jx run ps assign body S tm (y::r) ob (.exit i) σ3.ob
section
variable {P:Program} {E:Env} {w0 w:World} {σ:St} {a:Act} {β:Nat→Option Nat}
theorem Wc {c:Cx} {f:FuncId} {cs:List AV} {v:Value} (h:VR c (.fn f cs) v) (hc:closed.fq cs=true):∃ us:Array Value,v = .func (.func f) #[] us∧us.size=cs.length∧∀ (i:Nat) (x:AV),cs[i]? = some x→LR c.ty c.w (fun b=>¬ c.mu b) x (us.getD i undef):=by
 have h':OR c (.fn f cs) v:=h;cases h' with
 | cl h1=>
   cases h1 with
   | fn f cs us q1 q2=>exact⟨us,rfl,q1,fun i x hx=>(q2 i x hx).mono fun b hb hl=>⟨hb.1,hl,rfl⟩⟩
 | fn f cs us q1 q2=>exact⟨us,rfl,q1,fun i x hx=>((q2 i x hx).lr (iK hc x (List.mem_of_getElem? hx)) (fr:=false) (fun e=>by cases e)).mono fun b hb hl=>⟨hb.1,hl,rfl⟩⟩
theorem Nn {c:Cx} {okb:Nat→Prop} {x:AV} {v:Value} (KY:nz c.ty c.w (fun _=>okb) x v) (hold:fo x=true) (hm:∀ k,okb k→k < c.w.heap.size→¬ c.mu k):VR c x v:=by
 refine ga ?_;cases x with
 | st u fs=>obtain⟨us,e,hc,hF⟩:=KY;exact⟨us,e,hc,hF.1,fun i y z hy hz=>sI hm (hF.2 i y z hy hz) (qM hc hold y (List.mem_of_getElem? hy))⟩
 | ar u fs=>obtain⟨us,e,hc,hF⟩:=KY;exact⟨us,e,hc,hF.1,fun i y z hy hz=>sI hm (hF.2 i y z hy hz) (qM hc hold y (List.mem_of_getElem? hy))⟩
 | cE _=>exact KY.elim
 | _=>exact sI hm KY hold
theorem bG.params:∀ (ps:List Nat) (y:List AV) (ws:List Value) (σ:St) (a:Act),bG E w0 σ a w β→ps.length=y.length→F2 (VR (aK E w0 σ w β)) y ws→(∀ p ∈ ps,p < E.n)→
 ∃ σ',σ'.ob=σ.ob∧σ'.tm=xM ps y σ.tm∧bG E w0 σ' { a with tmps:=(ps.zip ws).foldl (fun t q=>t.setIfInBounds q.1 q.2) a.tmps } w β
 | [],y,ws,σ,a,h,_,_,_=>⟨σ,rfl,by simp[xM],by simpa using h⟩
 | p::ps,y,ws,σ,a,h,hl,hv,hp=>by
   cases y with
   | nil=>simp at hl
   | cons x y=>
     cases ws with
     | nil=>exact absurd hv.1 (by simp)
     | cons v ws=>
       have h1:=h.put (hp p (List.mem_cons_self ..)) (hv.2 0 x v rfl rfl);obtain⟨σ',e1,e2,h2⟩:=bG.params ps y ws ⟨bE p x σ.tm,σ.ob⟩ _ h1 (by simpa using hl) ⟨by simpa using hv.1,fun i x' v' hx hv'=>hv.2 (i+1) x' v' (by simpa using hx) (by simpa using hv')⟩ fun q hq=>hp q (List.mem_cons_of_mem _ hq)
       exact⟨σ',e1,by simpa[xM] using e2,by simpa[Act.put] using h2⟩
theorem Eb {ty:bX} {w:World} {okb:Bool→Nat→Prop} {x:AV} {v:Value} (h:LR ty w (okb (jw x)) x v):nz ty w okb x v:=by
 have:=h.leaf;cases x <;> first | exact h | cases this
theorem bG.Ue (h:bG E w0 σ a w β) {l:Nat} {o:Go.Obj} (hl:l < w0.heap.size) (h0:w0.heap[l]? = some o) (h1:w.heap[l]? = some o) (hb:qJ o=true) (o':Go.Obj):bG E (w0.putObj l o') σ a (w.putObj l o') β:=by
 have hB:=dC.put (w:=w) h1 hb o';have cS:(w0.putObj l o').heap.size=w0.heap.size:=World.putObj_size;have mV:aK E (w0.putObj l o') σ (w.putObj l o') β=(aK E w0 σ w β).at (w.putObj l o'):=by
  simp only[aK,Cx.at,cS]
 exact {
  below:=⟨h.below.os,h.below.tape,h.below.output,by rw[cS];simpa using h.below.size,fun k hk hL=>by
   rw[cS] at hk;by_cases e:k=l
   ·subst e;rw[World.putObj_heap_same hk,World.putObj_heap_same (by have:=h.below.size;omega)]
   ·rw[World.putObj_heap_other e,World.putObj_heap_other e];exact h.below.block k hk hL,fun b arr e hk=>by
   by_cases e1:b=l
   ·subst e1;rw[World.putObj_heap_same hl] at hk;exact⟨arr,by rw[World.putObj_heap_same (by have:=h.below.size;omega)];exact hk,rfl⟩
   ·rw[World.putObj_heap_other e1] at hk ⊢;exact h.below.rows b arr e hk⟩
  size:=h.size
  defers:=by
   rw[cS];refine⟨fun d hd=>?_,h.defers.2⟩;obtain⟨D,q1,q2,q3⟩:=h.defers.1 d hd;exact⟨D,q1,q2,by rw[World.putObj_heap_other (by omega)];exact q3⟩
  tms:=fun t x hx=>⟨(h.tms t x hx).1,by rw[mV];exact (h.tms t x hx).2.book (c:=aK E w0 σ w β) hB⟩
  gD:=fun o b ho=>by rw[mV];exact (h.gD o b ho).book (c:=aK E w0 σ w β) hB
  inj:=h.inj }
theorem uK {S:List Nat}:∀ (ps:List Nat) (ws:List Value) (t:Array Value),(∀ p ∈ ps,p ∉ S)→∀ u ∈ S,((ps.zip ws).foldl (fun t q=>t.setIfInBounds q.1 q.2) t).getD u undef=t.getD u undef
 | [],ws,t,_,u,_=>by simp
 | p::ps,[],t,_,u,_=>by simp
 | p::ps,v::ws,t,h,u,hu=>by
   simp only[List.zip_cons_cons,List.foldl_cons];rw[uK ps ws _ (fun q hq=>h q (List.mem_cons_of_mem _ hq)) u hu];have d_:p ≠ u:=by rintro rfl;exact h p (List.mem_cons_self ..) hu
   simp only[Array.getD_eq_getD_getElem?,Array.getElem?_setIfInBounds_ne d_]
theorem Ec (hG:bj E w0) (h:bG E w0 σ a w β) {w2:World} (hb:dC w w2):bj (Rk E w0 σ w β) w2:=fun g t x hg=>by
 have:=(h.old (hG g t x hg)).book hb;exact this.mono fun b iJ hl=>⟨iJ.1,hl,rfl⟩
def Left (E:Env) (w0:World) (tm:List (Nat × AV)) (a:Act) (ob fP:List (Nat × Obj)) (β:Nat→Option Nat) (W W':World):Prop:=
 ∃ β',bG E w0 ⟨tm,fP⟩ a W' β'∧(∀ k,pX ⟨tm,fP⟩ β' k→(pX ⟨tm,ob⟩ β k∨W.heap.size≤k)∧k < W'.heap.size)∧Alike (pX ⟨tm,ob⟩ β) W W'
theorem AB (hZ:∀ id,E.Z id=[]) (hT:dk P E.ty) (hC:cM P E) (hG:bj E w0) (mN:E.lo=none) (hL:∀ k,¬ E.lent k) {H:Nat→Hint} {k:Nat} {S:List Nat} {tm:List (Nat × AV)} {ob:List (Nat × Obj)} {W:World} (Wd:aQ tm S=tm)
 (h:bG E w0 ⟨tm,ob⟩ a W β) {l:Nat} {R:Loop} (hR:W.heap[l]? = some (.loop R)) (We:R.state = .ready) (KZ:w0.heap.size≤l) (hRt:R.tmps=a.tmps)
 {y:List AV} {ws:List Value} {okb:Nat→Prop} (CX:y.length=R.params.size) (hold:∀ x ∈ y,fo x=true) (hy:F2 (nz E.ty W fun _=>okb) y ws) (gU:∀ b,okb b→b < W.heap.size→¬ (aK E w0 ⟨tm,ob⟩ W β).mu b)
 (Wf:∀ p ∈ R.params.toList,p < E.n∧p ∉ S) (vi:bQ S R.assign=true) (Qe:bQ S R.body=true) {σ2 σ3:St} {e:AX} (he:e = .norm∨∃ i,e = .exit i)
 (hra:∀ A lo L,a9 { E with okA:=A,lo:=lo,lent:=L } H k R.assign ⟨xM R.params.toList y tm,ob⟩=some (.norm,σ2)) (hrb:∀ A lo L,a9 { E with okA:=A,lo:=lo,lent:=L } H k R.body σ2=some (e,σ3)) (hke:aQ σ3.tm S=tm) :
 YieldAt Fence.wide 0 P l ws.toArray W fun en W'=>∃ jump,en = .returned (.bool jump.isNone)∧(match e with | .exit i=>jump=some (.exit i) | _=>jump=none)∧
  W'.heap[l]? = some (.loop { R with state:=if jump.isNone then .ready else .done,pending:=jump })∧Left E w0 tm a ob σ3.ob β W W':=by
 have aR:l < W.heap.size:=(Array.getElem?_eq_some_iff.1 hR).1;have lJ:ws.length=R.params.size:=by rw[← CX];exact hy.1.symm
 refine⟨R.fn,_,R.assign,R.body,run_yield hR (by simpa using lJ),?_⟩;have yE:¬ pX ⟨tm,ob⟩ β l:=fun ho=>by obtain⟨_,_,h3,_⟩:=kX h ho;rw[hR] at h3;cases h3
 have oT:¬ Fh (Rk E w0 ⟨tm,ob⟩ W β) l:=fun ho=>yE ho.1
 have hB0:=h.Wa mN (tm:=R.tmps) hRt;have hC':cM P (Rk E w0 ⟨tm,ob⟩ W β):=⟨hC.c,hC.m⟩
 have hyv:F2 (VR (aK (Rk E w0 ⟨tm,ob⟩ W β) W ⟨tm,ob⟩ W β)) y ws:=⟨hy.1,fun i x v hx hv=>Nn (c:=aK (Rk E w0 ⟨tm,ob⟩ W β) W ⟨tm,ob⟩ W β) (hy.2 i x v hx hv) (hold x (List.mem_of_getElem? hx)) fun b hb aR lh=>by
  rcases lh with ⟨_,h2⟩ | h2
  ·exact h2 (gU b hb aR)
  ·exact gU b hb aR (.inr h2)⟩
 obtain⟨σp,e1,e2,hP⟩:=hB0.params R.params.toList y ws _ _ (by simpa using CX.symm) hyv (fun p hp=>(Wf p hp).1);have hσp:σp=⟨xM R.params.toList y tm,ob⟩:=by cases σp;simp only at e1 e2;rw[e1,e2]
 subst hσp;have acU:(R.params.zip ws.toArray).foldl (fun tmps (t,a)=>tmps.setIfInBounds t a) R.tmps=(R.params.toList.zip ws).foldl (fun t q=>t.setIfInBounds q.1 q.2) R.tmps:=by
  rw[← Array.foldl_toList,Array.toList_zip]
 rw[acU];refine roundIn_of_wpIn trivial (wpIn_mono (j1 (E:=Rk E w0 ⟨tm,ob⟩ W β) (S:=S) hZ hT hC' (Ec hG h (.refl W)) (xK l 0) R.assign _ σ2 .norm vi (hra _ _ _) _ W β hP) fun ex a2 W2 hp=>?_);obtain⟨hex,⟨β2,hS2⟩,BE⟩:=hp;subst hex;have vg:W2.heap[l]? = some (.loop R):=(hS2.below.block l aR oT).trans hR;refine⟨_,run_beginRound vg We,?_⟩;have hS3:=hS2.Ue aR hR vg rfl (.loop { R with state:= .busy });have hBk:=dC.put (w:=W) hR rfl (.loop { R with state:= .busy });refine wpIn_mono (j1 (E:=Rk E w0 ⟨tm,ob⟩ W β) (S:=S) hZ hT hC' (Ec hG h hBk) (xK l 0) R.body σ2 σ3 e Qe (hrb _ _ _) a2 _ β2 hS3) fun ex a4 W4 hp=>?_
 obtain⟨hex,⟨β4,hS4⟩,hk4⟩:=hp;subst hex;have acV:l < (W.putObj l (.loop { R with state:= .busy })).heap.size:=by simpa using aR
 have hR1:(W.putObj l (.loop { R with state:= .busy })).heap[l]? = some (.loop { R with state:= .busy }):=World.putObj_heap_same aR;have Fa:W4.heap[l]? = some (.loop { R with state:= .busy }):=(hS4.below.block l acV oT).trans hR1;have yR:∀ u ∈ S,a4.tmps.getD u undef=a.tmps.getD u undef:=fun u hu=>by
  rw[(BE.trans hk4).1 u hu];show ((R.params.toList.zip ws).foldl (fun t q=>t.setIfInBounds q.1 q.2) R.tmps).getD u undef=_;rw[uK _ _ _ (fun p hp=>(Wf p hp).2) u hu,hRt]
 have key:∀ (o5:Go.Obj),qJ o5=true→Left E w0 tm a ob σ3.ob β W (W4.putObj l o5):=fun o5 ho5=>by
  have Wg:=hS4.Ue acV hR1 Fa rfl o5;have hBB:dC W ((W.putObj l (.loop { R with state:= .busy })).putObj l o5):=hBk.trans (dC.put hR1 rfl o5);have hh:=h.book hBB (fun k hk=>by rw[World.putObj_heap_other (by omega),World.putObj_heap_other (by omega)]) (ds:=a.defers) (h.defers.to fun k hk=>by
   have d_:k ≠ l:=by rintro rfl;rw[hR] at hk;cases hk
   rw[World.putObj_heap_other d_,World.putObj_heap_other d_];exact hk)
  have Uf:=bG.back (S:=S) hh mN hL Wg (by rw[hke,Wd]) yR;rw[Wd] at Uf;refine⟨β4,Uf,fun k hk=>?_,?_⟩
  ·obtain⟨arr,e',q1,q2⟩:=kX Wg hk;refine⟨?_,(Array.getElem?_eq_some_iff.1 q1).1⟩;rcases q2 with q2 | q2
   ·exact .inr (by simpa using q2)
   ·exact .inl q2.1
  ·refine⟨Wg.below.os,Wg.below.tape,Wg.below.output,by have:=Wg.below.size;simpa using this,fun k o hk hT ho=>?_⟩;have d_:k ≠ l:=by rintro rfl;rw[hR] at hk;cases hk;cases ho
   rw[Wg.below.block k (by simpa using (Array.getElem?_eq_some_iff.1 hk).1) fun hh=>hT hh.1,World.putObj_heap_other d_,World.putObj_heap_other d_];exact hk
 rcases he with rfl | ⟨i,rfl⟩
 ·exact⟨_,_,run_endRound none Fa,none,rfl,rfl,by rw[World.putObj_heap_same (Array.getElem?_eq_some_iff.1 Fa).1],key _ rfl⟩
 ·exact⟨_,_,run_endRound (some (.exit i)) Fa,some (.exit i),rfl,rfl,by rw[World.putObj_heap_same (Array.getElem?_eq_some_iff.1 Fa).1],key _ rfl⟩
end
end Go.Abs
end
section
namespace Go.Abs
open Go Go.RowKit
variable {P:Program} {E:Env} {w0 w:World} {σ:St} {a:Act} {β:Nat→Option Nat}
theorem JL (hZ:∀ id,E.Z id=[]) (hT:dk P E.ty) (hC:cM P E) (hG:bj E w0) (mN:E.lo=none) (hL:∀ k,¬ E.lent k) {H:Nat→Hint} {k:Nat} {S:List Nat} {tm:List (Nat × AV)} (Wd:aQ tm S=tm)
 {gf:Nat} {bh:List AV} {ys:List (List AV)} (hit:Iter P E.ty E.G gf bh ys) (nR:closed.fq bh=true) (eg:∀ args w,(callFunc gf args).run P w = .ok (.enter gf args) w)
 (h:bG E w0 σ a w β) (Iw:aQ σ.tm S=tm) {g:Operand} (hg:σ.val E.G g=some (.fn gf bh)) {ps:Array Tmp} {assign body:Code} (Wf:∀ p ∈ ps.toList,p < E.n∧p ∉ S) (vi:bQ S assign=true) (Qe:bQ S body=true)
 {jx:List (Nat × Obj)→List (Nat × Obj)→Prop} (Wh:∀ ob ob2,jx ob ob2→AA E w0 tm ob ob2) {e:AX} {fP:List (Nat × Obj)} (hr:ki jx (fun c σ r=>∀ A lo L,a9 { E with okA:=A,lo:=lo,lent:=L } H k c σ=some r) ps.toList assign body S tm ys σ.ob e fP) :
 (Code.rangeFunc g ps assign body).wpIn Fence.wide 0 P (fun ex a' w'=>ex=Bq e∧∃ β',bG E w0 ⟨tm,fP⟩ a' w' β') a w:=by
 obtain⟨us,Wi,Bm,Lz⟩:=Wc (bt h hG hg) nR;refine wpIn_rangeFunc ?_;intro fn _;obtain⟨rec,lx⟩:∃ rec:LoopState→Option Code→Loop,rec=fun st pe=>{ state:=st,pending:=pe,fn,tmps:=a.tmps,params:=ps,assign,body,defers:=w.heap.size }:=⟨_,rfl⟩
 obtain⟨W1,hW1⟩:∃ W1,(w.alloc (.deferred (some []))).alloc (.loop (rec .ready none))=W1:=⟨_,rfl⟩
 have hL1:W1.heap[w.heap.size+1]? = some (.loop (rec .ready none)):=by
  rw[← hW1];have:=World.alloc_heap_new (w.alloc (.deferred (some []))) (.loop (rec .ready none));rwa [World.size_alloc] at this
 have hK1:W1.heap[w.heap.size]? = some (.deferred (some [])):=by
  rw[← hW1];exact (Below.heap_alloc _ _ _ (by simp)).trans (World.alloc_heap_new w _)
 have jM:Below w.heap.size w W1:=by
  rw[← hW1];exact ((Below.refl _ w).alloc (Nat.le_refl _) _).alloc (by simp) _
 have cS:=h.below.size;have hds:Marks w0.heap.size ({ target:= .collected w.heap.size,args:=#[] }::a.defers) W1:=by
  have hm:=h.defers.below jM;refine⟨fun d hd=>?_,List.pairwise_cons.2 ⟨fun d hd e=>?_,hm.2⟩⟩
  ·rcases List.mem_cons.1 hd with rfl | hd
   ·exact⟨_,rfl,cS,hK1⟩
   ·exact hm.1 d hd
  ·obtain⟨D,q1,q2,q3⟩:=h.defers.1 d hd;rw[q1] at e;injection e with e1 e2
   injection e1 with e1
   rw[← e1] at q3;have:=(Array.getElem?_eq_some_iff.1 q3).1;omega
 obtain⟨aM,haM⟩:∃ aM:Act,({ a with defers:={ target:= .collected w.heap.size,args:=#[] }::a.defers }:Act)=aM:=⟨_,rfl⟩
 have acW:aM.tmps=a.tmps:=by rw[← haM]
 have Vl:bG E w0 ⟨tm,σ.ob⟩ aM W1 β:=by
  have h0:bG E w0 ⟨tm,σ.ob⟩ a w β:=h.less (fun t x hx=>by rw[← Iw] at hx;exact fZ _ _ t x hx) (fun o b hb=>hb);rw[← haM];exact h0.book (dC.below jM) (fun k hk=>jM.block k (by omega)) hds
 refine⟨w.heap.size+1,[{ target:= .collected w.heap.size,args:=#[] }],W1,{ target:= .fn (.func gf) us,args:=#[.func (.yield (w.heap.size+1)) #[] #[]] },W1,gf,
  #[.func (.yield (w.heap.size+1)) #[] #[]]++us,W1,?_,?_,fun _ _=>trivial,?_,fun hd=>by simp[Fence.wide] at hd,?_⟩
 ·rw[← hW1,lx];exact run_enterLoop_outer _ _ _ _ _
 ·simp only[resolve,Wi];simp[go_sem]
 ·simp[invoke,go_sem,eg]
 ·
  have KZ:w0.heap.size≤w.heap.size+1:=by omega
  have E9:F2 (nz E.ty W1 fun _ b=>¬ (aK E w0 σ w β).mu b) bh us.toList:=by
   refine⟨by simp[Bm],fun i x v hx hv=>?_⟩;have:=Lz i x hx;have hi:us.getD i undef=v:=by
    rw[Array.getD_eq_getD_getElem?,← Array.getElem?_toList,hv];rfl
   rw[hi] at this;exact Eb (this.book (dC.below jM))
  have Rl:∀ g t x,E.G g=some (t,x)→LR E.ty W1 (fun b=>¬ (aK E w0 σ w β).mu b) (.ro false t x) (.pointer (some ⟨g,0,none⟩)):=fun g t x hg=>
   ((h.old (hG g t x hg)).book (dC.below jM)).mono fun b hb hl=>⟨hb.1,hl,rfl⟩
  have Ea:∀ (ob:List (Nat × Obj)) (β':Nat→Option Nat) (W:World) (a':Act),bG E w0 ⟨tm,ob⟩ a' W β'→∀ b,((¬ (aK E w0 σ w β).mu b∨W1.heap.size≤b)∧¬ pX ⟨tm,ob⟩ β' b)→b < W.heap.size→¬ (aK E w0 ⟨tm,ob⟩ W β').mu b:=fun ob β' W a' _ b hb _ lh=>by
   rcases lh with ⟨q1,q2⟩ | q2
   ·rcases hb.1 with q3 | q3
    ·exact q3 (.inl ⟨q1,q2⟩)
    ·have:=jM.size;omega
   ·exact hb.2 q2
  have Wj:#[Value.func (.yield (w.heap.size+1)) #[] #[]]++us = #[Value.func (.yield (w.heap.size+1)) #[] #[]]++us.toList.toArray:=by simp
  rw[Wj];refine CallsIn.mono (hit (fun b=>¬ (aK E w0 σ w β).mu b) W1 us.toList E9 Rl (w.heap.size+1)
   (fun i T W=>∃ ob β',ki jx (fun c σ r=>∀ A lo L,a9 { E with okA:=A,lo:=lo,lent:=L } H k c σ=some r) ps.toList assign body S tm (ys.drop i) ob e fP∧bG E w0 ⟨tm,ob⟩ aM W β'∧T=pX ⟨tm,ob⟩ β'∧W.heap[w.heap.size+1]? = some (.loop (rec .ready none)))
   (fun W=>∃ β' i,e = .exit i∧bG E w0 ⟨tm,fP⟩ aM W β'∧W.heap[w.heap.size+1]? = some (.loop (rec .done (some (.exit i)))))
   (pX ⟨tm,σ.ob⟩ β) (fun k hk ho=>hk (.inr ho)) (fun k hk=>by obtain⟨_,_,h3,_⟩:=kX Vl hk;exact (Array.getElem?_eq_some_iff.1 h3).1) ?_ ?_ ⟨σ.ob,β,by simpa using hr,Vl,rfl,hL1⟩ ?_) ?_
  ·rintro i T W W' ⟨ob,β',q1,q2,q3,q4⟩ hb;exact⟨ob,β',q1,q2.grow hb,q3,by rw[hb.block _ (Array.getElem?_eq_some_iff.1 q4).1];exact q4⟩
  ·rintro W W' ⟨β',i,q1,q2,q3⟩ hb;exact⟨β',i,q1,q2.grow hb,by rw[hb.block _ (Array.getElem?_eq_some_iff.1 q3).1];exact q3⟩
  ·rintro i y T W ws hy ⟨ob,β',q1,q2,rfl,q4⟩ AD;have hd:ys.drop i=y::ys.drop (i+1):=by
    obtain⟨hi,e⟩:=List.getElem?_eq_some_iff.1 hy;rw[List.drop_eq_getElem_cons hi,e]
   rw[hd] at q1;cases q1 with
   | goes g1 g2 g3 g4 g5 g7 g6=>
     have:=AB hZ hT hC hG mN hL Wd q2 q4 (by rw[lx]) KZ (by rw[lx];exact acW.symm) (y:=y) (ws:=ws) (by rw[lx];simpa using g1) g2 AD (Ea ob β' W aM q2) (by rw[lx];exact Wf) (by rw[lx];exact vi) (by rw[lx];exact Qe) (e:= .norm) (.inl rfl)
      (by rw[lx];exact g3) (by rw[lx];exact g4) g5
     obtain⟨fn',tmps,az,bd,hyd,hR⟩:=this;refine⟨fn',tmps,az,bd,hyd,hR.mono fun en W' hq=>?_⟩;obtain⟨jump,rfl,hj,cB,β2,hS2,ho2,Rm⟩:=hq;subst hj;obtain⟨β3,hS3,ho3⟩:=Wh _ _ g7 _ _ _ hS2;exact .inl ⟨rfl,_,⟨_,β3,g6,hS3,rfl,by rw[cB,lx];rfl⟩,fun k hk=>ho2 k (ho3 k hk),Rm⟩
   | stops g1 g2 g3 g4 g5=>
     rename_i σ2 σ3 i2;have:=AB hZ hT hC hG mN hL Wd q2 q4 (by rw[lx]) KZ (by rw[lx];exact acW.symm) (y:=y) (ws:=ws) (by rw[lx];simpa using g1) g2 AD (Ea ob β' W aM q2) (by rw[lx];exact Wf) (by rw[lx];exact vi) (by rw[lx];exact Qe) (e:= .exit i2) (.inr ⟨_,rfl⟩)
      (by rw[lx];exact g3) (by rw[lx];exact g4) g5
     obtain⟨fn',tmps,az,bd,hyd,hR⟩:=this;refine⟨fn',tmps,az,bd,hyd,hR.mono fun en W' hq=>?_⟩;obtain⟨jump,rfl,hj,cB,β2,hS2,ho2,Rm⟩:=hq;subst hj;exact .inr ⟨rfl,⟨β2,i2,rfl,hS2,by rw[cB,lx];rfl⟩,Rm⟩
  ·rintro en W' ⟨⟨v,rfl⟩,hq⟩;rcases hq with ⟨T,ob,β',q1,q2,_,q4⟩ | ⟨β',i,rfl,q2,q4⟩
   ·rw[List.drop_length] at q1;cases q1;have Ed:=run_endLoop (P:=P) q4 (by rw[lx];simp);have hpe:(rec .ready none).pending=none:=by rw[lx]
    rw[hpe] at Ed;refine⟨none,_,Ed,?_⟩;refine⟨rfl,β',?_⟩;have:=q2.book (ds:=aM.defers) (dC.put q4 rfl (.loop { rec .ready none with state:= .exhausted })) (fun k hk=>World.putObj_heap_other (by omega)) (q2.defers.to fun k hk=>by
     have d_:k ≠ w.heap.size+1:=by rintro rfl;rw[q4] at hk;cases hk
     rw[World.putObj_heap_other d_];exact hk)
    rw[List.singleton_append,haM];simp only[hpe] at this;exact this
   ·have Ed:=run_endLoop (P:=P) q4 (by rw[lx];simp);have hpe:(rec .done (some (.exit i))).pending=some (.exit i):=by rw[lx]
    rw[hpe] at Ed;refine⟨some (.exit i),_,Ed,?_⟩;refine wpIn_exit ⟨rfl,β',?_⟩;have:=q2.book (ds:=aM.defers) (dC.put q4 rfl (.loop { rec .done (some (.exit i)) with state:= .exhausted })) (fun k hk=>World.putObj_heap_other (by omega)) (q2.defers.to fun k hk=>by
     have d_:k ≠ w.heap.size+1:=by rintro rfl;rw[q4] at hk;cases hk
     rw[World.putObj_heap_other d_];exact hk)
    rw[List.singleton_append,haM];simp only[hpe] at this;exact this
end Go.Abs
end
section
namespace Go.Abs
open Go Go.RowKit
theorem LR.alike {ty:bX} {w w':World} {T okb:Nat→Prop} {x:AV} {v:Value} (h:LR ty w okb x v) (hA:Alike T w w') (hd:∀ b,okb b→¬ T b):LR ty w' okb x v:=by
 have hc:∀ {a:Addr} {v:Value},okb a.block→w.cell? a=some v→w'.cell? a=some v:=fun {a v} hb hc=>by
  have:∃ o:Go.Obj,w.heap[a.block]? = some o∧qJ o=false:=by
   unfold World.cell? at hc;cases ho:w.heap[a.block]? with
   | none=>simp[ho] at hc
   | some o=>exact⟨o,rfl,by cases o <;> simp_all [qJ]⟩
  obtain⟨o,h1,h2⟩:=this;rw[← hc];exact World.cell?_of_block ((hA.same _ o h1 (hd _ hb) h2).trans h1.symm)
 induction h with
 | int k n=>exact .int k n
 | bool b=>exact .bool b
 | str s=>exact .str s
 | iu=>exact .iu
 | dY=>exact .dY
 | fn f cs us h1 _ ih=>exact .fn f cs us h1 ih
 | sx t fl c h1 h2=>exact .sx t fl c h1 h2
 | sl t fl es eQ off c vs h1 h2 h3 h4 h5 h6 h7 ih=>
   exact .sl t fl es eQ off c vs h1 h2 h3 (fun d_=>⟨(h4 d_).1,Nat.lt_of_lt_of_le (h4 d_).2 hA.size⟩) h5 (fun j y hy=>hc (h4 (by rintro rfl;simp[ay] at hy)).1 (h6 j y hy)) ih
 | ro fr t x eQ off vs h1 h2 h3 h4 h5 ih=>exact .ro fr t x eQ off vs h1 (Nat.lt_of_lt_of_le h2 hA.size) h3 (fun j y hy=>hc h1 (h4 j y hy)) ih
 | Li t=>exact .Li t
 | mp t ks fs eQ es cl h1 h2 h3 CQ h4 h5 h6=>exact .mp t ks fs eQ es cl h1 (Nat.lt_of_lt_of_le h2 hA.size) h3 CQ (hA.same _ _ h4 (hd _ h1) rfl) h5 h6
structure Wk (n:Nat) (ty:bX) (G:cC) (okA:Nat→Prop) (B:Nat) (J:Nat→(Nat→Prop)→World→Prop) (T0:Nat→Prop) (cap:AV) (yv u:Value) (i:Nat) (a:Act) (W:World):Prop where
 j:∃ T,J i T W∧∀ k,T k→(T0 k∨B≤k)∧k < W.heap.size
 low:B≤W.heap.size
 cap:LR ty W okA cap u
 FX:∀ g t x,G g=some (t,x)→LR ty W okA (.ro false t x) (.pointer (some ⟨g,0,none⟩))
 size:a.tmps.size=n
 defers:a.defers=[]
 t0:a.tmps.getD 0 undef=yv
 t1:a.tmps.getD 1 undef=u
theorem AE {α:Type} {t:Nat} {x:α}:∀ {l:List (Nat × α)},aA t l=some x→(t,x) ∈ l
 | [],h=>by simp[aA] at h
 | (u,y)::r,h=>by
   simp only[aA] at h;split at h
   ·rename_i e;injection h with h;subst h;subst e;exact List.mem_cons_self ..
   ·exact List.mem_cons_of_mem _ (AE h)
def dK (a:Act) (p:Nat × AV):Prop:=(∃ n,p.2 = .int .i64 n∧a.tmps.getD p.1 undef = .int .i64 n)∨∃ b,p.2 = .bool b∧a.tmps.getD p.1 undef = .bool b
section
variable {P:Program} {E:Env} {okA T0:Nat→Prop} {B:Nat} {J:Nat→(Nat→Prop)→World→Prop} {ft:TypeId} {cx:AV} {yv u:Value} {i:Nat} {a:Act} {W:World}
theorem Wk.sim (hw:Wk E.n E.ty E.G okA B J T0 (.ro false ft cx) yv u i a W) (gU:E.okA=okA) (h2:2≤E.n) {l:List (Nat × AV)} (hl:∀ p ∈ l,p.1 < E.n∧dK a p):bG E W ⟨(0,.undef)::(1,.ro false ft cx)::l,[]⟩ a W (fun _=>none) where
 below:= .refl _ _ _
 size:=hw.size
 defers:=by rw[hw.defers];exact .nil _ _
 tms:=fun t x hx=>by
  have hm:=AE hx;rcases List.mem_cons.1 hm with h | hm
  ·injection h with h1 h2;subst h1;subst h2
   exact⟨by omega,.undef _⟩
  ·rcases List.mem_cons.1 hm with h | hm
   ·injection h with h1 h2;subst h1;subst h2
    refine⟨by omega,?_⟩;rw[hw.t1];refine ga ?_;show OR _ _ _;refine .cl (hw.cap.mono fun b hb hl=>⟨⟨fun lh=>?_,fun hf=>by cases hf⟩,hl,rfl⟩);rcases lh with ⟨_,q⟩ | ⟨_,_,q,_⟩
    ·rw[gU] at q;exact q hb
    ·simp[aA] at q
   ·obtain⟨h1,h2⟩:=hl _ hm;refine⟨h1,?_⟩;rcases h2 with ⟨n,q1,q2⟩ | ⟨b,q1,q2⟩
    ·simp only at q1 q2;rw[q1,q2];exact OR.cl (.int _ _)
    ·simp only at q1 q2;rw[q1,q2];exact OR.cl (.bool _)
 gD:=fun o b hb=>by simp[aA] at hb
 inj:=fun o o' b b' k h1=>by simp[aA] at h1
theorem Wk.piece (hw:Wk E.n E.ty E.G okA B J T0 (.ro false ft cx) yv u i a W) (hJ:∀ i T W W',J i T W→Below W.heap.size W W'→J i T W') (gU:E.okA=okA) (h2:2≤E.n) (hZ:∀ id,E.Z id=[]) (hT:dk P E.ty) (hC:cM P E) (hL:∀ k,¬ E.lent k)
 {l:List (Nat × AV)} (hl:∀ p ∈ l,p.1 < E.n∧dK a p) {H:Nat→Hint} {k:Nat} {c:Code} {σ':St} {e:AX} (hs:bQ [0,1] c=true) (Wi:a9 E H k c ⟨(0,.undef)::(1,.ro false ft cx)::l,[]⟩=some (e,σ')) :
 c.wpIn Fence.wide 0 P (fun ex a' W'=>ex=Bq e∧Wk E.n E.ty E.G okA B J T0 (.ro false ft cx) yv u i a' W'∧W.heap.size≤W'.heap.size∧∃ β',bG E W σ' a' W' β') a W:=by
 have hS:=hw.sim gU h2 hl;have hG:bj E W:=fun g t x hg=>by rw[gU];exact hw.FX g t x hg
 refine wpIn_mono (j1 hZ hT hC hG (iO 0) c _ σ' e hs Wi a W _ hS) fun ex a' W' hp=>?_
 obtain⟨hex,⟨β',nL⟩,hk⟩:=hp;have hb:Below W.heap.size W W':=nL.below.plain fun k hk=>hL k hk.1
 obtain⟨T,q1,q2⟩:=hw.j;refine⟨hex,⟨⟨T,hJ i T W W' q1 hb,fun k hk=>⟨(q2 k hk).1,Nat.lt_of_lt_of_le (q2 k hk).2 hb.size⟩⟩,Nat.le_trans hw.low hb.size,hw.cap.book (dC.below hb),fun g t x hg=>(hw.FX g t x hg).book (dC.below hb),
  nL.size,hk.2.trans hw.defers,(hk.1 0 (by simp)).trans hw.t0,(hk.1 1 (by simp)).trans hw.t1⟩,hb.size,β',nL⟩
theorem Wk.next (hw:Wk E.n E.ty E.G okA B J T0 (.ro false ft cx) yv u i a W) (hJ:∀ i T W W',J i T W→Below W.heap.size W W'→J i T W') (hL:∀ k,¬ E.lent k) {σ':St} {a':Act} {W':World} {β':Nat→Option Nat} (nL:bG E W σ' a' W' β') (hk:Kept [0,1] a a') :
 Wk E.n E.ty E.G okA B J T0 (.ro false ft cx) yv u i a' W':=by
 have hb:Below W.heap.size W W':=nL.below.plain fun k hk=>hL k hk.1
 obtain⟨T,q1,q2⟩:=hw.j;exact⟨⟨T,hJ i T W W' q1 hb,fun k hk=>⟨(q2 k hk).1,Nat.lt_of_lt_of_le (q2 k hk).2 hb.size⟩⟩,Nat.le_trans hw.low hb.size,hw.cap.book (dC.below hb),fun g t x hg=>(hw.FX g t x hg).book (dC.below hb),
  nL.size,hk.2.trans hw.defers,(hk.1 0 (by simp)).trans hw.t0,(hk.1 1 (by simp)).trans hw.t1⟩
theorem No {c:Cx} {x:AV} {v:Value} {okb:Nat→Prop} (h:VR c x v) (hc:closed x=true) (hx:mn x=true) (gU:∀ b,¬ c.mu b→b < c.w.heap.size→okb b):nz c.ty c.w (fun _=>okb) x v:=by
 have h1:=h.acx hx;cases x with
 | st t fs=>
   obtain⟨vs,e,sj,hF⟩:=h1;exact⟨vs,e,sj,hF.1,fun i y z hy hz=>((hF.2 i y z hy hz).lr ((iL sj).1 hc y (List.mem_of_getElem? hy)) (fr:=false) (fun e=>by cases e)).mono fun b hb hl=>⟨gU b hb.1 hl,hl,rfl⟩⟩
 | ar t es=>
   obtain⟨vs,e,sj,hF⟩:=h1;exact⟨vs,e,sj,hF.1,fun i y z hy hz=>((hF.2 i y z hy hz).lr ((iL sj).1 hc y (List.mem_of_getElem? hy)) (fr:=false) (fun e=>by cases e)).mono fun b hb hl=>⟨gU b hb.1 hl,hl,rfl⟩⟩
 | cE _=>exact h1.elim
 | _=>exact Eb ((OR.lr h1 hc (fr:=false) (fun e=>by cases e)).mono fun b hb hl=>⟨gU b hb.1 hl,hl,rfl⟩)
theorem bG.int {E:Env} {w0 w:World} {σ:St} {a:Act} {β:Nat→Option Nat} (h:bG E w0 σ a w β) {t:Nat} {n:Int} (ht:aA t σ.tm=some (.int .i64 n)):a.tmps.getD t undef = .int .i64 n:=VR.eE (h.tms t _ ht).2
theorem bG.bool {E:Env} {w0 w:World} {σ:St} {a:Act} {β:Nat→Option Nat} (h:bG E w0 σ a w β) {t:Nat} {b:Bool} (ht:aA t σ.tm=some (.bool b)):a.tmps.getD t undef = .bool b:=VR.fC (h.tms t _ ht).2
def Jb (J:Nat→(Nat→Prop)→World→Prop) (Jx:World→Prop):Bool→Nat→(Nat→Prop)→World→Prop
 | true=>J
 | false=>fun _ _ W=>Jx W
theorem Jb.mono {J:Nat→(Nat→Prop)→World→Prop} {Jx:World→Prop} (hJ:∀ i T W W',J i T W→Below W.heap.size W W'→J i T W') (hJx:∀ W W',Jx W→Below W.heap.size W W'→Jx W') (b:Bool):∀ i T W W',Jb J Jx b i T W→Below W.heap.size W W'→Jb J Jx b i T W':=fun i T W W' h hb=>by
 cases b with
 | true=>exact hJ i T W W' h hb
 | false=>exact hJx W W' h hb
theorem Wk.Wl {o:Oper} {Jx:World→Prop} {okA0:Nat→Prop} {l d f:Nat} {a0:Act} {Wb:World} {σ:St} {β:Nat→Option Nat} {y:List AV} {c:Call} {K:Act→World→Prop} {Q:Exit→Act→World→Prop}
 (hw:Wk E.n E.ty E.G okA B J T0 (.ro false ft cx) yv u i a0 Wb) (hJ:∀ i T W W',J i T W→Below W.heap.size W W'→J i T W') (gU:E.okA=okA) (mN:E.lo=none) (hL:∀ k,¬ E.lent k)
 (acZ:∀ b,okA b→okA0 b∧b < B) (hT0:∀ b,okA0 b→¬ T0 b)
 (hY:∀ T W ws,J i T W→F2 (nz E.ty W fun _ b=>(okA0 b∨B≤b)∧¬ T b) y ws→YieldAt Fence.wide 0 P l ws.toArray W fun e W'=>
    (e = .returned (.bool true)∧∃ T',J (i+1) T' W'∧(∀ k,T' k→(T k∨W.heap.size≤k)∧k < W'.heap.size)∧Alike T W W')∨(e = .returned (.bool false)∧Jx W'∧Alike T W W'))
 (hS:bG E Wb σ a W β) (hk:Kept [0,1] a0 a) (hG:bj E Wb) (ho:o.op = .call c) (hd:o.dst=some d) (hd2:2≤d) (j0:c.callee = .value (.tmp f)) (hf:a.tmps.getD f undef = .func (.yield l) #[] #[])
 (hv:dZ E.G σ c.args.toList=some y) (hy:∀ x ∈ y,closed x=true∧mn x=true)
 (hK:∀ b W',Wk E.n E.ty E.G okA B (Jb J Jx b) T0 (.ro false ft cx) yv u (i+1) (a.put (some d) (.bool b)) W'→W.heap.size≤W'.heap.size→K (a.put (some d) (.bool b)) W') :
 o.wpIn Fence.wide 0 P a W K Q:=by
 have hb:Below Wb.heap.size Wb W:=hS.below.plain fun k hk=>hL k hk.1
 obtain⟨T,q1,q2⟩:=hw.j;have hJ':=hJ i T Wb W q1 hb;have lI:=fe hS hG c.args.toList y hv;have hTd:∀ b,okA b→¬ T b:=fun b hb hT=>by
  obtain⟨h1,h2⟩:=acZ b hb;rcases (q2 b hT).1 with h3 | h3
  ·exact hT0 b h1 h3
  ·omega
 have AD:F2 (nz E.ty W fun _ b=>(okA0 b∨B≤b)∧¬ T b) y (c.args.toList.map a.eval):=⟨lI.1,fun j x v hx hv=>by
  obtain⟨h1,h2⟩:=hy x (List.mem_of_getElem? hx);refine No (lI.2 j x v hx hv) h1 h2 fun b hb hl=>?_
  have mw:Wb.heap.size≤b∨okA b:=by
   by_cases aR:b < Wb.heap.size
   ·exact .inr (by
     have:¬ (b < Wb.heap.size∧¬ E.okA b):=fun hh=>hb (.inl hh)
     rw[gU] at this;exact Classical.byContradiction fun hn=>this ⟨aR,hn⟩)
   ·exact .inl (by omega)
  rcases mw with h3 | h3
  ·exact⟨.inr (Nat.le_trans hw.low h3),fun hT=>by have:=(q2 b hT).2;omega⟩
  ·exact⟨.inl (acZ b h3).1,hTd b h3⟩⟩
 obtain⟨fn,tmps,az,bd,gb,hR⟩:=hY T W _ hJ' AD;refine⟨fun _ _=>trivial,?_⟩;have Wm:(o.semAt Fence.wide.round a.eval).run P W = .ok (.round l fn tmps az bd) W:=by
  show (execOp a.eval o).run P W=_;have e1:a.eval (.tmp f) = .func (.yield l) #[] #[]:=hf;have e2:c.args.map a.eval=(c.args.toList.map a.eval).toArray:=by apply Array.ext';simp
  rw[← e2] at gb;simp[execOp,ho,resolve,j0,e1,Deferred.ofValue,invoke,gb]
 rw[Wm,Oper.uponIn_round];refine⟨fun hd=>by simp[Fence.wide] at hd,hR.mono fun e W' hq=>?_⟩;have step:∀ b T',Jb J Jx b (i+1) T' W'→(∀ k,T' k→(T k∨W.heap.size≤k)∧k < W'.heap.size)→Alike T W W'→K (a.put o.dst (.bool b)) W':=fun b T' h1 h2 h3=>by
  rw[hd];have hle:=Nat.le_trans hw.low (Nat.le_trans hb.size h3.size);have FY:∀ t,t < 2→(a.put (some d) (.bool b)).tmps.getD t undef=a0.tmps.getD t undef:=fun t ht=>by
   have hm:t ∈ [0,1]:=by rcases (show t=0∨t=1 by omega) with rfl | rfl <;> simp
   rw[← hk.1 t hm];have d_:d ≠ t:=by omega
   simp only[Act.put,Array.getD_eq_getD_getElem?,Array.getElem?_setIfInBounds_ne d_]
  refine hK b W' ⟨⟨T',h1,fun k hk=>⟨?_,(h2 k hk).2⟩⟩,hle,(hw.cap.book (dC.below hb)).alike h3 hTd,fun g t x hg=>((hw.FX g t x hg).book (dC.below hb)).alike h3 hTd,?_,?_,?_,?_⟩ h3.size
  ·rcases (h2 k hk).1 with h4 | h4
   ·exact (q2 k h4).1
   ·exact .inr (Nat.le_trans hw.low (Nat.le_trans hb.size h4))
  ·simp[Act.put,hS.size]
  ·have:(a.put (some d) (.bool b)).defers=a.defers:=rfl;rw[this,hk.2,hw.defers]
  ·rw[FY 0 (by omega),hw.t0]
  ·rw[FY 1 (by omega),hw.t1]
 rcases hq with ⟨rfl,T',h1,h2,h3⟩ | ⟨rfl,h1,h3⟩
 ·exact step true T' h1 h2 h3
 ·exact step false (fun _=>False) h1 (fun k hk=>hk.elim) h3
theorem seg {N:Array Oper} (k m:Nat):∀ j,j < ((N.toList.drop k).take m).length→((N.toList.drop k).take m)[j]? = N[k+j]?:=fun j hj=>by
 have:j < m:=by simp at hj;omega
 rw[List.getElem?_take_of_lt this,List.getElem?_drop,Array.getElem?_toList]
theorem dK.put {a:Act} {p:Nat × AV} (h:dK a p) {d:Nat} (hd:d ≠ p.1) (v:Value):dK (a.put (some d) v) p:=by
 have:(a.put (some d) v).tmps.getD p.1 undef=a.tmps.getD p.1 undef:=by simp only[Act.put,Array.getD_eq_getD_getElem?,Array.getElem?_setIfInBounds_ne hd]
 unfold dK;rw[this];exact h
theorem dK.Np {a:Act} {d:Nat} (hd:d < a.tmps.size) (b:Bool):dK (a.put (some d) (.bool b)) (d,.bool b):= .inr ⟨b,rfl,by simp[Act.put,Array.getD_eq_getD_getElem?,hd]⟩
theorem bG.j6 {E:Env} {w0 w:World} {σ:St} {a:Act} {β:Nat→Option Nat} (h:bG E w0 σ a w β) {t:Nat} {n:Int} (ht:aA t σ.tm=some (.int .i64 n)):dK a (t,.int .i64 n):= .inl ⟨n,rfl,h.int ht⟩
theorem bG.ac1 {E:Env} {w0 w:World} {σ:St} {a:Act} {β:Nat→Option Nat} (h:bG E w0 σ a w β) {t:Nat} {b:Bool} (ht:aA t σ.tm=some (.bool b)):dK a (t,.bool b):= .inr ⟨b,rfl,h.bool ht⟩
theorem xN {P:Program} {N:Array Oper} {Q:Exit→Act→World→Prop} {a:Act} {w:World} {F:Fence} {n i:Nat} {rest:List Nat} {o:Oper} (h:N[i]? = some o) (hw:Region.wanted o (yielded N a.tmps)=true) (hh:o.wpIn F n P a w (wpOpsIn F n P N Q rest) Q) :
 wpOpsIn F n P N Q (i::rest) a w:=by
 unfold wpOpsIn;rw[h];show if _ then _ else _
 rw[if_pos hw];exact hh
end
end Go.Abs
end
section
namespace Go.Abs
open Go Go.RowKit
def fD (P:Program) (E:Env) (w0:World) (c:Code) (σ:St) (e:AX) (σ':St):Prop:=
 ∀ (a:Act) (w:World) (β:Nat→Option Nat),bG E w0 σ a w β→c.wpIn Fence.wide 0 P (Hm E w0 e σ') a w
def Ee (P:Program) (E:Env) (w0:World) (c:Code) (σ:St) (e:AX) (σ':St) (m:Nat):Prop:=
 ∀ (a:Act) (w:World) (β:Nat→Option Nat),bG E w0 σ a w β→Code.roundsIn Fence.wide 0 P c (Hm E w0 e σ') m a w
section
variable {P:Program} {E:Env} {w0:World} {σ σ1 σ':St} {e:AX} {a b c:Code}
theorem dL (hL:∀ k,¬ E.lent k) (hT:dk P E.ty) (hC:cM P E) (hG:bj E w0) {H:Nat→Hint} {k:Nat} (hd:gk P E c) (hr:a9 E H k c σ=some (e,σ')):fD P E w0 c σ e σ':=
 fun a w β h=>wpIn_wide.2 (pW (fun _=>hL) hT hC hG c σ σ' e hd hr a w β h)
theorem ei (h1:fD P E w0 a σ .norm σ1) (h2:fD P E w0 b σ1 e σ'):fD P E w0 (.seq a b) σ e σ':=fun x w β h=>
 wpIn_seq (wpIn_mono (h1 x w β h) fun ex a' w' hp=>by
  obtain⟨rfl,β',hS⟩:=hp;exact h2 a' w' β' hS)
theorem pY (h1:fD P E w0 a σ e σ1) (he:e ≠ .norm):fD P E w0 (.seq a b) σ e σ1:=fun x w β h=>
 wpIn_seq (wpIn_mono (h1 x w β h) fun ex a' w' hp=>by
  obtain⟨rfl,hS⟩:=hp;cases e with
  | norm=>exact absurd rfl he
  | exit i=>exact⟨rfl,hS⟩
  | ret=>exact⟨rfl,hS⟩)
theorem xO (i:Nat) (h1:fD P E w0 a σ (.exit i) σ'):fD P E w0 (.block i a) σ .norm σ':=fun x w β h=>
 wpIn_block (wpIn_mono (h1 x w β h) fun ex a' w' hp=>by
  obtain⟨rfl,hS⟩:=hp;simp only[Bq,Exit.inBlock];simp only[if_true];exact⟨rfl,hS⟩)
theorem m7 (i:Nat) (h1:fD P E w0 a σ e σ') (he:e ≠ .exit i):fD P E w0 (.block i a) σ e σ':=fun x w β h=>
 wpIn_block (wpIn_mono (h1 x w β h) fun ex a' w' hp=>by
  obtain⟨rfl,hS⟩:=hp;cases e with
  | norm=>exact⟨rfl,hS⟩
  | ret=>exact⟨rfl,hS⟩
  | exit j=>
    simp only[Bq,Exit.inBlock];rw[if_neg (fun q=>he (by rw[q]))];exact⟨rfl,hS⟩)
theorem xP (h1:fD P E w0 a σ e σ'):fD P E w0 (.scope a) σ e σ':=fun x w β h=>
 wpIn_wide.2 (wp_scope_straight (wpIn_wide.1 (wpIn_mono (h1 x w β h) fun ex a' w' hp=>by
  obtain⟨rfl,hS⟩:=hp;cases e <;> exact⟨rfl,hS⟩)))
theorem FZ (l:Nat):fD P E w0 (.label l) σ .norm σ:=fun x w β h=>wpIn_label ⟨rfl,β,h⟩
theorem JM (i:Nat):fD P E w0 (.exit i) σ (.exit i) σ:=fun x w β h=>wpIn_exit ⟨rfl,β,h⟩
theorem F0 {m:Nat} (h1:fD P E w0 c σ e σ') (he:e ≠ .norm):Ee P E w0 c σ e σ' (m+1):=fun x w β h=>by
 rw[roundsIn_succ];refine wpIn_mono (h1 x w β h) fun ex a' w' hp=>?_
 obtain⟨rfl,hS⟩:=hp;cases e with
 | norm=>exact absurd rfl he
 | exit i=>exact⟨rfl,hS⟩
 | ret=>exact⟨rfl,hS⟩
theorem F1 {m:Nat} (h1:fD P E w0 c σ .norm σ1) (h2:Ee P E w0 c σ1 e σ' m):Ee P E w0 c σ e σ' (m+1):=fun x w β h=>by
 rw[roundsIn_succ];refine wpIn_mono (h1 x w β h) fun ex a' w' hp=>?_
 obtain⟨rfl,β',hS⟩:=hp;exact h2 a' w' β' hS
theorem JN {m:Nat} (h:Ee P E w0 c σ e σ' m):fD P E w0 (.loop c) σ e σ':=fun x w β hS=>wpIn_loop_rounds m (h x w β hS)
theorem fD.less {σ2:St} (h:fD P E w0 c σ e σ') (Iw:∀ t x,aA t σ2.tm=some x→aA t σ'.tm=some x) (zr:∀ o b,aA o σ2.ob=some b→aA o σ'.ob=some b):fD P E w0 c σ e σ2:=fun x w β hS=>
 wpIn_mono (h x w β hS) fun ex a' w' hp=>by
  obtain⟨rfl,β',hS⟩:=hp;exact⟨rfl,β',hS.less Iw zr⟩
theorem fD.jx {ob2:List (Nat × Obj)} (h:fD P E w0 c σ e σ') (hr:AA E w0 σ'.tm σ'.ob ob2):fD P E w0 c σ e ⟨σ'.tm,ob2⟩:=fun x w β hS=>
 wpIn_mono (h x w β hS) fun ex a' w' hp=>by
  obtain⟨rfl,β',hS⟩:=hp;obtain⟨β2,h2,_⟩:=hr a' w' β' hS;exact⟨rfl,β2,h2⟩
theorem xQ (hZ:∀ id,E.Z id=[]) (hT:dk P E.ty) (hC:cM P E) (hG:bj E w0) (mN:E.lo=none) (hL:∀ k,¬ E.lent k) {H:Nat→Hint} {k:Nat} {S:List Nat} {tm:List (Nat × AV)} (Wd:aQ tm S=tm)
 {gf:Nat} {bh:List AV} {ys:List (List AV)} (hit:Iter P E.ty E.G gf bh ys) (nR:closed.fq bh=true) (eg:∀ args w,(callFunc gf args).run P w = .ok (.enter gf args) w)
 (Iw:aQ σ.tm S=tm) {g:Operand} (hg:σ.val E.G g=some (.fn gf bh)) {ps:Array Tmp} {assign body:Code} (Wf:∀ p ∈ ps.toList,p < E.n∧p ∉ S) (vi:bQ S assign=true) (Qe:bQ S body=true)
 {jx:List (Nat × Obj)→List (Nat × Obj)→Prop} (Wh:∀ ob ob2,jx ob ob2→AA E w0 tm ob ob2) {fP:List (Nat × Obj)} (hr:ki jx (fun c σ r=>∀ A lo L,a9 { E with okA:=A,lo:=lo,lent:=L } H k c σ=some r) ps.toList assign body S tm ys σ.ob e fP) :
 fD P E w0 (.rangeFunc g ps assign body) σ e ⟨tm,fP⟩:=fun a w β h=>
 JL hZ hT hC hG mN hL Wd hit nR eg h Iw hg Wf vi Qe Wh hr
theorem enters {f:FuncId} (LD:yS P f):∀ args w,(callFunc f args).run P w = .ok (.enter f args) w:=fun args w=>by
 obtain⟨fn,q1,q2,q3⟩:=LD;obtain⟨body,hb⟩:=Option.isSome_iff_exists.1 q2;simp[callFunc,q1,q3,hb]
theorem pK (hL:∀ k,¬ E.lent k) (hT:dk P E.ty) {f:FuncId} {fn:Func} {args:List AV} (hf:P.funcs[f]? = some fn) (hn:fn.ntmps=E.n) (hb:fn.body=some c)
 (ha:args.length≤E.n) (ho:fo.ml args=true) {w:World} {vs:List Value} (lI:F2 (nz E.ty w fun _=>E.okA) args vs) (hD:fD P E w c ⟨eH 0 args,[]⟩ e σ') (he:e = .norm∨e = .ret) {xs:List AV} (hx:dS E σ' fn.results.toList=some xs)
 {R:Ending→World→Prop} (hR:∀ a' w' β' us,bG E w σ' a' w' β'→F2 (VR (aK E w σ' w' β')) xs us→R (.returned (if h:us.toArray.size=1 then us.toArray[0] else .tuple us.toArray)) w'):Calls P f vs.toArray w R:=by
 refine callsIn_wide.1 (callsIn_of_wp_marks (n:=0) hf hb trivial ?_ rfl);have hS:=zE ha ho lI;rw[hn];refine wpIn_mono (hD _ w _ hS) fun e' a' w' hp=>?_
 obtain⟨hex,β',nL⟩:=hp;have fin:LeavesInM Fence.wide 0 P fn a'.tmps R a'.defers .returning w':=by
  refine kI a'.defers w' nL fun w' nL=>?_
  obtain⟨us,r1,r2⟩:=lR hT nL fn.results.toList xs hx;refine⟨if h:us.toArray.size=1 then us.toArray[0] else .tuple us.toArray,?_,hR _ _ _ us nL r2⟩;unfold results;rw[Array.mapM_eq_mapM_toList];simp only[Sem.run_bind,Sem.run_map];exact congrArg (fun (z:Result (List Value))=>(z.andThen fun a w'=>Result.ok a.toArray w').andThen fun a w'=>Sem.run P (pure (if h:a.size=1 then a[0] else Value.tuple a)) w') r1
 subst hex;rcases he with he | he <;> subst he <;> exact fin
theorem uL {Ef:(Nat→Prop)→Env} {ty:bX} {G:cC} (hA:∀ A,(Ef A).okA=A) (lH:∀ A,(Ef A).ty=ty) (Qc:∀ A,(Ef A).G=G) (hT:dk P ty) {f:FuncId} {fn:Func} {c:Code} {args:List AV} {r:AV}
 (hf:P.funcs[f]? = some fn) (hn:∀ A,fn.ntmps=(Ef A).n) (hb:fn.body=some c) (ha:args.length≤fn.ntmps) (ho:fo.ml args=true) (he:e = .norm∨e = .ret) (hD:∀ A w,bj (Ef A) w→fD P (Ef A) w c ⟨eH 0 args,[]⟩ e σ')
 (hr:∀ A,(av (dS (Ef A) σ' fn.results.toList) fun vs=>av (hand.gn (Ef A).ty σ'.ob 30 vs) fun vs=>some (one vs))=some r) (hL:∀ A k,¬ (Ef A).lent k:=by intro _ _ h;exact h) (mN:∀ A,(Ef A).lo=none:=by intro _;rfl):tx P ty G f args r:=by
 intro A w vs lI hG;obtain⟨xs,h3,h4⟩:=aq (hr A);obtain⟨ys,h5,h6⟩:=aq h4;injection h6 with h6;subst h6
 have Jz:dk P (Ef A).ty:=by rw[lH];exact hT
 have hG':bj (Ef A) w:=fun g t x hg=>by rw[lH,hA];exact hG g t x (by rw[← Qc A];exact hg)
 refine pK (E:=Ef A) (hL A) Jz hf (hn A) hb (by rw[← hn A];exact ha) ho (by rw[lH,hA];exact lI) (hD A w hG') he h3 fun a' w' β' us nL r2=>?_
 obtain⟨e1,e2⟩:=mA 30 xs ys h5;have qm:F2 (nz (Ef A).ty w' (cX w.heap.size (Ef A).okA)) ys us:=by
  refine⟨by rw[e1];exact r2.1,fun i y u hy hu=>?_⟩;have hi:i < xs.length:=by rw[← e1];exact (List.getElem?_eq_some_iff.1 hy).1
  obtain⟨_,y',_,q1,q2⟩:=e2 i xs[i] (by simp[hi]);rw[hy] at q1;injection q1 with q1;subst q1
  have:=m6 (hL A) Jz nL q2 (r2.2 i xs[i] u (by simp[hi]) hu);rw[mN A] at this;exact this
 refine⟨_,rfl,nL.below.plain fun k hk=>hL A k hk.1,?_⟩;rw[lH,hA] at qm;have LU:∀ (hlen:ys.length ≠ 1),CR ty w' (cX w.heap.size A) (one ys) (.tuple us.toArray):=fun hlen=>by
  have:one ys = .cE ys:=by
   match ys,hlen with
   | [],_=>rfl
   | [_],h=>exact absurd rfl h
   | _::_::_,_=>rfl
  rw[this];exact⟨us.toArray,rfl,by simpa using qm⟩
 by_cases hlen:us.toArray.size=1
 ·rw[dif_pos hlen];have h1:us.length=1:=by simpa using hlen
  match us,ys,h1,qm with
  | [u],[y],_,qm=>exact wa (qm.2 0 y u rfl rfl)
  | [u],[],_,qm=>exact absurd qm.1 (by simp)
  | [u],_::_::_,_,qm=>exact absurd qm.1 (by simp)
 ·rw[dif_neg hlen];refine LU ?_;rw[qm.1];simpa using hlen
def Rn (P:Program) (ty:bX) (G:cC) (f:FuncId) (args:List AV) (gf:Nat) (bh:List AV):Prop:=
 ∀ (okA:Nat→Prop) (w:World) (vs:List Value),F2 (nz ty w fun _=>okA) args vs→(∀ g t x,G g=some (t,x)→LR ty w okA (.ro false t x) (.pointer (some ⟨g,0,none⟩)))→
   Calls P f vs.toArray w fun e w'=>∃ us:Array Value,e = .returned (.func (.func gf) #[] us)∧Below w.heap.size w w'∧us.size=bh.length∧∀ (i:Nat) (x:AV),bh[i]? = some x→nz ty w' (cX w.heap.size okA) x (us.getD i undef)
theorem BF {Ef:(Nat→Prop)→Env} {ty:bX} {G:cC} (hA:∀ A,(Ef A).okA=A) (lH:∀ A,(Ef A).ty=ty) (Qc:∀ A,(Ef A).G=G) (hT:dk P ty) {f:FuncId} {fn:Func} {c:Code} {args:List AV} {gf:Nat} {cs bh:List AV}
 (hf:P.funcs[f]? = some fn) (hn:∀ A,fn.ntmps=(Ef A).n) (hb:fn.body=some c) (ha:args.length≤fn.ntmps) (ho:fo.ml args=true) (he:e = .norm∨e = .ret) (hD:∀ A w,bj (Ef A) w→fD P (Ef A) w c ⟨eH 0 args,[]⟩ e σ')
 (hr:∀ A,dS (Ef A) σ' fn.results.toList=some [.fn gf cs]) (Ea:∃ (i o:Nat) (r:RT) (p:List Nat),cs[i]? = some (AV.ptr o r p)) (hh:∀ A,hand.gn (Ef A).ty σ'.ob 30 cs=some bh) (U5:∀ x ∈ cs,bq x=true) (hL:∀ A k,¬ (Ef A).lent k:=by intro _ _ h;exact h) (mN:∀ A,(Ef A).lo=none:=by intro _;rfl):Rn P ty G f args gf bh:=by
 intro A w vs lI hG;have Jz:dk P (Ef A).ty:=by rw[lH];exact hT
 have hG':bj (Ef A) w:=fun g t x hg=>by rw[lH,hA];exact hG g t x (by rw[← Qc A];exact hg)
 refine pK (E:=Ef A) (hL A) Jz hf (hn A) hb (by rw[← hn A];exact ha) ho (by rw[lH,hA];exact lI) (hD A w hG') he (hr A) fun a' w' β' us nL r2=>?_
 match us,r2 with
 | [],r2=>exact absurd r2.1 (by simp)
 | _::_::_,r2=>exact absurd r2.1 (by simp)
 | [u],r2=>
   have hu:OR (aK (Ef A) w σ' w' β') (.fn gf cs) u:=r2.2 0 _ u rfl rfl;have Bm:∃ us:Array Value,u = .func (.func gf) #[] us∧us.size=cs.length∧∀ (i:Nat) (x:AV),cs[i]? = some x→OR (aK (Ef A) w σ' w' β') x (us.getD i undef):=by
    cases hu with
    | cl h1=>
      exfalso;obtain⟨i,o,r,p,hi⟩:=Ea;cases h1 with
      | fn f cs us q1 q2=>have:=q2 i _ hi;cases this
    | fn f cs us q1 q2=>exact⟨us,rfl,q1,q2⟩
   obtain⟨us,rfl,q1,q2⟩:=Bm;obtain⟨e1,e2⟩:=mA 30 cs bh (hh A);refine⟨us,rfl,nL.below.plain fun k hk=>hL A k hk.1,q1.trans e1.symm,fun i y hy=>?_⟩;have hi:i < cs.length:=by rw[← e1];exact (List.getElem?_eq_some_iff.1 hy).1
   obtain⟨_,y',_,p1,p2⟩:=e2 i cs[i] (by simp[hi]);rw[hy] at p1;injection p1 with p1;subst p1
   have h3:=q2 i cs[i] (by simp[hi]);have:=m6 (hL A) Jz nL p2 (ga ((jU (U5 _ (List.getElem_mem hi))).2 h3));rw[mN A,lH,hA] at this;exact this
theorem F3 (hT:dk P E.ty) {w:World} {β:Nat→Option Nat} {a:Act} (h:bG E w0 σ a w β) (hG:bj E w0) {o:Oper} {c:Call} (ho:o.op = .call c) {f gf:Nat} {l bh:List AV} (LD:yS P f) {g:Operand} (j0:c.callee = .value g) (hg:a.eval g = .func (.func f) #[] #[])
 (hv:dZ E.G σ c.args.toList=some l) (hl:∀ x ∈ l,closed x=true∧mn x=true) (Fx:Rn P E.ty E.G f l gf bh) (nR:∀ x ∈ bh,bq x=true) {K:Act→World→Prop} {Q:Exit→Act→World→Prop}
 (hK:∀ v w',bG E w0 σ a w' β→VR (aK E w0 σ w' β) (.fn gf bh) v→K (a.put o.dst v) w'):o.wp P a w K Q:=by
 have lI:=fe h hG c.args.toList l hv;have gb:(execOp a.eval o).run P w = .ok (.enter f (c.args.toList.map a.eval).toArray) w:=by
  obtain⟨fn,q1,q2,q3⟩:=LD;obtain⟨body,hb⟩:=Option.isSome_iff_exists.1 q2;have e2:c.args.map a.eval=(c.args.toList.map a.eval).toArray:=by apply Array.ext';simp
  simp[execOp,ho,resolve,j0,hg,Deferred.ofValue,invoke,callFunc,q1,q3,hb,e2]
 have Hj:F2 (nz E.ty w fun _ b=>¬ (aK E w0 σ w β).mu b) l (c.args.toList.map a.eval):=⟨lI.1,fun j x v hx hv=>by
  obtain⟨h1,h2⟩:=hl x (List.mem_of_getElem? hx);exact No (lI.2 j x v hx hv) h1 h2 fun b hb _=>hb⟩
 unfold Oper.wp;rw[gb];refine Calls.mono (Fx _ w _ Hj fun g t x hg=>(h.old (hG g t x hg)).mono fun b hb hl=>⟨hb.1,hl,rfl⟩) fun e w' he=>?_
 obtain⟨us,rfl,e4,e5,e6⟩:=he;refine hK _ w' (h.grow e4) (ga ((jU (x:= .fn gf bh) rfl).2 (.fn gf bh us e5 fun i x hx=>?_)));exact (jU (nR x (List.mem_of_getElem? hx))).1 (nz.vr h e4 (.inl fun b hb=>hb) (e6 i x hx))
theorem xR (hZ:∀ id,E.Z id=[]) (hT:dk P E.ty) (hC:cM P E) (hG:bj E w0) {id:Nat} {N:Array Oper} {m d:Nat} {o:Oper} {c:Call} {f gf:Nat} {l bh:List AV} (cS:N.size=m+1) (hq:((N.toList.take m).all fun o=>oG o.op&&(match o.dst with | some t=> !([]:List Nat).contains t | none=>true))=true)
 (Wi:gS E N.toList (N.toList.take m) σ=some σ1) (Nq:N[m]? = some o) (hgu:o.guard=none) (ho:o.op = .call c) (hd:o.dst=some d) (hdn:d < E.n) (LD:yS P f) {g:Operand} (j0:c.callee = .value g) (hg:∀ a:Act,a.eval g = .func (.func f) #[] #[])
 (hv:dZ E.G σ1 c.args.toList=some l) (hl:∀ x ∈ l,closed x=true∧mn x=true) (Fx:Rn P E.ty E.G f l gf bh) (nR:∀ x ∈ bh,bq x=true):fD P E w0 (.region id N false) σ .norm (kR E ⟨bE d (.fn gf bh) σ1.tm,σ1.ob⟩):=fun a w β h=>by
 refine wpIn_region ?_;have hr:List.range N.size=List.range' 0 ((N.toList.drop 0).take m).length++[m]:=by
  rw[cS,List.range_succ,List.range_eq_range'];congr 2
  simp[cS]
 rw[hr];refine kW (S:=[]) (a0:=a) hT hC hG (iO 0) _ _ _ a w β (seg 0 m) hq Wi h (.refl _ _) fun a1 w1 β1 S1 _=>?_
 refine xN Nq (by simp[Region.wanted,hgu]) ((iO 0).2 _ _ _ _ _ (fun c' Ug=>by rw[ho] at Ug;cases Ug) (F3 hT S1 hG ho LD j0 (hg _) hv hl Fx nR fun v w' S2 hV=>?_));rw[hd];have S3:=S2.put hdn hV;exact⟨rfl,β1,S3.less (fun t x hx=>(nV _ _ t x (fun _ _ _=>trivial) hx).2) (fun o b hb=>hb)⟩
end
end Go.Abs
end
section
namespace Go.Abs
open Go Go.RowKit
theorem iy.hand {P:Program} {ty:bX} {G:cC} {f:FuncId} {args:List AV} {r r':AV} {fP:List (Nat × Obj)} (hT:dk P ty) (h:iy P ty G f args [] r fP) (ho:∀ x ∈ args,fo x=true) {k:Nat} (hr:hand ty fP k r=some r'):tx P ty G f args r':=by
 intro okA w vs lI hG;have hv:F2 (VR (ql ty none okA (fun _=>False) w.heap.size [] w fun _=>none)) args vs:=⟨lI.1,fun i x v hx hv=>Nn (c:=ql ty none okA (fun _=>False) w.heap.size [] w fun _=>none) (lI.2 i x v hx hv) (ho x (List.mem_of_getElem? hx)) fun b hb _ lh=>by
  rcases lh with ⟨_,q⟩ | ⟨_,_,q,_⟩
  ·exact q hb
  ·simp[aA] at q⟩
 refine Calls.mono (h none okA (fun _=>False) w (fun _=>none) vs (fun o b hb=>by simp[aA] at hb) (fun o o' b b' k h1=>by simp[aA] at h1) hv hG) fun e w' he=>?_
 obtain⟨v,β',e1,e2,e3,e4,e5⟩:=he
 let E:Env:={ ty:=ty,G:=G,n:=0,K:=0,C:=fun _ _=>none,D:=fun _=>none,okA:=okA }
 have hS:bG E w ⟨[],fP⟩ { tmps:=#[],defers:=[] } w' β':=⟨e2,rfl,Marks.nil _ _,fun t x hx=>by simp[aA] at hx,e3,e4⟩
 exact⟨v,e1,e2.plain fun k hk=>hk.1,wa (m6 (E:=E) (fun _ h=>h) hT hS hr e5)⟩
end Go.Abs
end
section
namespace Go.Abs
open Go Go.RowKit Go.Deep Go.ChangeShapes Go.WideShapes
instance:Inhabited AV:=⟨.undef⟩
inductive Ro (ty:bX):TypeId→Prop
 | int {t:TypeId} {k:IntKind} {s b:Nat} {z:AV}:ty t=some ⟨.int k,s,b,z⟩→Ro ty t
 | bool {t:TypeId} {s b:Nat} {z:AV}:ty t=some ⟨.bool,s,b,z⟩→Ro ty t
 | str {t:TypeId} {s b:Nat} {z:AV}:ty t=some ⟨.str,s,b,z⟩→Ro ty t
 | st {t:TypeId} {ts:List TypeId} {s b:Nat} {z:AV}:ty t=some ⟨.struct ts,s,b,z⟩→s=(ts.map (aH ty)).sum→(∀ u ∈ ts,Ro ty u)→Ro ty t
inductive Tv (ty:bX):TypeId→AV→Prop
 | int {t:TypeId} {k:IntKind} {s b:Nat} {z:AV} {n:Int}:ty t=some ⟨.int k,s,b,z⟩→(Lit.int k n).wf=true→Tv ty t (.int k n)
 | bool {t:TypeId} {s b:Nat} {z:AV} {n:Bool}:ty t=some ⟨.bool,s,b,z⟩→Tv ty t (.bool n)
 | str {t:TypeId} {s b:Nat} {z:AV} {n:ByteArray}:ty t=some ⟨.str,s,b,z⟩→n.size≤maxLen→Tv ty t (.str n)
 | st {t:TypeId} {ts:List TypeId} {s b:Nat} {z:AV} {fs:List AV}:ty t=some ⟨.struct ts,s,b,z⟩→fs.length=ts.length→(∀ (i:Nat) (x:AV) (u:TypeId),fs[i]? = some x→ts[i]? = some u→Tv ty u x)→Tv ty t (.st t fs)
def Rp (ty:bX):AV→Value→Prop:=fun x u=>∀ (w:World) (okb:Nat→Prop),LR ty w okb x u
theorem AF {R:AV→Value→Prop} {xs ys:List AV} {us vs:List Value} (h1:F2 R xs us) (h2:F2 R ys vs):F2 R (xs++ys) (us++vs):=by
 refine⟨by simp[h1.1,h2.1],fun i x v hx hv=>?_⟩;by_cases hi:i < xs.length
 ·rw[List.getElem?_append_left hi] at hx;rw[List.getElem?_append_left (by rw[← h1.1];exact hi)] at hv;exact h1.2 i x v hx hv
 ·rw[List.getElem?_append_right (by omega)] at hx;rw[List.getElem?_append_right (by rw[← h1.1];omega)] at hv;rw[← h1.1] at hv;exact h2.2 _ x v hx hv
theorem AG {ty:bX} (R:AV→Value→Prop):∀ (ts:List TypeId) (fs:List AV) (cs:List Value),fs.length=ts.length→cs.length=(ts.map (aH ty)).sum→
 (∀ (i:Nat) (x:AV) (u:TypeId),fs[i]? = some x→ts[i]? = some u→F2 R (leaves x) ((cs.drop ((ts.take i).map (aH ty)).sum).take (aH ty u)))→F2 R (ay fs) cs
 | [],[],cs,_,hc,_=>by
   have:cs=[]:=List.eq_nil_of_length_eq_zero (by simpa using hc);subst this;exact⟨rfl,fun i x v hx=>by simp[ay] at hx⟩
 | u::ts,x::fs,cs,hl,hc,h=>by
   have h0:=h 0 x u rfl rfl;simp only[List.take_zero,List.map_nil,List.sum_nil,List.drop_zero] at h0;have hr:=AG (ty:=ty) R ts fs (cs.drop (aH ty u)) (by simpa using hl) (by simp only[List.map_cons,List.sum_cons] at hc;simp only[List.length_drop];omega) (fun i y v hy hv=>by
    have:=h (i+1) y v (by simpa using hy) (by simpa using hv);simp only[List.take_succ_cons,List.map_cons,List.sum_cons] at this;rw[List.drop_drop];exact this)
   have:=AF h0 hr;rw[List.take_append_drop] at this;simpa[ay] using this
 | [],_::_,_,hl,_,_=>by simp at hl
 | _::_,[],_,hl,_,_=>by simp at hl
section
variable {H:Type} {enc:TypeId × Value→H} {P:Program} {w:World} {ty:bX} {spare:Nat→Bool} {held:Bool}
theorem bW (hT:jA P ty) {t:TypeId} {d:kD} (h:ty t=some d):P.cellsOf t=d.size:=by
 obtain⟨i,z,h1,h2,_⟩:=(hT t d h).info;simp[Program.cellsOf,h1,h2]
theorem sL (hT:jA P ty) {t:TypeId} {d:kD} (h:ty t=some d) (hl:fv d.k=true):d.size=1:=by
 have hc:=(hT t _ h).fy;generalize d.zero=z at hc;cases hc with
 | leaf h1 _ h3 _=>rw[h] at h1;injection h1 with h1;subst h1;exact h3
 | st h1=>rw[h] at h1;injection h1 with h1;subst h1;cases hl
 | ar h1=>rw[h] at h1;injection h1 with h1;subst h1;cases hl
theorem sM {R:AV→Value→Prop} {x:AV} {v:Value} (h:R x v):F2 R [x] [v]:=gH h ⟨rfl,fun i x v hx=>by simp at hx⟩
theorem F4 (hT:jA P ty) {t:TypeId} (hp:Ro ty t):∀ (fuel:Nat) (cs:List Value) (x:DataW H × List MemPlace),DataW.trod enc P w 0 spare held fuel t cs=some x→
 ∃ a,Tv ty t a∧br ty t a∧F2 (Rp ty) (leaves a) cs:=by
 induction hp with
 | @int t k s b z ht=>
   intro fuel cs x h;obtain⟨n,rfl,_,hw⟩:=DataW.trod_int (show P.underlying t=some (.int k) from (hT t _ ht).kind) h;exact⟨.int k n,.int ht hw,.leaf ht rfl (sL hT ht rfl) rfl,sM fun w okb=> .int k n⟩
 | @bool t s b z ht=>
   intro fuel cs x h;obtain⟨n,rfl,_⟩:=DataW.trod_bool (show P.underlying t=some .bool from (hT t _ ht).kind) h;exact⟨.bool n,.bool ht,.leaf ht rfl (sL hT ht rfl) rfl,sM fun w okb=> .bool n⟩
 | @str t s b z ht=>
   intro fuel cs x h;obtain⟨n,rfl,_,hw⟩:=DataW.trod_string (show P.underlying t=some .string from (hT t _ ht).kind) h;exact⟨.str n,.str ht hw,.leaf ht rfl (sL hT ht rfl) rfl,sM fun w okb=> .str n⟩
 | @st t ts s b z ht hs hu ih=>
   intro fuel cs x h;obtain⟨fds,hk,cS,hfd⟩:=(hT t _ ht).kind;obtain⟨xs,n,_,_,nR,hxl,hx⟩:=DataW.trod_struct hk h;have E9:cs.length=(ts.map (aH ty)).sum:=by rw[nR,bW hT ht];exact hs
   have hp:∀ i,i < ts.length→∃ a:AV,∀ u,ts[i]? = some u→Tv ty u a∧br ty u a∧F2 (Rp ty) (leaves a) ((cs.drop ((ts.take i).map (aH ty)).sum).take (aH ty u)):=fun i hi=>by
    have Uh:i < fds.size:=by omega
    obtain⟨e1,e2⟩:=hfd i fds[i] (Array.getElem?_eq_getElem Uh);have e3:=hx i fds[i] (Array.getElem?_eq_getElem Uh);rw[List.getElem?_eq_getElem (show i < xs.length by omega),e2] at e3;have nG:fds[i].type ∈ ts:=List.mem_of_getElem? e1;have cS:aH ty fds[i].type=P.cellsOf fds[i].type:=by
     have:=hu _ nG;cases this with
     | int h=>rw[bW hT h];simp[aH,h]
     | bool h=>rw[bW hT h];simp[aH,h]
     | str h=>rw[bW hT h];simp[aH,h]
     | st h=>rw[bW hT h];simp[aH,h]
    obtain⟨a,h1,h2,h3⟩:=ih _ nG n _ _ e3;refine⟨a,fun u hu=>?_⟩;rw[e1] at hu;injection hu with hu;subst hu
    rw[cS];exact⟨h1,h2,h3⟩
   obtain⟨f,hf⟩:=choose_lt hp;have hg:∀ (i:Nat) (y:AV) (u:TypeId),((List.range ts.length).map f)[i]? = some y→ts[i]? = some u→y=f i∧i < ts.length:=fun i y u hy hu=>by
    have hi:=(List.getElem?_eq_some_iff.1 hu).1;rw[List.getElem?_map,List.getElem?_range hi] at hy;injection hy with hy
    exact⟨hy.symm,hi⟩
   refine⟨.st t ((List.range ts.length).map f),.st ht (by simp) (fun i y u hy hu=>?_),.st ht (by simp) hs (fun i y u hy hu=>?_),?_⟩
   ·obtain⟨rfl,hi⟩:=hg i y u hy hu;exact (hf i hi u hu).1
   ·obtain⟨rfl,hi⟩:=hg i y u hy hu;exact (hf i hi u hu).2.1
   ·simp only[leaves];exact AG (ty:=ty) _ ts _ cs (by simp) E9 fun i y u hy hu=>by
     obtain⟨rfl,hi⟩:=hg i y u hy hu;exact (hf i hi u hu).2.2
theorem m8 (hT:jA P ty) {t e:TypeId} {s b:Nat} {z:AV} (ht:ty t=some ⟨.slice e,s,b,z⟩) (he:Ro ty e) {fuel:Nat} {v:Value} {x:DataW H × List MemPlace}
 (h:DataW.trod enc P w 0 (fun _=>true) held fuel t [v]=some x) (hs:∀ a len cap,v = .slice (some a) len cap→a.spot=none∧a.block < w.heap.size) :
 ∃ es,LR ty w (fun _=>True) (.sl e ⟨false,none,false⟩ es) v∧(∀ y ∈ es,Tv ty e y):=by
 obtain⟨hk,gq⟩:=(hT t _ ht).kind;rcases open_slice hk h with ⟨h1,_⟩ | ⟨a,len,cap,m,n,D,Pl,h1,_,U7,hcm,hm,_,Qs⟩
 ·injection h1 with h1 _;subst h1
  exact⟨[],.sx e _ _ (by simp) rfl,fun y hy=>by cases hy⟩
 ·injection h1 with h1 _;subst h1
  obtain⟨hsp,sH⟩:=hs a len cap rfl;obtain⟨eQ,off,spot⟩:=a;simp only at hsp sH;subst hsp;have Vi:m=cap:=by simpa using hm
  subst Vi;have cS:aH ty e=P.cellsOf e:=by
   cases he with
   | int h=>rw[bW hT h];simp[aH,h]
   | bool h=>rw[bW hT h];simp[aH,h]
   | str h=>rw[bW hT h];simp[aH,h]
   | st h=>rw[bW hT h];simp[aH,h]
  have hp:∀ i,i < len→∃ a:AV,Tv ty e a∧br ty e a∧F2 (fun y u=>Rp ty y u) (leaves a) ((List.range (aH ty e)).map fun r=>(w.cell? ⟨eQ,off+(i * aH ty e+r),none⟩).getD undef)∧∀ r,r < aH ty e→∃ v,w.cell? ⟨eQ,off+(i * aH ty e+r),none⟩=some v:=fun i hi=>by
   obtain⟨cs',q1,q2⟩:=Qs i (by omega);obtain⟨_,q3,q4⟩:=World.cells?_some q1;obtain⟨a,g1,g2,g3⟩:=F4 hT he _ _ _ q2;have hq:∀ r,r < aH ty e→w.cell? ⟨eQ,off+(i * aH ty e+r),none⟩=cs'[r]?:=fun r hr=>by
    have:=q4 r (by omega);rw[add_plain,add_plain,← cS,Nat.add_assoc] at this;exact this
   have E9:cs'=(List.range (aH ty e)).map fun r=>(w.cell? ⟨eQ,off+(i * aH ty e+r),none⟩).getD undef:=by
    apply List.ext_getElem?;intro r;by_cases hr:r < aH ty e
    ·rw[List.getElem?_map,List.getElem?_range hr,Option.map_some,hq r hr,List.getElem?_eq_getElem (by omega)];rfl
    ·rw[List.getElem?_eq_none (by omega),List.getElem?_eq_none (by simp;omega)]
   refine⟨a,g1,g2,by rw[← E9];exact g3,fun r hr=>?_⟩;rw[hq r hr,List.getElem?_eq_getElem (by omega)];exact⟨_,rfl⟩
  obtain⟨f,hf⟩:=choose_lt hp;have nG:∀ y ∈ (List.range len).map f,∃ i,i < len∧y=f i:=fun y hy=>by
   obtain⟨i,hi,rfl⟩:=List.mem_map.1 hy;exact⟨i,by simpa using hi,rfl⟩
  have hlv:∀ y ∈ (List.range len).map f,(leaves y).length=aH ty e:=fun y hy=>by
   obtain⟨i,hi,rfl⟩:=nG y hy;exact (hf i hi).2.1.len
  have ig:∀ (j:Nat) (y:AV),(ay ((List.range len).map f))[j]? = some y→∃ v,w.cell? ⟨eQ,off+j,none⟩=some v∧∀ okb,LR ty w okb y v:=fun j y hy=>by
   have hj:=(List.getElem?_eq_some_iff.1 hy).1;rw[bg _ _ hlv] at hj;simp only[List.length_map,List.length_range] at hj;have hi:j / aH ty e < len:=Nat.div_lt_of_lt_mul (by rw[Nat.mul_comm];exact hj);have hr:j % aH ty e < aH ty e:=Nat.mod_lt _ gq;have hdm:j / aH ty e * aH ty e+j % aH ty e=j:=by rw[Nat.mul_comm];exact Nat.div_add_mod j _
   have:=ed (aH ty e) _ hlv (j / aH ty e) (f (j / aH ty e)) (by rw[List.getElem?_map,List.getElem?_range hi];rfl) (j % aH ty e) hr;rw[hdm,hy] at this;obtain⟨_,_,g3,g4⟩:=hf _ hi;obtain⟨v,hv⟩:=g4 _ hr;rw[hdm] at hv;refine⟨v,hv,fun okb=>?_⟩;have:=g3.2 (j % aH ty e) y v this.symm (by rw[List.getElem?_map,List.getElem?_range hr,Option.map_some,hdm,hv];rfl);exact this w okb
  have hLR:LR ty w (fun _=>True) (.sl e ⟨false,none,false⟩ ((List.range len).map f)) (.slice (some ⟨eQ,off,none⟩) ((List.range len).map f).length m):=
   .sl e _ _ eQ off m (fun j=>(w.cell? ⟨eQ,off+j,none⟩).getD undef) (by simpa using U7) (by simp) (by simp) (fun _=>⟨trivial,sH⟩) (fun y hy=>by
    obtain⟨i,hi,rfl⟩:=nG y hy;exact (hf i hi).2.1) (fun j y hy=>by
     obtain⟨v,hv,_⟩:=ig j y hy;rw[hv];rfl) (fun j y hy=>by
     obtain⟨v,hv,h2⟩:=ig j y hy;rw[hv];exact h2 _)
  refine⟨(List.range len).map f,?_,fun y hy=>?_⟩
  ·simpa using hLR
  ·obtain⟨i,hi,rfl⟩:=nG y hy;exact (hf i hi).1
mutual
def n8 {H:Type}:DataW H→List AV
 | .lit (.string b)=>[.str ⟨b.toArray⟩]
 | .lit (.bool b)=>[.bool b]
 | .lit (.int k n)=>[.int k n]
 | .agg ps=>rP ps
 | _=>[]
def rP {H:Type}:List (DataW H)→List AV
 | []=>[]
 | d::r=>n8 d++rP r
end
theorem m9 {H:Type}:∀ l:List (DataW H),rP l=(l.map n8).flatten
 | []=>by simp[rP]
 | d::r=>by simp[rP,m9 r]
inductive F5 (ty:bX):TypeId→Prop
 | int {t:TypeId} {k:IntKind} {s b:Nat} {z:AV}:ty t=some ⟨.int k,s,b,z⟩→F5 ty t
 | bool {t:TypeId} {s b:Nat} {z:AV}:ty t=some ⟨.bool,s,b,z⟩→F5 ty t
 | str {t:TypeId} {s b:Nat} {z:AV}:ty t=some ⟨.str,s,b,z⟩→F5 ty t
 | st {t:TypeId} {ts:List TypeId} {s b:Nat} {z:AV}:ty t=some ⟨.struct ts,s,b,z⟩→s=(ts.map (aH ty)).sum→(∀ u ∈ ts,F5 ty u)→F5 ty t
 | ar {t e:TypeId} {n s b:Nat} {z:AV}:ty t=some ⟨.array n e,s,b,z⟩→s=n * aH ty e→F5 ty e→F5 ty t
theorem xS (R:AV→Value→Prop):∀ (ss:List Nat) (ps:List (List AV)) (cs:List Value),ps.length=ss.length→cs.length=ss.sum→
 (∀ (i:Nat) (p:List AV) (s:Nat),ps[i]? = some p→ss[i]? = some s→F2 R p ((cs.drop (ss.take i).sum).take s))→F2 R ps.flatten cs
 | [],[],cs,_,hc,_=>by
   have:cs=[]:=List.eq_nil_of_length_eq_zero (by simpa using hc);subst this;exact⟨rfl,fun i x v hx=>by simp at hx⟩
 | s::ss,p::ps,cs,hl,hc,h=>by
   have h0:=h 0 p s rfl rfl;simp only[List.take_zero,List.sum_nil,List.drop_zero] at h0;have hr:=xS R ss ps (cs.drop s) (by simpa using hl) (by simp only[List.sum_cons] at hc;simp only[List.length_drop];omega) (fun i y v hy hv=>by
    have:=h (i+1) y v (by simpa using hy) (by simpa using hv);simp only[List.take_succ_cons,List.sum_cons] at this;rw[List.drop_drop];exact this)
   have:=AF h0 hr;rw[List.take_append_drop] at this;simpa using this
 | [],_::_,_,hl,_,_=>by simp at hl
 | _::_,[],_,hl,_,_=>by simp at hl
theorem F5.size (hT:jA P ty) {t:TypeId} (h:F5 ty t):aH ty t=P.cellsOf t:=by
 cases h with
 | int h=>rw[bW hT h];simp[aH,h]
 | bool h=>rw[bW hT h];simp[aH,h]
 | str h=>rw[bW hT h];simp[aH,h]
 | st h=>rw[bW hT h];simp[aH,h]
 | ar h=>rw[bW hT h];simp[aH,h]
theorem Nr (hT:jA P ty) {t:TypeId} (hp:F5 ty t):∀ (fuel:Nat) (cs:List Value) (x:DataW H × List MemPlace),DataW.trod enc P w 0 spare held fuel t cs=some x→F2 (Rp ty) (n8 x.1) cs:=by
 induction hp with
 | @int t k s b z ht=>
   intro fuel cs x h;obtain⟨n,rfl,rfl,hw⟩:=DataW.trod_int (show P.underlying t=some (.int k) from (hT t _ ht).kind) h;exact sM fun w okb=> .int k n
 | @bool t s b z ht=>
   intro fuel cs x h;obtain⟨n,rfl,rfl⟩:=DataW.trod_bool (show P.underlying t=some .bool from (hT t _ ht).kind) h;exact sM fun w okb=> .bool n
 | @str t s b z ht=>
   intro fuel cs x h;obtain⟨n,rfl,rfl,hw⟩:=DataW.trod_string (show P.underlying t=some .string from (hT t _ ht).kind) h;refine sM fun w okb=>?_
   have:(⟨n.data.toList.toArray⟩:ByteArray)=n:=by simp
   rw[this];exact .str n
 | @st t ts s b z ht hs hu ih=>
   intro fuel cs x h;obtain⟨fds,hk,cS,hfd⟩:=(hT t _ ht).kind;obtain⟨xs,n,_,rfl,nR,hxl,hx⟩:=DataW.trod_struct hk h;have E9:cs.length=(ts.map (aH ty)).sum:=by rw[nR,bW hT ht];exact hs
   simp only[n8,m9,List.map_map];refine xS _ (ts.map (aH ty)) _ cs (by simp;omega) E9 fun i p sz hp ly=>?_
   rw[List.getElem?_map] at hp ly;cases Ui:xs[i]? with
   | none=>rw[Ui] at hp;cases hp
   | some y=>
     rw[Ui] at hp;injection hp with hp;subst hp
     cases hti:ts[i]? with
     | none=>rw[hti] at ly;cases ly
     | some u=>
       rw[hti] at ly;injection ly with ly;subst ly
       have Uh:i < fds.size:=by have:=(List.getElem?_eq_some_iff.1 hti).1;omega
       obtain⟨e1,e2⟩:=hfd i fds[i] (Array.getElem?_eq_getElem Uh);have e3:=hx i fds[i] (Array.getElem?_eq_getElem Uh);rw[hti] at e1;injection e1 with e1
       have nG:u ∈ ts:=List.mem_of_getElem? hti;rw[Ui,e2,← e1,← (hu u nG).size hT] at e3;rw[← List.map_take];exact ih u nG n _ _ e3
 | @ar t e m s b z ht hs he ih=>
   intro fuel cs x h;have hk:P.underlying t=some (.array m e):=(hT t _ ht).kind;cases fuel with
   | zero=>simp[DataW.trod] at h
   | succ n=>
     simp only[DataW.trod,hk] at h;split at h
     ·rename_i hl;obtain⟨xs,hm,rfl⟩:=Option.map_eq_some_iff.1 h;have cS:=he.size hT;have E9:cs.length=m * aH ty e:=by rw[hl,bW hT ht];exact hs
      have hxl:xs.length=m:=by simpa using mapM_some_length hm
      simp only[n8,m9,List.map_map];refine xS _ (List.replicate m (aH ty e)) _ cs (by simp;omega) (by simp[E9]) fun i p sz hp ly=>?_
      rw[List.getElem?_map] at hp;cases Ui:xs[i]? with
      | none=>rw[Ui] at hp;cases hp
      | some y=>
        rw[Ui] at hp;injection hp with hp;subst hp
        have hi:i < m:=by have:=(List.getElem?_eq_some_iff.1 Ui).1;omega
        rw[List.getElem?_replicate,if_pos hi] at ly;injection ly with ly;subst ly
        have e3:=mapM_some_get hm i i (by simp[hi]);rw[Ui,← cS] at e3;rw[List.take_replicate,List.sum_replicate_nat,Nat.min_eq_left (Nat.le_of_lt hi)];exact ih n _ _ e3
     ·cases h
end
end Go.Abs
end
