/- Part of the proof of one statement of this seat: an abstract machine for the program, its contracts, and the statement (no condition of our own). -/
import Derived.RangeFuncIn
import Derived.RangeFuncCalls
import Derived.RangeFuncOwn
import Derived.RangeFuncSeq
import Derived.LoopNIn
import Derived.Scope
import Derived.Deep.Slices
import Derived.Test.YtbdbjpdlcemeaaaDoorDp02
set_option linter.unusedSimpArgs false
set_option linter.unusedVariables false
section
namespace Go.Abs
open Go Go.RowKit
section
variable {P:Program} {E:Env} {w0 w:World} {σ:St} {a:Act} {β:Nat→Option Nat} {o:Oper}
theorem rowsIn_wide {n:Nat} {row:String} {args:Array Value} {R:Value→World→Prop} (h:Rows P row args w R):RowsIn Fence.wide n P row args w R:=
 fun c cs _=>let ⟨v,w',r,s⟩:=h c cs;⟨v,w',r,stepsIn_wide.2 s⟩
theorem upon_round {o:Oper} {next:Act→World→Prop} {Q:Exit→Act→World→Prop} {l n:Nat} {r:Result Next} (h:o.upon P a next Q r):o.uponIn (Fence.wide.inRound l) n P a next Q r:=by
 cases r with
 | ok x w'=>
   cases x with
   | value v=>exact h
   | skip=>exact h
   | defer d=>exact h
   | enter f args=>exact⟨fun hd=>by simp[Fence.wide] at hd,CallsIn.inRound l (callsIn_wide.2 h)⟩
   | row row args=>exact⟨fun hd=>by simp[Fence.wide] at hd,rowsIn_wide h⟩
   | _=>exact h.elim
 | halt s w'=>cases s <;> first | exact h | exact h.elim
theorem wp_round {o:Oper} {next:Act→World→Prop} {Q:Exit→Act→World→Prop} {l n:Nat} (hd:∀ c,o.op ≠ .defer c) (h:o.wp P a w next Q):o.wpIn (Fence.wide.inRound l) n P a w next Q:=by
 refine⟨fun _ _=>trivial,?_⟩;rw[Fence.inRound_round,Oper.semAt_eq _ _ _ hd];exact upon_round h
theorem upon_wide {o:Oper} {next:Act→World→Prop} {Q:Exit→Act→World→Prop} {n:Nat} {r:Result Next} (h:o.upon P a next Q r):o.uponIn Fence.wide n P a next Q r:=by
 cases r with
 | ok x w'=>
   cases x with
   | value v=>exact h
   | skip=>exact h
   | defer d=>exact h
   | enter f args=>exact⟨fun hd=>by simp[Fence.wide] at hd,callsIn_wide.2 h⟩
   | row row args=>exact⟨fun hd=>by simp[Fence.wide] at hd,rowsIn_wide h⟩
   | _=>exact h.elim
 | halt s w'=>cases s <;> first | exact h | exact h.elim
def Easy (P:Program) (F:Fence) (n:Nat):Prop:=(∀ f,F.fn f)∧∀ (o:Oper) (a:Act) (w:World) (next:Act→World→Prop) (Q:Exit→Act→World→Prop),(∀ c,o.op ≠ .defer c)→o.wp P a w next Q→o.wpIn F n P a w next Q
theorem easy_round (l n:Nat):Easy P (Fence.wide.inRound l) n:=⟨fun _=>trivial,fun _ _ _ _ _ hd h=>wp_round hd h⟩
theorem easy_wide (n:Nat):Easy P Fence.wide n:=⟨fun _=>trivial,fun _ _ _ _ _ _ h=>⟨fun _ _=>trivial,upon_wide h⟩⟩
def noDefer:Op→Bool
 | .defer _=>false
 | _=>true
def straight (S:List Nat):Code→Bool
 | .skip=>true
 | .exit _=>true
 | .ret=>true
 | .cond _ x y=>straight S x&&straight S y
 | .region _ ops false=>ops.toList.all fun o=>noDefer o.op&&(match o.dst with | some t=> !S.contains t | none=>true)
 | .seq x y=>straight S x&&straight S y
 | .block _ c=>straight S c
 | _=>false
def Kept (S:List Nat) (a a':Act):Prop:=(∀ t ∈ S,a'.tmps.getD t undef=a.tmps.getD t undef)∧a'.defers=a.defers
theorem Kept.refl (S:List Nat) (a:Act):Kept S a a:=⟨fun _ _=>rfl,rfl⟩
theorem Kept.trans {S:List Nat} {a b c:Act} (h:Kept S a b) (k:Kept S b c):Kept S a c:=⟨fun t ht=>(k.1 t ht).trans (h.1 t ht),k.2.trans h.2⟩
theorem Kept.put {S:List Nat} {a:Act} {d:Option Nat} {v:Value} (hd:(match d with | some t=> !S.contains t | none=>true)=true):Kept S a (a.put d v):=by
 refine⟨fun t ht=>?_,by cases d <;> rfl⟩;cases d with
 | none=>rfl
 | some u=>
   have hne:u ≠ t:=by
    rintro rfl;simp only[Bool.not_eq_true',List.contains_eq_mem,decide_eq_false_iff_not] at hd;exact hd ht
   simp only[Act.put,Array.getD_eq_getD_getElem?];rw[Array.getElem?_setIfInBounds_ne hne]
theorem aopM_kept {S:List Nat} (hdst:(match o.dst with | some t=> !S.contains t | none=>true)=true) (hT:Tabs P E.ty) (hC:CSound P E) (h:Sim E w0 σ a w β) (hG:GlobOk E w0) {ops:Array Oper} {σ':St} (hr:aopM E ops.toList o σ=some σ') {K:Act→World→Prop} {Q:Exit→Act→World→Prop}
 (hK:∀ a' w' β',Sim E w0 σ' a' w' β'→Kept S a a'→K a' w') :
 if Region.wanted o (yielded ops a.tmps) then o.wp P a w K Q else K (a.put o.dst undef) w:=by
 have run:obind (aresM E (o.dst.getD 0) σ o.op) (setRes E σ o.dst)=some σ'→o.wp P a w K Q:=fun hr=>by
  obtain⟨⟨x,ob⟩,h1,h2⟩:=obind_eq hr;refine aresM_goes hT hC h hG h1 K Q fun v w' β' hS hV=>?_
  unfold setRes at h2;split at h2
  ·rename_i t ht;split at h2
   ·rename_i hlt;injection h2 with h2;subst h2
    rw[ht];exact hK _ _ _ (hS.put hlt hV) (by rw[← ht];exact Kept.put hdst)
   ·cases h2
  ·rename_i ht;injection h2 with h2;subst h2
   rw[ht];exact hK _ _ _ hS (by rw[← ht];exact Kept.put hdst)
 unfold aopM at hr;split at hr
 ·rename_i hg;rw[if_pos (by simp[Region.wanted,hg])];exact run hr
 ·rename_i j b hg;split at hr
  ·rename_i t ht;split at hr
   ·rename_i q hq;have hy:yielded ops a.tmps j=some q:=by
     obtain⟨h1,h2⟩:=h.tms t _ hq;have h3:=VR.bool_inv h2;have h4:a.tmps[t]? = some (.bool q):=by
      have:t < a.tmps.size:=by rw[h.size];exact h1
      rw[Array.getD_eq_getD_getElem?] at h3;rw[Array.getElem?_eq_getElem this] at h3 ⊢;simpa using h3
     have h5:(ops[j]?).bind (·.dst)=some t:=by
      unfold dstOf at ht;rw[Array.getElem?_toList] at ht;split at ht
      ·rename_i o' ho';rw[ho'];exact ht
      ·cases ht
     simp[yielded,h5,h4]
    have hw:Region.wanted o (yielded ops a.tmps)=(q==b):=by
     simp[Region.wanted,hg,hy]
    rw[hw];split at hr
    ·rename_i e;subst e;rw[if_pos (by simp)];exact run hr
    ·rename_i e;rw[if_neg (by simpa using e)];unfold setRes at hr;split at hr
     ·rename_i t' ht';split at hr
      ·rename_i hlt;injection hr with hr;subst hr
       rw[ht'];exact hK _ _ _ (h.put hlt ⟨#[],rfl,rfl,fun i x v hx=>by simp at hx⟩) (by rw[← ht'];exact Kept.put hdst)
      ·cases hr
     ·rename_i ht';injection hr with hr;subst hr
      rw[ht'];exact hK _ _ _ h (by rw[← ht'];exact Kept.put hdst)
   ·rename_i hq;have hy:yielded ops a.tmps j=none:=by
     obtain⟨h1,h2⟩:=h.tms t _ hq;obtain⟨vs,h3,h3'⟩:=h2;have h4:a.tmps[t]? = some (.tuple vs):=by
      have:t < a.tmps.size:=by rw[h.size];exact h1
      rw[Array.getD_eq_getD_getElem?] at h3;rw[Array.getElem?_eq_getElem this] at h3 ⊢;simpa using h3
     have h5:(ops[j]?).bind (·.dst)=some t:=by
      unfold dstOf at ht;rw[Array.getElem?_toList] at ht;split at ht
      ·rename_i o' ho';rw[ho'];exact ht
      ·cases ht
     simp[yielded,h5,h4]
    have hw:Region.wanted o (yielded ops a.tmps)=false:=by
     simp[Region.wanted,hg,hy]
    rw[hw,if_neg (by simp)];unfold setRes at hr;split at hr
    ·rename_i t' ht';split at hr
     ·rename_i hlt;injection hr with hr;subst hr
      rw[ht'];exact hK _ _ _ (h.put hlt ⟨#[],rfl,rfl,fun i x v hx=>by simp at hx⟩) (by rw[← ht'];exact Kept.put hdst)
     ·cases hr
    ·rename_i ht';injection hr with hr;subst hr
     rw[ht'];exact hK _ _ _ h (by rw[← ht'];exact Kept.put hdst)
   ·cases hr
  ·cases hr
theorem round_ops (hT:Tabs P E.ty) (hC:CSound P E) (hG:GlobOk E w0) {ops:Array Oper} {Q:Exit→Act→World→Prop} {σ':St} {S:List Nat} {F:Fence} {n:Nat} (hF:Easy P F n) {a0:Act} {tail:List Nat}:∀ (rest:List Oper) (k:Nat) (σ:St) (a:Act) (w:World) (β:Nat→Option Nat),
 (∀ j,j < rest.length→rest[j]? = ops[k+j]?)→(rest.all fun o=>noDefer o.op&&(match o.dst with | some t=> !S.contains t | none=>true))=true→
 aopsM E ops.toList rest σ=some σ'→Sim E w0 σ a w β→Kept S a0 a→(∀ a' w' β',Sim E w0 σ' a' w' β'→Kept S a0 a'→wpOpsIn F n P ops Q tail a' w')→wpOpsIn F n P ops Q (List.range' k rest.length++tail) a w
 | [],k,σ,a,w,β,_,_,hr,h,hs,hQ=>by
   simp[aopsM] at hr;subst hr;simpa using hQ _ _ _ h hs
 | o::rest,k,σ,a,w,β,hl,hall,hr,h,hs,hQ=>by
   simp only[aopsM] at hr;obtain⟨σ1,h1,h2⟩:=obind_eq hr;simp only[List.all_cons,Bool.and_eq_true] at hall;obtain⟨⟨hd,hdst⟩,hrest⟩:=hall;have h0:ops[k]? = some o:=by have:=hl 0 (by simp);simpa using this.symm
   simp only[List.length_cons,List.range'_succ,List.cons_append,wpOpsIn,h0];have key:=aopM_kept (Q:=Q) hdst hT hC h hG (ops:=ops) h1 (K:=wpOpsIn F n P ops Q (List.range' (k+1) rest.length++tail)) fun a' w' β' hS hk=>
    round_ops hT hC hG hF rest (k+1) σ1 a' w' β' (fun j hj=>by have:=hl (j+1) (by simp;omega);rw[List.getElem?_cons_succ] at this;rw[this];congr 1;omega) hrest h2 hS (hs.trans hk) hQ
   have hnd:∀ c,o.op ≠ .defer c:=fun c hc=>by rw[hc] at hd;cases hd
   split
   ·rename_i hw;rw[if_pos hw] at key;exact hF.2 _ _ _ _ _ hnd key
   ·rename_i hw;rw[if_neg hw] at key;exact⟨fun f _=>hF.1 f,key⟩
def RPost (E:Env) (w0:World) (e:AX) (σ':St) (S:List Nat) (a0:Act):Exit→Act→World→Prop:=fun ex a' w'=>ex=exOf e∧(∃ β',Sim E w0 σ' a' w' β')∧Kept S a0 a'
theorem round_sound (hZ:∀ id,E.Z id=[]) (hT:Tabs P E.ty) (hC:CSound P E) (hG:GlobOk E w0) {H:Nat→Hint} {k n:Nat} {S:List Nat} {F:Fence} (hF:Easy P F n):∀ (c:Code) (σ σ':St) (e:AX),straight S c=true→arun E H k c σ=some (e,σ')→
 ∀ (a:Act) (w:World) (β:Nat→Option Nat),Sim E w0 σ a w β→c.wpIn F n P (RPost E w0 e σ' S a) a w:=by
 intro c
 induction c with
 | skip=>
   intro σ σ' e _ hr a w β h;simp only[arun] at hr;injection hr with hr;injection hr with h1 h2;subst h1;subst h2
   exact wpIn_skip ⟨rfl,⟨β,h⟩,.refl _ _⟩
 | exit id=>
   intro σ σ' e _ hr a w β h;simp only[arun] at hr;injection hr with hr;injection hr with h1 h2;subst h1;subst h2
   exact wpIn_exit ⟨rfl,⟨β,h⟩,.refl _ _⟩
 | ret=>
   intro σ σ' e _ hr a w β h;simp only[arun] at hr;injection hr with hr;injection hr with h1 h2;subst h1;subst h2
   exact wpIn_ret ⟨rfl,⟨β,h⟩,.refl _ _⟩
 | cond cc c1 c2 ih1 ih2=>
   intro σ σ' e hs hr a w β h;simp only[straight,Bool.and_eq_true] at hs;simp only[arun] at hr;obtain⟨q,h1,h2⟩:=obind_eq hr;have hq:=val_sound h hG h1;split at h2
   ·rename_i b;refine wpIn_cond (VR.bool_inv hq) ?_;split at h2
    ·rename_i e1;subst e1;exact ih1 σ σ' e hs.1 h2 a w β h
    ·rename_i e1;have:b=false:=by simpa using e1
     subst this;exact ih2 σ σ' e hs.2 h2 a w β h
   ·cases h2
 | region id ops dr=>
   intro σ σ' e hs hr a w β h;cases dr with
   | true=>cases hs
   | false=>
     simp only[arun] at hr;obtain⟨σ1,h1,h2⟩:=obind_eq hr;injection h2 with h2;injection h2 with h2 h3;subst h2;subst h3
     rw[hZ id] at h1;refine wpIn_region ?_;rw[List.range_eq_range'];have:=round_ops (Q:=RPost E w0 .norm (endRegion E σ1) S a) (tail:=[]) hT hC hG hF (ops:=ops) ops.toList 0 _ a w β (fun j _=>by simp) hs h1 (by simpa[St.freeze] using h) (.refl S a) fun a' w' β' hS hk=>
      ⟨rfl,⟨β',hS.less (fun t x hx=>(kept_get _ _ t x (fun _ _ _=>trivial) hx).2) (fun o b hb=>hb)⟩,hk⟩
     simpa using this
 | seq c1 c2 ih1 ih2=>
   intro σ σ' e hs hr a w β h;simp only[straight,Bool.and_eq_true] at hs;simp only[arun] at hr;refine wpIn_seq ?_;rcases then_eq hr with ⟨σ1,h1,h2⟩ | ⟨h1,h2⟩
   ·refine wpIn_mono (ih1 σ σ1 .norm hs.1 h1 a w β h) fun e' a' w' hp=>?_
    obtain⟨he,⟨β',hS⟩,hk⟩:=hp;subst he;exact wpIn_mono (ih2 σ1 σ' e hs.2 h2 a' w' β' hS) fun e2 a2 w2 hp2=>⟨hp2.1,hp2.2.1,hk.trans hp2.2.2⟩
   ·refine wpIn_mono (ih1 σ σ' e hs.1 h1 a w β h) fun e' a' w' hp=>?_
    obtain⟨he,hS,hk⟩:=hp;subst he;cases e with
    | norm=>exact absurd rfl h2
    | exit i=>exact⟨rfl,hS,hk⟩
    | ret=>exact⟨rfl,hS,hk⟩
 | block id c ih=>
   intro σ σ' e hs hr a w β h;simp only[arun] at hr;refine wpIn_block ?_;unfold inBlock at hr;split at hr
   ·rename_i i σ1 h1;refine wpIn_mono (ih σ σ1 (.exit i) hs h1 a w β h) fun e' a' w' hp=>?_
    obtain⟨he,hS,hk⟩:=hp;subst he;simp only[exOf,Exit.inBlock];split at hr
    ·rename_i e1;injection hr with hr;injection hr with h2 h3;subst h2;subst h3
     rw[if_pos e1];exact⟨rfl,hS,hk⟩
    ·rename_i e1;injection hr with hr;injection hr with h2 h3;subst h2;subst h3
     rw[if_neg e1];exact⟨rfl,hS,hk⟩
   ·rename_i hne;refine wpIn_mono (ih σ σ' e hs hr a w β h) fun e' a' w' hp=>?_
    obtain⟨he,hS,hk⟩:=hp;subst he;cases e with
    | norm=>exact⟨rfl,hS,hk⟩
    | exit i=>exact absurd hr (hne i σ')
    | ret=>exact⟨rfl,hS,hk⟩
 | _=>intro σ σ' e hs;cases hs
theorem Sim.ctx {E E':Env} {w0 w0' w:World} {σ σ2:St} {a a2:Act} {β:Nat→Option Nat} (h:Sim E w0 σ a w β) (m:Mono0 (cxOf E w0 σ w β) (cxOf E' w0' σ2 w β)) (hob:σ2.ob=σ.ob) (hn:E'.n=E.n)
 (hnew:∀ o b k,aget o σ.ob=some b→β o=some k→(cxOf E w0 σ w β).new k→(cxOf E' w0' σ2 w β).new k) (hbelow:BelowL (lentOf E') w0'.heap.size w0' w) (hsz:a2.tmps.size=a.tmps.size)
 (hd:Marks w0'.heap.size a2.defers w) (htm:∀ t x,aget t σ2.tm=some x→aget t σ.tm=some x∧a2.tmps.getD t undef=a.tmps.getD t undef):Sim E' w0' σ2 a2 w β where
 below:=hbelow
 size:=by rw[hsz,h.size,hn]
 defers:=hd
 tms:=fun t x hx=>by
  obtain⟨h1,h2⟩:=htm t x hx;obtain⟨h3,h4⟩:=h.tms t x h1;exact⟨by rw[hn];exact h3,by rw[h2];exact m.vr h4 fun _ _=>rfl⟩
 obs:=fun o b ho=>by
  rw[hob] at ho;obtain⟨h1,h2⟩:=h.obs o b ho;refine⟨by rw[m.ty];exact h1,?_⟩;show match β o with | none=>_ | some k=>_
  have h2':match β o with | none=>_ | some k=>_:=h2
  split
  ·rename_i hn;rw[hn] at h2';exact h2'
  ·rename_i k hk;rw[hk] at h2';obtain⟨q,arr,e,h3,h4⟩:=h2';refine⟨hnew o b k ho hk q,arr,e,h3,fun j x hx=>?_⟩;obtain⟨v,h5,h6⟩:=h4 j x hx;exact⟨v,h5,m.cellR h6 fun _ _ _=>rfl⟩
 inj:=fun o o' b b' k h1 h2=>by rw[hob] at h1 h2;exact h.inj o o' b b' k h1 h2
def ownB (σ:St) (β:Nat→Option Nat) (k:Nat):Prop:=∃ o b,aget o σ.ob=some b∧β o=some k
def reE (E:Env) (w0:World) (σ:St) (w:World) (β:Nat→Option Nat):Env:={ E with okA:=fun k=>¬ (cxOf E w0 σ w β).mu k,lent:=ownB σ β,lo:=some w0.heap.size }
theorem own_cells {E:Env} {w0 w:World} {σ:St} {a:Act} {β:Nat→Option Nat} (h:Sim E w0 σ a w β) {k:Nat} (hk:ownB σ β k):∃ arr e,w.heap[k]? = some (.cells arr e (0,0))∧(w0.heap.size≤k∨(E.lent k∧¬ E.okA k)):=by
 obtain⟨o,b,h1,h2⟩:=hk;have:=(h.obs o b h1).blk;simp only[cxOf,h2] at this;obtain⟨q,arr,e,h3,_⟩:=this;exact⟨arr,e,h3,q⟩
theorem Sim.rebase {E:Env} {w0 w:World} {σ:St} {a:Act} {β:Nat→Option Nat} (h:Sim E w0 σ a w β) (hlo:E.lo=none) {tm:Array Value} (htm:tm=a.tmps):Sim (reE E w0 σ w β) w σ { tmps:=tm,defers:=[] } w β:=by
 subst htm;have hs:=h.below.size;refine h.ctx ⟨rfl,?_,Nat.le_refl _,fun b hb _=>⟨fun hmu=>?_,rfl⟩,fun b arr e hb=>⟨arr,hb,rfl⟩⟩ rfl rfl (fun o b k h1 h2 _=> .inr ⟨⟨o,b,h1,h2⟩,fun hok=>hok (.inr ⟨o,b,h1,h2⟩)⟩) (.refl _ _ _) rfl (.nil _ _) fun t x hx=>⟨hx,rfl⟩
 ·show lowOf (some w0.heap.size) w.heap.size=lowOf E.lo w0.heap.size;rw[hlo];simp[lowOf];omega
 ·rcases hmu with ⟨_,h2⟩ | h2
  ·exact h2 hb
  ·exact hb (.inr h2)
theorem keepL_in {α:Type} (l:List (Nat × α)):∀ (ts:List Nat) (t:Nat) (v:α),aget t (keepL l ts)=some v→t ∈ ts
 | [],t,v,h=>by simp[keepL,aget] at h
 | u::r,t,v,h=>by
   simp only[keepL] at h;split at h
   ·simp only[aget] at h;split at h
    ·rename_i e;rw[e];exact List.mem_cons_self ..
    ·exact List.mem_cons_of_mem _ (keepL_in l r t v h)
   ·exact List.mem_cons_of_mem _ (keepL_in l r t v h)
theorem Sim.back {E:Env} {w0 w w':World} {σ σ':St} {a a':Act} {β β':Nat→Option Nat} (h:Sim E w0 σ a w β) (hlo:E.lo=none) (hL:∀ k,¬ E.lent k) (h':Sim (reE E w0 σ w β) w σ' a' w' β')
 {S:List Nat} (hS:keepL σ'.tm S=keepL σ.tm S) (hk:∀ t ∈ S,a'.tmps.getD t undef=a.tmps.getD t undef):Sim E w0 ⟨keepL σ.tm S,σ'.ob⟩ a w' β':=by
 have hs:=h.below.size;have hno:∀ k,k < w0.heap.size→¬ ownB σ β k:=fun k hlt hown=>by
  obtain⟨_,_,_,h1⟩:=own_cells h hown;rcases h1 with h1 | h1
  ·omega
  ·exact hL k h1.1
 have hbl:∀ k,k < w.heap.size→¬ ownB σ β k→w'.heap[k]? = w.heap[k]?:=fun k h1 h2=>h'.below.block k h1 fun hl=>h2 hl.1
 refine h'.ctx ⟨rfl,?_,Nat.le_refl _,fun b hb hlt=>⟨fun hmu=>?_,rfl⟩,fun b arr e hb=>⟨arr,hb,rfl⟩⟩ rfl rfl (fun o b k h1 h2 hn=>?_) ?_ ?_ ?_ fun t x hx=>?_
 ·show lowOf E.lo w0.heap.size=lowOf (some w0.heap.size) w.heap.size;rw[hlo];simp[lowOf];omega
 ·rcases hmu with ⟨h1,h2⟩ | h2
  ·exact hb (.inl ⟨by omega,fun hok=>hok (.inl ⟨h1,h2⟩)⟩)
  ·exact hb (.inr h2)
 ·rcases hn with h3 | h3
  ·exact .inl (by omega)
  ·obtain⟨_,_,_,h4⟩:=own_cells h h3.1;exact h4
 ·exact⟨h'.below.os.trans h.below.os,h'.below.tape.trans h.below.tape,h'.below.output.trans h.below.output,Nat.le_trans hs h'.below.size,
   fun k h1 h2=>(hbl k (by omega) (hno k h1)).trans (h.below.block k h1 h2),
   fun b arr e hb=>by
    obtain⟨arr1,q1,q2⟩:=h.below.rows b arr e hb;obtain⟨arr2,q3,q4⟩:=h'.below.rows b arr1 e q1;exact⟨arr2,q3,q4.trans q2⟩⟩
 ·rw[h.size,h'.size];rfl
 ·exact h.defers.to fun k hk=>by
   rw[hbl k (Array.getElem?_eq_some_iff.1 hk).1 fun hown=>by obtain⟨_,_,h3,_⟩:=own_cells h hown;rw[hk] at h3;cases h3];exact hk
 ·have hx':aget t (keepL σ.tm S)=some x:=hx;have h1:=keepL_in _ _ _ _ hx';have hx2:aget t (keepL σ'.tm S)=some x:=by rw[hS];exact hx'
  exact⟨keepL_get _ _ t x hx2,(hk t h1).symm⟩
end
end Go.Abs
end
section
namespace Go.Abs
open Go Go.RowKit
structure Alike (T:Nat→Prop) (w w':World):Prop where
 os:w'.os=w.os
 tape:w'.tape=w.tape
 output:w'.output=w.output
 size:w.heap.size≤w'.heap.size
 same:∀ (k:Nat) (o:Go.Obj),w.heap[k]? = some o→¬ T k→bookO o=false→w'.heap[k]? = some o
def Iter (P:Program) (ty:Tys) (G:Globs) (gf:Nat) (caps:List AV) (ys:List (List AV)):Prop:=
 ∀ (okA:Nat→Prop) (W0:World) (vs:List Value),F2 (CR1 ty W0 fun _=>okA) caps vs→(∀ g t x,G g=some (t,x)→LR ty W0 okA (.ro false t x) (.pointer (some ⟨g,0,none⟩)))→
 ∀ (l:Nat) (J:Nat→(Nat→Prop)→World→Prop) (Jx:World→Prop) (T0:Nat→Prop),(∀ k,okA k→¬ T0 k)→(∀ k,T0 k→k < W0.heap.size)→
   (∀ i T W W',J i T W→Below W.heap.size W W'→J i T W')→(∀ W W',Jx W→Below W.heap.size W W'→Jx W')→J 0 T0 W0→
   (∀ i y T W ws,ys[i]? = some y→J i T W→F2 (CR1 ty W fun _ b=>(okA b∨W0.heap.size≤b)∧¬ T b) y ws→
     YieldAt Fence.wide 0 P l ws.toArray W fun e W'=>
      (e = .returned (.bool true)∧∃ T',J (i+1) T' W'∧(∀ k,T' k→(T k∨W.heap.size≤k)∧k < W'.heap.size)∧Alike T W W')∨(e = .returned (.bool false)∧Jx W'∧Alike T W W'))→
   CallsIn Fence.wide 0 P gf (#[.func (.yield l) #[] #[]]++vs.toArray) W0 fun e W'=>(∃ v,e = .returned v)∧((∃ T,J ys.length T W')∨Jx W')
section
variable {E:Env} {w0 w:World} {σ:St} {a:Act} {β:Nat→Option Nat}
theorem Sim.reobj (h:Sim E w0 σ a w β) {p:Nat} {b b':Obj} (hp:aget p σ.ob=some b) (hO:ObR (cxOf E w0 σ w β) p b'):Sim E w0 ⟨σ.tm,aput p b' σ.ob⟩ a w β:=by
 have hcx:cxOf E w0 ⟨σ.tm,aput p b' σ.ob⟩ w β=cxOf E w0 σ w β:=by
  unfold cxOf;congr 1
  funext k
  refine propext ⟨fun hk=>hk.imp id fun⟨o,x,h1,h2⟩=>?_,fun hk=>hk.imp id fun⟨o,x,h1,h2⟩=>?_⟩
  ·simp only[aget_aput] at h1;split at h1
   ·rename_i e;subst e;exact⟨p,b,hp,h2⟩
   ·exact⟨o,x,h1,h2⟩
  ·by_cases e:p=o
   ·subst e;exact⟨p,b',by simp[aget_aput],h2⟩
   ·exact⟨o,x,by simp[aget_aput,e,h1],h2⟩
 exact {
  below:=h.below
  size:=h.size
  defers:=h.defers
  tms:=fun t x hx=>by rw[hcx];exact h.tms t x hx
  obs:=fun o x hx=>by
   rw[hcx];simp only[aget_aput] at hx;split at hx
   ·rename_i e;subst e;injection hx with hx;subst hx;exact hO
   ·exact h.obs o x hx
  inj:=fun o o' x x' k h1 h2 k1 k2=>by
   have get:∀ q y,aget q (aput p b' σ.ob)=some y→∃ y',aget q σ.ob=some y':=fun q y hq=>by
    simp only[aget_aput] at hq;split at hq
    ·rename_i e;subst e;exact⟨b,hp⟩
    ·exact⟨y,hq⟩
   obtain⟨y,g1⟩:=get o x h1;obtain⟨y',g2⟩:=get o' x' h2;exact h.inj o o' y y' k g1 g2 k1 k2 }
theorem Sim.boxmove (h:Sim E w0 σ a w β) {p o c:Nat} {u v t:TypeId} {frb fr:Bool} {n:Nat} {es:List AV} (hp:aget p σ.ob=some ⟨.box u,frb,[.own o t 0 n]⟩) (ho:aget o σ.ob=some ⟨.row v,fr,es⟩) (hf:σ.free c=true) (hoc:o ≠ c) (hpo:p ≠ o) (hpc:p ≠ c) :
 ∃ β',Sim E w0 ⟨σ.tm,aput p ⟨.box u,frb,[.own c t 0 n]⟩ (aput c ⟨.row v,fr,es⟩ (adel o σ.ob))⟩ a w β'∧∀ k,ownB ⟨σ.tm,aput p ⟨.box u,frb,[.own c t 0 n]⟩ (aput c ⟨.row v,fr,es⟩ (adel o σ.ob))⟩ β' k→ownB σ β k:=by
 have hM:=h.move (d:=c) (o:=o) hf (b:=⟨.row v,fr,es⟩) (t:=v) rfl ho hoc;have hpM:aget p (aput c ⟨.row v,fr,es⟩ (adel o σ.ob))=some ⟨.box u,frb,[.own o t 0 n]⟩:=by
  rw[aget_aput,if_neg (Ne.symm hpc),aget_adel,if_neg (Ne.symm hpo)];exact hp
 obtain⟨hconf,hblk⟩:=hM.obs p _ hpM;refine⟨_,hM.reobj hpM ⟨?_,?_⟩,fun k hk=>?_⟩
 ·obtain⟨x,hx,hc⟩:=hconf;injection hx with hx;subst hx
  cases hc with
  | leaf h1 h2 h3 h4=>exact⟨_,rfl,.leaf h1 h2 h3 rfl⟩
 ·split
  ·rename_i hn;rw[hn] at hblk;obtain⟨⟨_,q⟩,_⟩:=hblk;cases q
  ·rename_i k hk;rw[hk] at hblk;obtain⟨q1,arr,e,q2,q3⟩:=hblk;refine⟨q1,arr,e,q2,fun j x hx=>?_⟩;have hj:j=0:=by
    have hlt:j < (leavesL [AV.own c t 0 n]).length:=(List.getElem?_eq_some_iff.1 hx).1;simp[leavesL,leaves] at hlt;omega
   subst hj;have hx':AV.own c t 0 n=x:=by simpa[leavesL,leaves] using hx
   subst hx';obtain⟨z,r1,r2⟩:=q3 0 (.own o t 0 n) (by simp[leavesL,leaves]);refine⟨z,r1,?_⟩;show OR _ _ _;have r2:OR _ (.own o t 0 n) z:=r2;cases r2 with
   | cl h1=>cases h1
   | ownN o t g=>
     refine .ownN c t ?_;have g:(if o=c then β o else β o)=none:=g;show (if c=c then β o else β c)=none;simpa using g
   | own o t off n k2 cp arr2 e2 g1 g2 g3 g4=>
     refine .own c t 0 n k2 cp arr2 e2 ?_ g2 g3 g4;have g1:(if o=c then β o else β o)=some k2:=g1;show (if c=c then β o else β c)=some k2;simpa using g1
 ·obtain⟨q,b,h1,h2⟩:=hk;simp only[aget_aput,aget_adel] at h1;simp only at h2;split at h1
  ·rename_i e;subst e;rw[if_neg hpc] at h2;exact⟨p,_,hp,h2⟩
  ·split at h1
   ·rename_i e;subst e;rw[if_pos rfl] at h2;exact⟨o,_,ho,h2⟩
   ·rename_i e1 e2;rw[if_neg (Ne.symm e2)] at h2;split at h1
    ·cases h1
    ·exact⟨q,b,h1,h2⟩
end
def aputT (ps:List Nat) (y:List AV) (tm:List (Nat × AV)):List (Nat × AV):=(ps.zip y).foldl (fun l q=>aput q.1 q.2 l) tm
def RenOk (E:Env) (w0:World) (tm:List (Nat × AV)) (ob ob2:List (Nat × Obj)):Prop:=
 ∀ (a:Act) (w:World) (β:Nat→Option Nat),Sim E w0 ⟨tm,ob⟩ a w β→∃ β',Sim E w0 ⟨tm,ob2⟩ a w β'∧∀ k,ownB ⟨tm,ob2⟩ β' k→ownB ⟨tm,ob⟩ β k
theorem RenOk.refl (E:Env) (w0:World) (tm:List (Nat × AV)) (ob:List (Nat × Obj)):RenOk E w0 tm ob ob:=fun _ _ β h=>⟨β,h,fun _ hk=>hk⟩
inductive Rounds (ren:List (Nat × Obj)→List (Nat × Obj)→Prop) (run:Code→St→AX × St→Prop) (ps:List Nat) (assign body:Code) (S:List Nat) (tm:List (Nat × AV)):List (List AV)→List (Nat × Obj)→AX→List (Nat × Obj)→Prop
 | done (ob:List (Nat × Obj)):Rounds ren run ps assign body S tm [] ob .norm ob
 | goes {y:List AV} {r:List (List AV)} {ob ob2 ob':List (Nat × Obj)} {σ2 σ3:St} {e:AX}:y.length=ps.length→(∀ x ∈ y,oldV x=true)→run assign ⟨aputT ps y tm,ob⟩ (.norm,σ2)→run body σ2 (.norm,σ3)→keepL σ3.tm S=tm→ren σ3.ob ob2→
    Rounds ren run ps assign body S tm r ob2 e ob'→Rounds ren run ps assign body S tm (y::r) ob e ob'
 | stops {y:List AV} {r:List (List AV)} {ob:List (Nat × Obj)} {σ2 σ3:St} {i:Nat}:y.length=ps.length→(∀ x ∈ y,oldV x=true)→run assign ⟨aputT ps y tm,ob⟩ (.norm,σ2)→run body σ2 (.exit i,σ3)→keepL σ3.tm S=tm→
    Rounds ren run ps assign body S tm (y::r) ob (.exit i) σ3.ob
section
variable {P:Program} {E:Env} {w0 w:World} {σ:St} {a:Act} {β:Nat→Option Nat}
theorem fn_inv {c:Cx} {f:FuncId} {cs:List AV} {v:Value} (h:VR c (.fn f cs) v) (hc:closed.closedL cs=true):∃ us:Array Value,v = .func (.func f) #[] us∧us.size=cs.length∧∀ (i:Nat) (x:AV),cs[i]? = some x→LR c.ty c.w (fun b=>¬ c.mu b) x (us.getD i undef):=by
 have h':OR c (.fn f cs) v:=h;cases h' with
 | cl h1=>
   cases h1 with
   | fn f cs us q1 q2=>exact⟨us,rfl,q1,fun i x hx=>(q2 i x hx).mono fun b hb hl=>⟨hb.1,hl,rfl⟩⟩
 | fn f cs us q1 q2=>exact⟨us,rfl,q1,fun i x hx=>((q2 i x hx).lr (closedL_mem hc x (List.mem_of_getElem? hx)) (fr:=false) (fun e=>by cases e)).mono fun b hb hl=>⟨hb.1,hl,rfl⟩⟩
theorem old_vr {c:Cx} {okb:Nat→Prop} {x:AV} {v:Value} (hx1:CR1 c.ty c.w (fun _=>okb) x v) (hold:oldV x=true) (hm:∀ k,okb k→k < c.w.heap.size→¬ c.mu k):VR c x v:=by
 refine VR_one ?_;cases x with
 | st u fs=>obtain⟨us,e,hc,hF⟩:=hx1;exact⟨us,e,hc,hF.1,fun i y z hy hz=>old_or hm (hF.2 i y z hy hz) (old_leaf hc hold y (List.mem_of_getElem? hy))⟩
 | ar u fs=>obtain⟨us,e,hc,hF⟩:=hx1;exact⟨us,e,hc,hF.1,fun i y z hy hz=>old_or hm (hF.2 i y z hy hz) (old_leaf hc hold y (List.mem_of_getElem? hy))⟩
 | tup _=>exact hx1.elim
 | _=>exact old_or hm hx1 hold
theorem Sim.params:∀ (ps:List Nat) (y:List AV) (ws:List Value) (σ:St) (a:Act),Sim E w0 σ a w β→ps.length=y.length→F2 (VR (cxOf E w0 σ w β)) y ws→(∀ p ∈ ps,p < E.n)→
 ∃ σ',σ'.ob=σ.ob∧σ'.tm=aputT ps y σ.tm∧Sim E w0 σ' { a with tmps:=(ps.zip ws).foldl (fun t q=>t.setIfInBounds q.1 q.2) a.tmps } w β
 | [],y,ws,σ,a,h,_,_,_=>⟨σ,rfl,by simp[aputT],by simpa using h⟩
 | p::ps,y,ws,σ,a,h,hl,hv,hp=>by
   cases y with
   | nil=>simp at hl
   | cons x y=>
     cases ws with
     | nil=>exact absurd hv.1 (by simp)
     | cons v ws=>
       have h1:=h.put (hp p (List.mem_cons_self ..)) (hv.2 0 x v rfl rfl);obtain⟨σ',e1,e2,h2⟩:=Sim.params ps y ws ⟨aput p x σ.tm,σ.ob⟩ _ h1 (by simpa using hl) ⟨by simpa using hv.1,fun i x' v' hx hv'=>hv.2 (i+1) x' v' (by simpa using hx) (by simpa using hv')⟩ fun q hq=>hp q (List.mem_cons_of_mem _ hq)
       exact⟨σ',e1,by simpa[aputT] using e2,by simpa[Act.put] using h2⟩
theorem cr1_leaf {ty:Tys} {w:World} {okb:Bool→Nat→Prop} {x:AV} {v:Value} (h:LR ty w (okb (frOf x)) x v):CR1 ty w okb x v:=by
 have:=h.leaf;cases x <;> first | exact h | cases this
theorem Sim.book2 (h:Sim E w0 σ a w β) {l:Nat} {o:Go.Obj} (hl:l < w0.heap.size) (h0:w0.heap[l]? = some o) (h1:w.heap[l]? = some o) (hb:bookO o=true) (o':Go.Obj):Sim E (w0.putObj l o') σ a (w.putObj l o') β:=by
 have hB:=Books.put (w:=w) h1 hb o';have hsz:(w0.putObj l o').heap.size=w0.heap.size:=World.putObj_size;have hcx:cxOf E (w0.putObj l o') σ (w.putObj l o') β=(cxOf E w0 σ w β).at (w.putObj l o'):=by
  simp only[cxOf,Cx.at,hsz]
 exact {
  below:=⟨h.below.os,h.below.tape,h.below.output,by rw[hsz];simpa using h.below.size,fun k hk hL=>by
   rw[hsz] at hk;by_cases e:k=l
   ·subst e;rw[World.putObj_heap_same hk,World.putObj_heap_same (by have:=h.below.size;omega)]
   ·rw[World.putObj_heap_other e,World.putObj_heap_other e];exact h.below.block k hk hL,fun b arr e hk=>by
   by_cases e1:b=l
   ·subst e1;rw[World.putObj_heap_same hl] at hk;exact⟨arr,by rw[World.putObj_heap_same (by have:=h.below.size;omega)];exact hk,rfl⟩
   ·rw[World.putObj_heap_other e1] at hk ⊢;exact h.below.rows b arr e hk⟩
  size:=h.size
  defers:=by
   rw[hsz];refine⟨fun d hd=>?_,h.defers.2⟩;obtain⟨D,q1,q2,q3⟩:=h.defers.1 d hd;exact⟨D,q1,q2,by rw[World.putObj_heap_other (by omega)];exact q3⟩
  tms:=fun t x hx=>⟨(h.tms t x hx).1,by rw[hcx];exact (h.tms t x hx).2.book (c:=cxOf E w0 σ w β) hB⟩
  obs:=fun o b ho=>by rw[hcx];exact (h.obs o b ho).book (c:=cxOf E w0 σ w β) hB
  inj:=h.inj }
theorem kept_params {S:List Nat}:∀ (ps:List Nat) (ws:List Value) (t:Array Value),(∀ p ∈ ps,p ∉ S)→∀ u ∈ S,((ps.zip ws).foldl (fun t q=>t.setIfInBounds q.1 q.2) t).getD u undef=t.getD u undef
 | [],ws,t,_,u,_=>by simp
 | p::ps,[],t,_,u,_=>by simp
 | p::ps,v::ws,t,h,u,hu=>by
   simp only[List.zip_cons_cons,List.foldl_cons];rw[kept_params ps ws _ (fun q hq=>h q (List.mem_cons_of_mem _ hq)) u hu];have hne:p ≠ u:=by rintro rfl;exact h p (List.mem_cons_self ..) hu
   simp only[Array.getD_eq_getD_getElem?,Array.getElem?_setIfInBounds_ne hne]
theorem reE_glob (hG:GlobOk E w0) (h:Sim E w0 σ a w β) {w2:World} (hb:Books w w2):GlobOk (reE E w0 σ w β) w2:=fun g t x hg=>by
 have:=(h.old (hG g t x hg)).book hb;exact this.mono fun b hb2 hl=>⟨hb2.1,hl,rfl⟩
def Left (E:Env) (w0:World) (tm:List (Nat × AV)) (a:Act) (ob ob':List (Nat × Obj)) (β:Nat→Option Nat) (W W':World):Prop:=
 ∃ β',Sim E w0 ⟨tm,ob'⟩ a W' β'∧(∀ k,ownB ⟨tm,ob'⟩ β' k→(ownB ⟨tm,ob⟩ β k∨W.heap.size≤k)∧k < W'.heap.size)∧Alike (ownB ⟨tm,ob⟩ β) W W'
theorem one_round (hZ:∀ id,E.Z id=[]) (hT:Tabs P E.ty) (hC:CSound P E) (hG:GlobOk E w0) (hlo:E.lo=none) (hL:∀ k,¬ E.lent k) {H:Nat→Hint} {k:Nat} {S:List Nat} {tm:List (Nat × AV)} {ob:List (Nat × Obj)} {W:World} (hid:keepL tm S=tm)
 (h:Sim E w0 ⟨tm,ob⟩ a W β) {l:Nat} {R:Loop} (hR:W.heap[l]? = some (.loop R)) (hready:R.state = .ready) (hl0:w0.heap.size≤l) (hRt:R.tmps=a.tmps)
 {y:List AV} {ws:List Value} {okb:Nat→Prop} (hyl:y.length=R.params.size) (hold:∀ x ∈ y,oldV x=true) (hy:F2 (CR1 E.ty W fun _=>okb) y ws) (hok:∀ b,okb b→b < W.heap.size→¬ (cxOf E w0 ⟨tm,ob⟩ W β).mu b)
 (hps:∀ p ∈ R.params.toList,p < E.n∧p ∉ S) (hsa:straight S R.assign=true) (hsb:straight S R.body=true) {σ2 σ3:St} {e:AX} (he:e = .norm∨∃ i,e = .exit i)
 (hra:∀ A lo L,arun { E with okA:=A,lo:=lo,lent:=L } H k R.assign ⟨aputT R.params.toList y tm,ob⟩=some (.norm,σ2)) (hrb:∀ A lo L,arun { E with okA:=A,lo:=lo,lent:=L } H k R.body σ2=some (e,σ3)) (hke:keepL σ3.tm S=tm) :
 YieldAt Fence.wide 0 P l ws.toArray W fun en W'=>∃ jump,en = .returned (.bool jump.isNone)∧(match e with | .exit i=>jump=some (.exit i) | _=>jump=none)∧
  W'.heap[l]? = some (.loop { R with state:=if jump.isNone then .ready else .done,pending:=jump })∧Left E w0 tm a ob σ3.ob β W W':=by
 have hlt:l < W.heap.size:=(Array.getElem?_eq_some_iff.1 hR).1;have hwl:ws.length=R.params.size:=by rw[← hyl];exact hy.1.symm
 refine⟨R.fn,_,R.assign,R.body,run_yield hR (by simpa using hwl),?_⟩;have hnl:¬ ownB ⟨tm,ob⟩ β l:=fun ho=>by obtain⟨_,_,h3,_⟩:=own_cells h ho;rw[hR] at h3;cases h3
 have hnl':¬ lentOf (reE E w0 ⟨tm,ob⟩ W β) l:=fun ho=>hnl ho.1
 have hB0:=h.rebase hlo (tm:=R.tmps) hRt;have hC':CSound P (reE E w0 ⟨tm,ob⟩ W β):=⟨hC.c,hC.m⟩
 have hyv:F2 (VR (cxOf (reE E w0 ⟨tm,ob⟩ W β) W ⟨tm,ob⟩ W β)) y ws:=⟨hy.1,fun i x v hx hv=>old_vr (c:=cxOf (reE E w0 ⟨tm,ob⟩ W β) W ⟨tm,ob⟩ W β) (hy.2 i x v hx hv) (hold x (List.mem_of_getElem? hx)) fun b hb hlt hmu=>by
  rcases hmu with ⟨_,h2⟩ | h2
  ·exact h2 (hok b hb hlt)
  ·exact hok b hb hlt (.inr h2)⟩
 obtain⟨σp,e1,e2,hP⟩:=hB0.params R.params.toList y ws _ _ (by simpa using hyl.symm) hyv (fun p hp=>(hps p hp).1);have hσp:σp=⟨aputT R.params.toList y tm,ob⟩:=by cases σp;simp only at e1 e2;rw[e1,e2]
 subst hσp;have hfold:(R.params.zip ws.toArray).foldl (fun tmps (t,a)=>tmps.setIfInBounds t a) R.tmps=(R.params.toList.zip ws).foldl (fun t q=>t.setIfInBounds q.1 q.2) R.tmps:=by
  rw[← Array.foldl_toList,Array.toList_zip]
 rw[hfold];refine roundIn_of_wpIn trivial (wpIn_mono (round_sound (E:=reE E w0 ⟨tm,ob⟩ W β) (S:=S) hZ hT hC' (reE_glob hG h (.refl W)) (easy_round l 0) R.assign _ σ2 .norm hsa (hra _ _ _) _ W β hP) fun ex a2 W2 hp=>?_);obtain⟨hex,⟨β2,hS2⟩,hk2⟩:=hp;subst hex;have hl2:W2.heap[l]? = some (.loop R):=(hS2.below.block l hlt hnl').trans hR;refine⟨_,run_beginRound hl2 hready,?_⟩;have hS3:=hS2.book2 hlt hR hl2 rfl (.loop { R with state:= .busy });have hBk:=Books.put (w:=W) hR rfl (.loop { R with state:= .busy });refine wpIn_mono (round_sound (E:=reE E w0 ⟨tm,ob⟩ W β) (S:=S) hZ hT hC' (reE_glob hG h hBk) (easy_round l 0) R.body σ2 σ3 e hsb (hrb _ _ _) a2 _ β2 hS3) fun ex a4 W4 hp=>?_
 obtain⟨hex,⟨β4,hS4⟩,hk4⟩:=hp;subst hex;have hlt1:l < (W.putObj l (.loop { R with state:= .busy })).heap.size:=by simpa using hlt
 have hR1:(W.putObj l (.loop { R with state:= .busy })).heap[l]? = some (.loop { R with state:= .busy }):=World.putObj_heap_same hlt;have hl4:W4.heap[l]? = some (.loop { R with state:= .busy }):=(hS4.below.block l hlt1 hnl').trans hR1;have hkk:∀ u ∈ S,a4.tmps.getD u undef=a.tmps.getD u undef:=fun u hu=>by
  rw[(hk2.trans hk4).1 u hu];show ((R.params.toList.zip ws).foldl (fun t q=>t.setIfInBounds q.1 q.2) R.tmps).getD u undef=_;rw[kept_params _ _ _ (fun p hp=>(hps p hp).2) u hu,hRt]
 have key:∀ (o5:Go.Obj),bookO o5=true→Left E w0 tm a ob σ3.ob β W (W4.putObj l o5):=fun o5 ho5=>by
  have hS5:=hS4.book2 hlt1 hR1 hl4 rfl o5;have hBB:Books W ((W.putObj l (.loop { R with state:= .busy })).putObj l o5):=hBk.trans (Books.put hR1 rfl o5);have hh:=h.book hBB (fun k hk=>by rw[World.putObj_heap_other (by omega),World.putObj_heap_other (by omega)]) (ds:=a.defers) (h.defers.to fun k hk=>by
   have hne:k ≠ l:=by rintro rfl;rw[hR] at hk;cases hk
   rw[World.putObj_heap_other hne,World.putObj_heap_other hne];exact hk)
  have hback:=Sim.back (S:=S) hh hlo hL hS5 (by rw[hke,hid]) hkk;rw[hid] at hback;refine⟨β4,hback,fun k hk=>?_,?_⟩
  ·obtain⟨arr,e',q1,q2⟩:=own_cells hS5 hk;refine⟨?_,(Array.getElem?_eq_some_iff.1 q1).1⟩;rcases q2 with q2 | q2
   ·exact .inr (by simpa using q2)
   ·exact .inl q2.1
  ·refine⟨hS5.below.os,hS5.below.tape,hS5.below.output,by have:=hS5.below.size;simpa using this,fun k o hk hT ho=>?_⟩;have hne:k ≠ l:=by rintro rfl;rw[hR] at hk;cases hk;cases ho
   rw[hS5.below.block k (by simpa using (Array.getElem?_eq_some_iff.1 hk).1) fun hh=>hT hh.1,World.putObj_heap_other hne,World.putObj_heap_other hne];exact hk
 rcases he with rfl | ⟨i,rfl⟩
 ·exact⟨_,_,run_endRound none hl4,none,rfl,rfl,by rw[World.putObj_heap_same (Array.getElem?_eq_some_iff.1 hl4).1],key _ rfl⟩
 ·exact⟨_,_,run_endRound (some (.exit i)) hl4,some (.exit i),rfl,rfl,by rw[World.putObj_heap_same (Array.getElem?_eq_some_iff.1 hl4).1],key _ rfl⟩
end
end Go.Abs
end
section
namespace Go.Abs
open Go Go.RowKit
variable {P:Program} {E:Env} {w0 w:World} {σ:St} {a:Act} {β:Nat→Option Nat}
theorem range_law (hZ:∀ id,E.Z id=[]) (hT:Tabs P E.ty) (hC:CSound P E) (hG:GlobOk E w0) (hlo:E.lo=none) (hL:∀ k,¬ E.lent k) {H:Nat→Hint} {k:Nat} {S:List Nat} {tm:List (Nat × AV)} (hid:keepL tm S=tm)
 {gf:Nat} {caps:List AV} {ys:List (List AV)} (hit:Iter P E.ty E.G gf caps ys) (hcl:closed.closedL caps=true) (eg:∀ args w,(callFunc gf args).run P w = .ok (.enter gf args) w)
 (h:Sim E w0 σ a w β) (htm:keepL σ.tm S=tm) {g:Operand} (hg:σ.val E.G g=some (.fn gf caps)) {ps:Array Tmp} {assign body:Code} (hps:∀ p ∈ ps.toList,p < E.n∧p ∉ S) (hsa:straight S assign=true) (hsb:straight S body=true)
 {ren:List (Nat × Obj)→List (Nat × Obj)→Prop} (hren:∀ ob ob2,ren ob ob2→RenOk E w0 tm ob ob2) {e:AX} {ob':List (Nat × Obj)} (hr:Rounds ren (fun c σ r=>∀ A lo L,arun { E with okA:=A,lo:=lo,lent:=L } H k c σ=some r) ps.toList assign body S tm ys σ.ob e ob') :
 (Code.rangeFunc g ps assign body).wpIn Fence.wide 0 P (fun ex a' w'=>ex=exOf e∧∃ β',Sim E w0 ⟨tm,ob'⟩ a' w' β') a w:=by
 obtain⟨us,hev,hus,hcap⟩:=fn_inv (val_sound h hG hg) hcl;refine wpIn_rangeFunc ?_;intro fn _;obtain⟨rec,hrec⟩:∃ rec:LoopState→Option Code→Loop,rec=fun st pe=>{ state:=st,pending:=pe,fn,tmps:=a.tmps,params:=ps,assign,body,defers:=w.heap.size }:=⟨_,rfl⟩
 obtain⟨W1,hW1⟩:∃ W1,(w.alloc (.deferred (some []))).alloc (.loop (rec .ready none))=W1:=⟨_,rfl⟩
 have hL1:W1.heap[w.heap.size+1]? = some (.loop (rec .ready none)):=by
  rw[← hW1];have:=World.alloc_heap_new (w.alloc (.deferred (some []))) (.loop (rec .ready none));rwa [World.size_alloc] at this
 have hK1:W1.heap[w.heap.size]? = some (.deferred (some [])):=by
  rw[← hW1];exact (Below.heap_alloc _ _ _ (by simp)).trans (World.alloc_heap_new w _)
 have hb1:Below w.heap.size w W1:=by
  rw[← hW1];exact ((Below.refl _ w).alloc (Nat.le_refl _) _).alloc (by simp) _
 have hsz:=h.below.size;have hds:Marks w0.heap.size ({ target:= .collected w.heap.size,args:=#[] }::a.defers) W1:=by
  have hm:=h.defers.below hb1;refine⟨fun d hd=>?_,List.pairwise_cons.2 ⟨fun d hd e=>?_,hm.2⟩⟩
  ·rcases List.mem_cons.1 hd with rfl | hd
   ·exact⟨_,rfl,hsz,hK1⟩
   ·exact hm.1 d hd
  ·obtain⟨D,q1,q2,q3⟩:=h.defers.1 d hd;rw[q1] at e;injection e with e1 e2
   injection e1 with e1
   rw[← e1] at q3;have:=(Array.getElem?_eq_some_iff.1 q3).1;omega
 obtain⟨aM,haM⟩:∃ aM:Act,({ a with defers:={ target:= .collected w.heap.size,args:=#[] }::a.defers }:Act)=aM:=⟨_,rfl⟩
 have haMt:aM.tmps=a.tmps:=by rw[← haM]
 have hS1:Sim E w0 ⟨tm,σ.ob⟩ aM W1 β:=by
  have h0:Sim E w0 ⟨tm,σ.ob⟩ a w β:=h.less (fun t x hx=>by rw[← htm] at hx;exact keepL_get _ _ t x hx) (fun o b hb=>hb);rw[← haM];exact h0.book (Books.below hb1) (fun k hk=>hb1.block k (by omega)) hds
 refine⟨w.heap.size+1,[{ target:= .collected w.heap.size,args:=#[] }],W1,{ target:= .fn (.func gf) us,args:=#[.func (.yield (w.heap.size+1)) #[] #[]] },W1,gf,
  #[.func (.yield (w.heap.size+1)) #[] #[]]++us,W1,?_,?_,fun _ _=>trivial,?_,fun hd=>by simp[Fence.wide] at hd,?_⟩
 ·rw[← hW1,hrec];exact run_enterLoop_outer _ _ _ _ _
 ·simp only[resolve,hev];simp[go_sem]
 ·simp[invoke,go_sem,eg]
 ·
  have hl0:w0.heap.size≤w.heap.size+1:=by omega
  have hcs:F2 (CR1 E.ty W1 fun _ b=>¬ (cxOf E w0 σ w β).mu b) caps us.toList:=by
   refine⟨by simp[hus],fun i x v hx hv=>?_⟩;have:=hcap i x hx;have hi:us.getD i undef=v:=by
    rw[Array.getD_eq_getD_getElem?,← Array.getElem?_toList,hv];rfl
   rw[hi] at this;exact cr1_leaf (this.book (Books.below hb1))
  have hgl:∀ g t x,E.G g=some (t,x)→LR E.ty W1 (fun b=>¬ (cxOf E w0 σ w β).mu b) (.ro false t x) (.pointer (some ⟨g,0,none⟩)):=fun g t x hg=>
   ((h.old (hG g t x hg)).book (Books.below hb1)).mono fun b hb hl=>⟨hb.1,hl,rfl⟩
  have hown:∀ (ob:List (Nat × Obj)) (β':Nat→Option Nat) (W:World) (a':Act),Sim E w0 ⟨tm,ob⟩ a' W β'→∀ b,((¬ (cxOf E w0 σ w β).mu b∨W1.heap.size≤b)∧¬ ownB ⟨tm,ob⟩ β' b)→b < W.heap.size→¬ (cxOf E w0 ⟨tm,ob⟩ W β').mu b:=fun ob β' W a' _ b hb _ hmu=>by
   rcases hmu with ⟨q1,q2⟩ | q2
   ·rcases hb.1 with q3 | q3
    ·exact q3 (.inl ⟨q1,q2⟩)
    ·have:=hb1.size;omega
   ·exact hb.2 q2
  have hyield:#[Value.func (.yield (w.heap.size+1)) #[] #[]]++us = #[Value.func (.yield (w.heap.size+1)) #[] #[]]++us.toList.toArray:=by simp
  rw[hyield];refine CallsIn.mono (hit (fun b=>¬ (cxOf E w0 σ w β).mu b) W1 us.toList hcs hgl (w.heap.size+1)
   (fun i T W=>∃ ob β',Rounds ren (fun c σ r=>∀ A lo L,arun { E with okA:=A,lo:=lo,lent:=L } H k c σ=some r) ps.toList assign body S tm (ys.drop i) ob e ob'∧Sim E w0 ⟨tm,ob⟩ aM W β'∧T=ownB ⟨tm,ob⟩ β'∧W.heap[w.heap.size+1]? = some (.loop (rec .ready none)))
   (fun W=>∃ β' i,e = .exit i∧Sim E w0 ⟨tm,ob'⟩ aM W β'∧W.heap[w.heap.size+1]? = some (.loop (rec .done (some (.exit i)))))
   (ownB ⟨tm,σ.ob⟩ β) (fun k hk ho=>hk (.inr ho)) (fun k hk=>by obtain⟨_,_,h3,_⟩:=own_cells hS1 hk;exact (Array.getElem?_eq_some_iff.1 h3).1) ?_ ?_ ⟨σ.ob,β,by simpa using hr,hS1,rfl,hL1⟩ ?_) ?_
  ·rintro i T W W' ⟨ob,β',q1,q2,q3,q4⟩ hb;exact⟨ob,β',q1,q2.grow hb,q3,by rw[hb.block _ (Array.getElem?_eq_some_iff.1 q4).1];exact q4⟩
  ·rintro W W' ⟨β',i,q1,q2,q3⟩ hb;exact⟨β',i,q1,q2.grow hb,by rw[hb.block _ (Array.getElem?_eq_some_iff.1 q3).1];exact q3⟩
  ·rintro i y T W ws hy ⟨ob,β',q1,q2,rfl,q4⟩ hws;have hd:ys.drop i=y::ys.drop (i+1):=by
    obtain⟨hi,e⟩:=List.getElem?_eq_some_iff.1 hy;rw[List.drop_eq_getElem_cons hi,e]
   rw[hd] at q1;cases q1 with
   | goes g1 g2 g3 g4 g5 g7 g6=>
     have:=one_round hZ hT hC hG hlo hL hid q2 q4 (by rw[hrec]) hl0 (by rw[hrec];exact haMt.symm) (y:=y) (ws:=ws) (by rw[hrec];simpa using g1) g2 hws (hown ob β' W aM q2) (by rw[hrec];exact hps) (by rw[hrec];exact hsa) (by rw[hrec];exact hsb) (e:= .norm) (.inl rfl)
      (by rw[hrec];exact g3) (by rw[hrec];exact g4) g5
     obtain⟨fn',tmps,az,bd,hyd,hR⟩:=this;refine⟨fn',tmps,az,bd,hyd,hR.mono fun en W' hq=>?_⟩;obtain⟨jump,rfl,hj,hrl,β2,hS2,ho2,hA2⟩:=hq;subst hj;obtain⟨β3,hS3,ho3⟩:=hren _ _ g7 _ _ _ hS2;exact .inl ⟨rfl,_,⟨_,β3,g6,hS3,rfl,by rw[hrl,hrec];rfl⟩,fun k hk=>ho2 k (ho3 k hk),hA2⟩
   | stops g1 g2 g3 g4 g5=>
     rename_i σ2 σ3 i2;have:=one_round hZ hT hC hG hlo hL hid q2 q4 (by rw[hrec]) hl0 (by rw[hrec];exact haMt.symm) (y:=y) (ws:=ws) (by rw[hrec];simpa using g1) g2 hws (hown ob β' W aM q2) (by rw[hrec];exact hps) (by rw[hrec];exact hsa) (by rw[hrec];exact hsb) (e:= .exit i2) (.inr ⟨_,rfl⟩)
      (by rw[hrec];exact g3) (by rw[hrec];exact g4) g5
     obtain⟨fn',tmps,az,bd,hyd,hR⟩:=this;refine⟨fn',tmps,az,bd,hyd,hR.mono fun en W' hq=>?_⟩;obtain⟨jump,rfl,hj,hrl,β2,hS2,ho2,hA2⟩:=hq;subst hj;exact .inr ⟨rfl,⟨β2,i2,rfl,hS2,by rw[hrl,hrec];rfl⟩,hA2⟩
  ·rintro en W' ⟨⟨v,rfl⟩,hq⟩;rcases hq with ⟨T,ob,β',q1,q2,_,q4⟩ | ⟨β',i,rfl,q2,q4⟩
   ·rw[List.drop_length] at q1;cases q1;have hend:=run_endLoop (P:=P) q4 (by rw[hrec];simp);have hpe:(rec .ready none).pending=none:=by rw[hrec]
    rw[hpe] at hend;refine⟨none,_,hend,?_⟩;refine⟨rfl,β',?_⟩;have:=q2.book (ds:=aM.defers) (Books.put q4 rfl (.loop { rec .ready none with state:= .exhausted })) (fun k hk=>World.putObj_heap_other (by omega)) (q2.defers.to fun k hk=>by
     have hne:k ≠ w.heap.size+1:=by rintro rfl;rw[q4] at hk;cases hk
     rw[World.putObj_heap_other hne];exact hk)
    rw[List.singleton_append,haM];simp only[hpe] at this;exact this
   ·have hend:=run_endLoop (P:=P) q4 (by rw[hrec];simp);have hpe:(rec .done (some (.exit i))).pending=some (.exit i):=by rw[hrec]
    rw[hpe] at hend;refine⟨some (.exit i),_,hend,?_⟩;refine wpIn_exit ⟨rfl,β',?_⟩;have:=q2.book (ds:=aM.defers) (Books.put q4 rfl (.loop { rec .done (some (.exit i)) with state:= .exhausted })) (fun k hk=>World.putObj_heap_other (by omega)) (q2.defers.to fun k hk=>by
     have hne:k ≠ w.heap.size+1:=by rintro rfl;rw[q4] at hk;cases hk
     rw[World.putObj_heap_other hne];exact hk)
    rw[List.singleton_append,haM];simp only[hpe] at this;exact this
end Go.Abs
end
section
namespace Go.Abs
open Go Go.RowKit
theorem LR.alike {ty:Tys} {w w':World} {T okb:Nat→Prop} {x:AV} {v:Value} (h:LR ty w okb x v) (hA:Alike T w w') (hd:∀ b,okb b→¬ T b):LR ty w' okb x v:=by
 have hc:∀ {a:Addr} {v:Value},okb a.block→w.cell? a=some v→w'.cell? a=some v:=fun {a v} hb hc=>by
  have:∃ o:Go.Obj,w.heap[a.block]? = some o∧bookO o=false:=by
   unfold World.cell? at hc;cases ho:w.heap[a.block]? with
   | none=>simp[ho] at hc
   | some o=>exact⟨o,rfl,by cases o <;> simp_all [bookO]⟩
  obtain⟨o,h1,h2⟩:=this;rw[← hc];exact World.cell?_of_block ((hA.same _ o h1 (hd _ hb) h2).trans h1.symm)
 induction h with
 | int k n=>exact .int k n
 | bool b=>exact .bool b
 | str s=>exact .str s
 | pnil=>exact .pnil
 | fnil=>exact .fnil
 | fn f cs us h1 _ ih=>exact .fn f cs us h1 ih
 | slN t fl c h1 h2=>exact .slN t fl c h1 h2
 | sl t fl es blk off c vs h1 h2 h3 h4 h5 h6 h7 ih=>
   exact .sl t fl es blk off c vs h1 h2 h3 (fun hne=>⟨(h4 hne).1,Nat.lt_of_lt_of_le (h4 hne).2 hA.size⟩) h5 (fun j y hy=>hc (h4 (by rintro rfl;simp[leavesL] at hy)).1 (h6 j y hy)) ih
 | ro fr t x blk off vs h1 h2 h3 h4 h5 ih=>exact .ro fr t x blk off vs h1 (Nat.lt_of_lt_of_le h2 hA.size) h3 (fun j y hy=>hc h1 (h4 j y hy)) ih
 | mpN t=>exact .mpN t
 | mp t ks fs blk es cl h1 h2 h3 h3' h4 h5 h6=>exact .mp t ks fs blk es cl h1 (Nat.lt_of_lt_of_le h2 hA.size) h3 h3' (hA.same _ _ h4 (hd _ h1) rfl) h5 h6
structure Wk (n:Nat) (ty:Tys) (G:Globs) (okA:Nat→Prop) (B:Nat) (J:Nat→(Nat→Prop)→World→Prop) (T0:Nat→Prop) (cap:AV) (yv u:Value) (i:Nat) (a:Act) (W:World):Prop where
 j:∃ T,J i T W∧∀ k,T k→(T0 k∨B≤k)∧k < W.heap.size
 low:B≤W.heap.size
 cap:LR ty W okA cap u
 glob:∀ g t x,G g=some (t,x)→LR ty W okA (.ro false t x) (.pointer (some ⟨g,0,none⟩))
 size:a.tmps.size=n
 defers:a.defers=[]
 t0:a.tmps.getD 0 undef=yv
 t1:a.tmps.getD 1 undef=u
theorem aget_memI {α:Type} {t:Nat} {x:α}:∀ {l:List (Nat × α)},aget t l=some x→(t,x) ∈ l
 | [],h=>by simp[aget] at h
 | (u,y)::r,h=>by
   simp only[aget] at h;split at h
   ·rename_i e;injection h with h;subst h;subst e;exact List.mem_cons_self ..
   ·exact List.mem_cons_of_mem _ (aget_memI h)
def Holds (a:Act) (p:Nat × AV):Prop:=(∃ n,p.2 = .int .i64 n∧a.tmps.getD p.1 undef = .int .i64 n)∨∃ b,p.2 = .bool b∧a.tmps.getD p.1 undef = .bool b
section
variable {P:Program} {E:Env} {okA T0:Nat→Prop} {B:Nat} {J:Nat→(Nat→Prop)→World→Prop} {ft:TypeId} {cx:AV} {yv u:Value} {i:Nat} {a:Act} {W:World}
theorem Wk.sim (hw:Wk E.n E.ty E.G okA B J T0 (.ro false ft cx) yv u i a W) (hok:E.okA=okA) (h2:2≤E.n) {l:List (Nat × AV)} (hl:∀ p ∈ l,p.1 < E.n∧Holds a p):Sim E W ⟨(0,.undef)::(1,.ro false ft cx)::l,[]⟩ a W (fun _=>none) where
 below:= .refl _ _ _
 size:=hw.size
 defers:=by rw[hw.defers];exact .nil _ _
 tms:=fun t x hx=>by
  have hm:=aget_memI hx;rcases List.mem_cons.1 hm with h | hm
  ·injection h with h1 h2;subst h1;subst h2
   exact⟨by omega,.undef _⟩
  ·rcases List.mem_cons.1 hm with h | hm
   ·injection h with h1 h2;subst h1;subst h2
    refine⟨by omega,?_⟩;rw[hw.t1];refine VR_one ?_;show OR _ _ _;refine .cl (hw.cap.mono fun b hb hl=>⟨⟨fun hmu=>?_,fun hf=>by cases hf⟩,hl,rfl⟩);rcases hmu with ⟨_,q⟩ | ⟨_,_,q,_⟩
    ·rw[hok] at q;exact q hb
    ·simp[aget] at q
   ·obtain⟨h1,h2⟩:=hl _ hm;refine⟨h1,?_⟩;rcases h2 with ⟨n,q1,q2⟩ | ⟨b,q1,q2⟩
    ·simp only at q1 q2;rw[q1,q2];exact OR.cl (.int _ _)
    ·simp only at q1 q2;rw[q1,q2];exact OR.cl (.bool _)
 obs:=fun o b hb=>by simp[aget] at hb
 inj:=fun o o' b b' k h1=>by simp[aget] at h1
theorem Wk.piece (hw:Wk E.n E.ty E.G okA B J T0 (.ro false ft cx) yv u i a W) (hJ:∀ i T W W',J i T W→Below W.heap.size W W'→J i T W') (hok:E.okA=okA) (h2:2≤E.n) (hZ:∀ id,E.Z id=[]) (hT:Tabs P E.ty) (hC:CSound P E) (hL:∀ k,¬ E.lent k)
 {l:List (Nat × AV)} (hl:∀ p ∈ l,p.1 < E.n∧Holds a p) {H:Nat→Hint} {k:Nat} {c:Code} {σ':St} {e:AX} (hs:straight [0,1] c=true) (hev:arun E H k c ⟨(0,.undef)::(1,.ro false ft cx)::l,[]⟩=some (e,σ')) :
 c.wpIn Fence.wide 0 P (fun ex a' W'=>ex=exOf e∧Wk E.n E.ty E.G okA B J T0 (.ro false ft cx) yv u i a' W'∧W.heap.size≤W'.heap.size∧∃ β',Sim E W σ' a' W' β') a W:=by
 have hS:=hw.sim hok h2 hl;have hG:GlobOk E W:=fun g t x hg=>by rw[hok];exact hw.glob g t x hg
 refine wpIn_mono (round_sound hZ hT hC hG (easy_wide 0) c _ σ' e hs hev a W _ hS) fun ex a' W' hp=>?_
 obtain⟨hex,⟨β',hS'⟩,hk⟩:=hp;have hb:Below W.heap.size W W':=hS'.below.plain fun k hk=>hL k hk.1
 obtain⟨T,q1,q2⟩:=hw.j;refine⟨hex,⟨⟨T,hJ i T W W' q1 hb,fun k hk=>⟨(q2 k hk).1,Nat.lt_of_lt_of_le (q2 k hk).2 hb.size⟩⟩,Nat.le_trans hw.low hb.size,hw.cap.book (Books.below hb),fun g t x hg=>(hw.glob g t x hg).book (Books.below hb),
  hS'.size,hk.2.trans hw.defers,(hk.1 0 (by simp)).trans hw.t0,(hk.1 1 (by simp)).trans hw.t1⟩,hb.size,β',hS'⟩
theorem Wk.next (hw:Wk E.n E.ty E.G okA B J T0 (.ro false ft cx) yv u i a W) (hJ:∀ i T W W',J i T W→Below W.heap.size W W'→J i T W') (hL:∀ k,¬ E.lent k) {σ':St} {a':Act} {W':World} {β':Nat→Option Nat} (hS':Sim E W σ' a' W' β') (hk:Kept [0,1] a a') :
 Wk E.n E.ty E.G okA B J T0 (.ro false ft cx) yv u i a' W':=by
 have hb:Below W.heap.size W W':=hS'.below.plain fun k hk=>hL k hk.1
 obtain⟨T,q1,q2⟩:=hw.j;exact⟨⟨T,hJ i T W W' q1 hb,fun k hk=>⟨(q2 k hk).1,Nat.lt_of_lt_of_le (q2 k hk).2 hb.size⟩⟩,Nat.le_trans hw.low hb.size,hw.cap.book (Books.below hb),fun g t x hg=>(hw.glob g t x hg).book (Books.below hb),
  hS'.size,hk.2.trans hw.defers,(hk.1 0 (by simp)).trans hw.t0,(hk.1 1 (by simp)).trans hw.t1⟩
theorem vr_cr1 {c:Cx} {x:AV} {v:Value} {okb:Nat→Prop} (h:VR c x v) (hc:closed x=true) (hx:noTup x=true) (hok:∀ b,¬ c.mu b→b < c.w.heap.size→okb b):CR1 c.ty c.w (fun _=>okb) x v:=by
 have h1:=h.one1 hx;cases x with
 | st t fs=>
   obtain⟨vs,e,hcf,hF⟩:=h1;exact⟨vs,e,hcf,hF.1,fun i y z hy hz=>((hF.2 i y z hy hz).lr ((leaf_closed hcf).1 hc y (List.mem_of_getElem? hy)) (fr:=false) (fun e=>by cases e)).mono fun b hb hl=>⟨hok b hb.1 hl,hl,rfl⟩⟩
 | ar t es=>
   obtain⟨vs,e,hcf,hF⟩:=h1;exact⟨vs,e,hcf,hF.1,fun i y z hy hz=>((hF.2 i y z hy hz).lr ((leaf_closed hcf).1 hc y (List.mem_of_getElem? hy)) (fr:=false) (fun e=>by cases e)).mono fun b hb hl=>⟨hok b hb.1 hl,hl,rfl⟩⟩
 | tup _=>exact h1.elim
 | _=>exact cr1_leaf ((OR.lr h1 hc (fr:=false) (fun e=>by cases e)).mono fun b hb hl=>⟨hok b hb.1 hl,hl,rfl⟩)
theorem Sim.int {E:Env} {w0 w:World} {σ:St} {a:Act} {β:Nat→Option Nat} (h:Sim E w0 σ a w β) {t:Nat} {n:Int} (ht:aget t σ.tm=some (.int .i64 n)):a.tmps.getD t undef = .int .i64 n:=VR.int_inv (h.tms t _ ht).2
theorem Sim.bool {E:Env} {w0 w:World} {σ:St} {a:Act} {β:Nat→Option Nat} (h:Sim E w0 σ a w β) {t:Nat} {b:Bool} (ht:aget t σ.tm=some (.bool b)):a.tmps.getD t undef = .bool b:=VR.bool_inv (h.tms t _ ht).2
def Jb (J:Nat→(Nat→Prop)→World→Prop) (Jx:World→Prop):Bool→Nat→(Nat→Prop)→World→Prop
 | true=>J
 | false=>fun _ _ W=>Jx W
theorem Jb.mono {J:Nat→(Nat→Prop)→World→Prop} {Jx:World→Prop} (hJ:∀ i T W W',J i T W→Below W.heap.size W W'→J i T W') (hJx:∀ W W',Jx W→Below W.heap.size W W'→Jx W') (b:Bool):∀ i T W W',Jb J Jx b i T W→Below W.heap.size W W'→Jb J Jx b i T W':=fun i T W W' h hb=>by
 cases b with
 | true=>exact hJ i T W W' h hb
 | false=>exact hJx W W' h hb
theorem Wk.yields {o:Oper} {Jx:World→Prop} {okA0:Nat→Prop} {l d f:Nat} {a0:Act} {Wb:World} {σ:St} {β:Nat→Option Nat} {y:List AV} {c:Call} {K:Act→World→Prop} {Q:Exit→Act→World→Prop}
 (hw:Wk E.n E.ty E.G okA B J T0 (.ro false ft cx) yv u i a0 Wb) (hJ:∀ i T W W',J i T W→Below W.heap.size W W'→J i T W') (hok:E.okA=okA) (hlo:E.lo=none) (hL:∀ k,¬ E.lent k)
 (hokB:∀ b,okA b→okA0 b∧b < B) (hT0:∀ b,okA0 b→¬ T0 b)
 (hY:∀ T W ws,J i T W→F2 (CR1 E.ty W fun _ b=>(okA0 b∨B≤b)∧¬ T b) y ws→YieldAt Fence.wide 0 P l ws.toArray W fun e W'=>
    (e = .returned (.bool true)∧∃ T',J (i+1) T' W'∧(∀ k,T' k→(T k∨W.heap.size≤k)∧k < W'.heap.size)∧Alike T W W')∨(e = .returned (.bool false)∧Jx W'∧Alike T W W'))
 (hS:Sim E Wb σ a W β) (hk:Kept [0,1] a0 a) (hG:GlobOk E Wb) (ho:o.op = .call c) (hd:o.dst=some d) (hd2:2≤d) (hcal:c.callee = .value (.tmp f)) (hf:a.tmps.getD f undef = .func (.yield l) #[] #[])
 (hv:vals E.G σ c.args.toList=some y) (hy:∀ x ∈ y,closed x=true∧noTup x=true)
 (hK:∀ b W',Wk E.n E.ty E.G okA B (Jb J Jx b) T0 (.ro false ft cx) yv u (i+1) (a.put (some d) (.bool b)) W'→W.heap.size≤W'.heap.size→K (a.put (some d) (.bool b)) W') :
 o.wpIn Fence.wide 0 P a W K Q:=by
 have hb:Below Wb.heap.size Wb W:=hS.below.plain fun k hk=>hL k hk.1
 obtain⟨T,q1,q2⟩:=hw.j;have hJ':=hJ i T Wb W q1 hb;have hvs:=vals_sound hS hG c.args.toList y hv;have hTd:∀ b,okA b→¬ T b:=fun b hb hT=>by
  obtain⟨h1,h2⟩:=hokB b hb;rcases (q2 b hT).1 with h3 | h3
  ·exact hT0 b h1 h3
  ·omega
 have hws:F2 (CR1 E.ty W fun _ b=>(okA0 b∨B≤b)∧¬ T b) y (c.args.toList.map a.eval):=⟨hvs.1,fun j x v hx hv=>by
  obtain⟨h1,h2⟩:=hy x (List.mem_of_getElem? hx);refine vr_cr1 (hvs.2 j x v hx hv) h1 h2 fun b hb hl=>?_
  have hnew:Wb.heap.size≤b∨okA b:=by
   by_cases hlt:b < Wb.heap.size
   ·exact .inr (by
     have:¬ (b < Wb.heap.size∧¬ E.okA b):=fun hh=>hb (.inl hh)
     rw[hok] at this;exact Classical.byContradiction fun hn=>this ⟨hlt,hn⟩)
   ·exact .inl (by omega)
  rcases hnew with h3 | h3
  ·exact⟨.inr (Nat.le_trans hw.low h3),fun hT=>by have:=(q2 b hT).2;omega⟩
  ·exact⟨.inl (hokB b h3).1,hTd b h3⟩⟩
 obtain⟨fn,tmps,az,bd,hrun,hR⟩:=hY T W _ hJ' hws;refine⟨fun _ _=>trivial,?_⟩;have hsem:(o.semAt Fence.wide.round a.eval).run P W = .ok (.round l fn tmps az bd) W:=by
  show (execOp a.eval o).run P W=_;have e1:a.eval (.tmp f) = .func (.yield l) #[] #[]:=hf;have e2:c.args.map a.eval=(c.args.toList.map a.eval).toArray:=by apply Array.ext';simp
  rw[← e2] at hrun;simp[execOp,ho,resolve,hcal,e1,Deferred.ofValue,invoke,hrun]
 rw[hsem,Oper.uponIn_round];refine⟨fun hd=>by simp[Fence.wide] at hd,hR.mono fun e W' hq=>?_⟩;have step:∀ b T',Jb J Jx b (i+1) T' W'→(∀ k,T' k→(T k∨W.heap.size≤k)∧k < W'.heap.size)→Alike T W W'→K (a.put o.dst (.bool b)) W':=fun b T' h1 h2 h3=>by
  rw[hd];have hle:=Nat.le_trans hw.low (Nat.le_trans hb.size h3.size);have hput:∀ t,t < 2→(a.put (some d) (.bool b)).tmps.getD t undef=a0.tmps.getD t undef:=fun t ht=>by
   have hm:t ∈ [0,1]:=by rcases (show t=0∨t=1 by omega) with rfl | rfl <;> simp
   rw[← hk.1 t hm];have hne:d ≠ t:=by omega
   simp only[Act.put,Array.getD_eq_getD_getElem?,Array.getElem?_setIfInBounds_ne hne]
  refine hK b W' ⟨⟨T',h1,fun k hk=>⟨?_,(h2 k hk).2⟩⟩,hle,(hw.cap.book (Books.below hb)).alike h3 hTd,fun g t x hg=>((hw.glob g t x hg).book (Books.below hb)).alike h3 hTd,?_,?_,?_,?_⟩ h3.size
  ·rcases (h2 k hk).1 with h4 | h4
   ·exact (q2 k h4).1
   ·exact .inr (Nat.le_trans hw.low (Nat.le_trans hb.size h4))
  ·simp[Act.put,hS.size]
  ·have:(a.put (some d) (.bool b)).defers=a.defers:=rfl;rw[this,hk.2,hw.defers]
  ·rw[hput 0 (by omega),hw.t0]
  ·rw[hput 1 (by omega),hw.t1]
 rcases hq with ⟨rfl,T',h1,h2,h3⟩ | ⟨rfl,h1,h3⟩
 ·exact step true T' h1 h2 h3
 ·exact step false (fun _=>False) h1 (fun k hk=>hk.elim) h3
theorem seg {ops:Array Oper} (k m:Nat):∀ j,j < ((ops.toList.drop k).take m).length→((ops.toList.drop k).take m)[j]? = ops[k+j]?:=fun j hj=>by
 have:j < m:=by simp at hj;omega
 rw[List.getElem?_take_of_lt this,List.getElem?_drop,Array.getElem?_toList]
theorem Holds.put {a:Act} {p:Nat × AV} (h:Holds a p) {d:Nat} (hd:d ≠ p.1) (v:Value):Holds (a.put (some d) v) p:=by
 have:(a.put (some d) v).tmps.getD p.1 undef=a.tmps.getD p.1 undef:=by simp only[Act.put,Array.getD_eq_getD_getElem?,Array.getElem?_setIfInBounds_ne hd]
 unfold Holds;rw[this];exact h
theorem Holds.bool_put {a:Act} {d:Nat} (hd:d < a.tmps.size) (b:Bool):Holds (a.put (some d) (.bool b)) (d,.bool b):= .inr ⟨b,rfl,by simp[Act.put,Array.getD_eq_getD_getElem?,hd]⟩
theorem Sim.hInt {E:Env} {w0 w:World} {σ:St} {a:Act} {β:Nat→Option Nat} (h:Sim E w0 σ a w β) {t:Nat} {n:Int} (ht:aget t σ.tm=some (.int .i64 n)):Holds a (t,.int .i64 n):= .inl ⟨n,rfl,h.int ht⟩
theorem Sim.hBool {E:Env} {w0 w:World} {σ:St} {a:Act} {β:Nat→Option Nat} (h:Sim E w0 σ a w β) {t:Nat} {b:Bool} (ht:aget t σ.tm=some (.bool b)):Holds a (t,.bool b):= .inr ⟨b,rfl,h.bool ht⟩
theorem ops_next {P:Program} {ops:Array Oper} {Q:Exit→Act→World→Prop} {a:Act} {w:World} {F:Fence} {n i:Nat} {rest:List Nat} {o:Oper} (h:ops[i]? = some o) (hw:Region.wanted o (yielded ops a.tmps)=true) (hh:o.wpIn F n P a w (wpOpsIn F n P ops Q rest) Q) :
 wpOpsIn F n P ops Q (i::rest) a w:=by
 unfold wpOpsIn;rw[h];show if _ then _ else _
 rw[if_pos hw];exact hh
end
end Go.Abs
end
section
namespace Go.Abs
open Go Go.RowKit
def Does (P:Program) (E:Env) (w0:World) (c:Code) (σ:St) (e:AX) (σ':St):Prop:=
 ∀ (a:Act) (w:World) (β:Nat→Option Nat),Sim E w0 σ a w β→c.wpIn Fence.wide 0 P (APost E w0 e σ') a w
def DoesR (P:Program) (E:Env) (w0:World) (c:Code) (σ:St) (e:AX) (σ':St) (m:Nat):Prop:=
 ∀ (a:Act) (w:World) (β:Nat→Option Nat),Sim E w0 σ a w β→Code.roundsIn Fence.wide 0 P c (APost E w0 e σ') m a w
section
variable {P:Program} {E:Env} {w0:World} {σ σ1 σ':St} {e:AX} {a b c:Code}
theorem does_arun (hL:∀ k,¬ E.lent k) (hT:Tabs P E.ty) (hC:CSound P E) (hG:GlobOk E w0) {H:Nat→Hint} {k:Nat} (hd:Draws P E c) (hr:arun E H k c σ=some (e,σ')):Does P E w0 c σ e σ':=
 fun a w β h=>wpIn_wide.2 (arun_sound (fun _=>hL) hT hC hG c σ σ' e hd hr a w β h)
theorem does_seq (h1:Does P E w0 a σ .norm σ1) (h2:Does P E w0 b σ1 e σ'):Does P E w0 (.seq a b) σ e σ':=fun x w β h=>
 wpIn_seq (wpIn_mono (h1 x w β h) fun ex a' w' hp=>by
  obtain⟨rfl,β',hS⟩:=hp;exact h2 a' w' β' hS)
theorem does_seq_x (h1:Does P E w0 a σ e σ1) (he:e ≠ .norm):Does P E w0 (.seq a b) σ e σ1:=fun x w β h=>
 wpIn_seq (wpIn_mono (h1 x w β h) fun ex a' w' hp=>by
  obtain⟨rfl,hS⟩:=hp;cases e with
  | norm=>exact absurd rfl he
  | exit i=>exact⟨rfl,hS⟩
  | ret=>exact⟨rfl,hS⟩)
theorem does_block (i:Nat) (h1:Does P E w0 a σ (.exit i) σ'):Does P E w0 (.block i a) σ .norm σ':=fun x w β h=>
 wpIn_block (wpIn_mono (h1 x w β h) fun ex a' w' hp=>by
  obtain⟨rfl,hS⟩:=hp;simp only[exOf,Exit.inBlock];simp only[if_true];exact⟨rfl,hS⟩)
theorem does_block_x (i:Nat) (h1:Does P E w0 a σ e σ') (he:e ≠ .exit i):Does P E w0 (.block i a) σ e σ':=fun x w β h=>
 wpIn_block (wpIn_mono (h1 x w β h) fun ex a' w' hp=>by
  obtain⟨rfl,hS⟩:=hp;cases e with
  | norm=>exact⟨rfl,hS⟩
  | ret=>exact⟨rfl,hS⟩
  | exit j=>
    simp only[exOf,Exit.inBlock];rw[if_neg (fun q=>he (by rw[q]))];exact⟨rfl,hS⟩)
theorem does_scope (h1:Does P E w0 a σ e σ'):Does P E w0 (.scope a) σ e σ':=fun x w β h=>
 wpIn_wide.2 (wp_scope_straight (wpIn_wide.1 (wpIn_mono (h1 x w β h) fun ex a' w' hp=>by
  obtain⟨rfl,hS⟩:=hp;cases e <;> exact⟨rfl,hS⟩)))
theorem does_label (l:Nat):Does P E w0 (.label l) σ .norm σ:=fun x w β h=>wpIn_label ⟨rfl,β,h⟩
theorem does_exit (i:Nat):Does P E w0 (.exit i) σ (.exit i) σ:=fun x w β h=>wpIn_exit ⟨rfl,β,h⟩
theorem doesR_last {m:Nat} (h1:Does P E w0 c σ e σ') (he:e ≠ .norm):DoesR P E w0 c σ e σ' (m+1):=fun x w β h=>by
 rw[roundsIn_succ];refine wpIn_mono (h1 x w β h) fun ex a' w' hp=>?_
 obtain⟨rfl,hS⟩:=hp;cases e with
 | norm=>exact absurd rfl he
 | exit i=>exact⟨rfl,hS⟩
 | ret=>exact⟨rfl,hS⟩
theorem doesR_next {m:Nat} (h1:Does P E w0 c σ .norm σ1) (h2:DoesR P E w0 c σ1 e σ' m):DoesR P E w0 c σ e σ' (m+1):=fun x w β h=>by
 rw[roundsIn_succ];refine wpIn_mono (h1 x w β h) fun ex a' w' hp=>?_
 obtain⟨rfl,β',hS⟩:=hp;exact h2 a' w' β' hS
theorem does_loop {m:Nat} (h:DoesR P E w0 c σ e σ' m):Does P E w0 (.loop c) σ e σ':=fun x w β hS=>wpIn_loop_rounds m (h x w β hS)
theorem Does.less {σ2:St} (h:Does P E w0 c σ e σ') (htm:∀ t x,aget t σ2.tm=some x→aget t σ'.tm=some x) (hob:∀ o b,aget o σ2.ob=some b→aget o σ'.ob=some b):Does P E w0 c σ e σ2:=fun x w β hS=>
 wpIn_mono (h x w β hS) fun ex a' w' hp=>by
  obtain⟨rfl,β',hS⟩:=hp;exact⟨rfl,β',hS.less htm hob⟩
theorem Does.ren {ob2:List (Nat × Obj)} (h:Does P E w0 c σ e σ') (hr:RenOk E w0 σ'.tm σ'.ob ob2):Does P E w0 c σ e ⟨σ'.tm,ob2⟩:=fun x w β hS=>
 wpIn_mono (h x w β hS) fun ex a' w' hp=>by
  obtain⟨rfl,β',hS⟩:=hp;obtain⟨β2,h2,_⟩:=hr a' w' β' hS;exact⟨rfl,β2,h2⟩
theorem does_range (hZ:∀ id,E.Z id=[]) (hT:Tabs P E.ty) (hC:CSound P E) (hG:GlobOk E w0) (hlo:E.lo=none) (hL:∀ k,¬ E.lent k) {H:Nat→Hint} {k:Nat} {S:List Nat} {tm:List (Nat × AV)} (hid:keepL tm S=tm)
 {gf:Nat} {caps:List AV} {ys:List (List AV)} (hit:Iter P E.ty E.G gf caps ys) (hcl:closed.closedL caps=true) (eg:∀ args w,(callFunc gf args).run P w = .ok (.enter gf args) w)
 (htm:keepL σ.tm S=tm) {g:Operand} (hg:σ.val E.G g=some (.fn gf caps)) {ps:Array Tmp} {assign body:Code} (hps:∀ p ∈ ps.toList,p < E.n∧p ∉ S) (hsa:straight S assign=true) (hsb:straight S body=true)
 {ren:List (Nat × Obj)→List (Nat × Obj)→Prop} (hren:∀ ob ob2,ren ob ob2→RenOk E w0 tm ob ob2) {ob':List (Nat × Obj)} (hr:Rounds ren (fun c σ r=>∀ A lo L,arun { E with okA:=A,lo:=lo,lent:=L } H k c σ=some r) ps.toList assign body S tm ys σ.ob e ob') :
 Does P E w0 (.rangeFunc g ps assign body) σ e ⟨tm,ob'⟩:=fun a w β h=>
 range_law hZ hT hC hG hlo hL hid hit hcl eg h htm hg hps hsa hsb hren hr
theorem enters {f:FuncId} (hen:Entr P f):∀ args w,(callFunc f args).run P w = .ok (.enter f args) w:=fun args w=>by
 obtain⟨fn,q1,q2,q3⟩:=hen;obtain⟨body,hb⟩:=Option.isSome_iff_exists.1 q2;simp[callFunc,q1,q3,hb]
theorem calls_of_does (hL:∀ k,¬ E.lent k) (hT:Tabs P E.ty) {f:FuncId} {fn:Func} {args:List AV} (hf:P.funcs[f]? = some fn) (hn:fn.ntmps=E.n) (hb:fn.body=some c)
 (ha:args.length≤E.n) (ho:oldV.oldL args=true) {w:World} {vs:List Value} (hvs:F2 (CR1 E.ty w fun _=>E.okA) args vs) (hD:Does P E w c ⟨argTms 0 args,[]⟩ e σ') (he:e = .norm∨e = .ret) {xs:List AV} (hx:aresults E σ' fn.results.toList=some xs)
 {R:Ending→World→Prop} (hR:∀ a' w' β' us,Sim E w σ' a' w' β'→F2 (VR (cxOf E w σ' w' β')) xs us→R (.returned (if h:us.toArray.size=1 then us.toArray[0] else .tuple us.toArray)) w'):Calls P f vs.toArray w R:=by
 refine callsIn_wide.1 (callsIn_of_wp_marks (n:=0) hf hb trivial ?_ rfl);have hS:=sim_start ha ho hvs;rw[hn];refine wpIn_mono (hD _ w _ hS) fun e' a' w' hp=>?_
 obtain⟨hex,β',hS'⟩:=hp;have fin:LeavesInM Fence.wide 0 P fn a'.tmps R a'.defers .returning w':=by
  refine leaves_marks a'.defers w' hS' fun w' hS'=>?_
  obtain⟨us,r1,r2⟩:=run_results hT hS' fn.results.toList xs hx;refine⟨if h:us.toArray.size=1 then us.toArray[0] else .tuple us.toArray,?_,hR _ _ _ us hS' r2⟩;unfold results;rw[Array.mapM_eq_mapM_toList];simp only[Sem.run_bind,Sem.run_map];exact congrArg (fun (z:Result (List Value))=>(z.andThen fun a w'=>Result.ok a.toArray w').andThen fun a w'=>Sem.run P (pure (if h:a.size=1 then a[0] else Value.tuple a)) w') r1
 subst hex;rcases he with he | he <;> subst he <;> exact fin
theorem ret_of_does {Ef:(Nat→Prop)→Env} {ty:Tys} {G:Globs} (hA:∀ A,(Ef A).okA=A) (hty:∀ A,(Ef A).ty=ty) (hGl:∀ A,(Ef A).G=G) (hT:Tabs P ty) {f:FuncId} {fn:Func} {c:Code} {args:List AV} {r:AV}
 (hf:P.funcs[f]? = some fn) (hn:∀ A,fn.ntmps=(Ef A).n) (hb:fn.body=some c) (ha:args.length≤fn.ntmps) (ho:oldV.oldL args=true) (he:e = .norm∨e = .ret) (hD:∀ A w,GlobOk (Ef A) w→Does P (Ef A) w c ⟨argTms 0 args,[]⟩ e σ')
 (hr:∀ A,(obind (aresults (Ef A) σ' fn.results.toList) fun vs=>obind (hand.handL (Ef A).ty σ'.ob 30 vs) fun vs=>some (one vs))=some r) (hL:∀ A k,¬ (Ef A).lent k:=by intro _ _ h;exact h) (hlo:∀ A,(Ef A).lo=none:=by intro _;rfl):Ret P ty G f args r:=by
 intro A w vs hvs hG;obtain⟨xs,h3,h4⟩:=obind_eq (hr A);obtain⟨ys,h5,h6⟩:=obind_eq h4;injection h6 with h6;subst h6
 have hT':Tabs P (Ef A).ty:=by rw[hty];exact hT
 have hG':GlobOk (Ef A) w:=fun g t x hg=>by rw[hty,hA];exact hG g t x (by rw[← hGl A];exact hg)
 refine calls_of_does (E:=Ef A) (hL A) hT' hf (hn A) hb (by rw[← hn A];exact ha) ho (by rw[hty,hA];exact hvs) (hD A w hG') he h3 fun a' w' β' us hS' r2=>?_
 obtain⟨e1,e2⟩:=handL_get 30 xs ys h5;have hys:F2 (CR1 (Ef A).ty w' (backOk w.heap.size (Ef A).okA)) ys us:=by
  refine⟨by rw[e1];exact r2.1,fun i y u hy hu=>?_⟩;have hi:i < xs.length:=by rw[← e1];exact (List.getElem?_eq_some_iff.1 hy).1
  obtain⟨_,y',_,q1,q2⟩:=e2 i xs[i] (by simp[hi]);rw[hy] at q1;injection q1 with q1;subst q1
  have:=hand_sound (hL A) hT' hS' q2 (r2.2 i xs[i] u (by simp[hi]) hu);rw[hlo A] at this;exact this
 refine⟨_,rfl,hS'.below.plain fun k hk=>hL A k hk.1,?_⟩;rw[hty,hA] at hys;have tupc:∀ (hlen:ys.length ≠ 1),CR ty w' (backOk w.heap.size A) (one ys) (.tuple us.toArray):=fun hlen=>by
  have:one ys = .tup ys:=by
   match ys,hlen with
   | [],_=>rfl
   | [_],h=>exact absurd rfl h
   | _::_::_,_=>rfl
  rw[this];exact⟨us.toArray,rfl,by simpa using hys⟩
 by_cases hlen:us.toArray.size=1
 ·rw[dif_pos hlen];have h1:us.length=1:=by simpa using hlen
  match us,ys,h1,hys with
  | [u],[y],_,hys=>exact CR_one (hys.2 0 y u rfl rfl)
  | [u],[],_,hys=>exact absurd hys.1 (by simp)
  | [u],_::_::_,_,hys=>exact absurd hys.1 (by simp)
 ·rw[dif_neg hlen];refine tupc ?_;rw[hys.1];simpa using hlen
def RetF (P:Program) (ty:Tys) (G:Globs) (f:FuncId) (args:List AV) (gf:Nat) (caps:List AV):Prop:=
 ∀ (okA:Nat→Prop) (w:World) (vs:List Value),F2 (CR1 ty w fun _=>okA) args vs→(∀ g t x,G g=some (t,x)→LR ty w okA (.ro false t x) (.pointer (some ⟨g,0,none⟩)))→
   Calls P f vs.toArray w fun e w'=>∃ us:Array Value,e = .returned (.func (.func gf) #[] us)∧Below w.heap.size w w'∧us.size=caps.length∧∀ (i:Nat) (x:AV),caps[i]? = some x→CR1 ty w' (backOk w.heap.size okA) x (us.getD i undef)
theorem retF_of_does {Ef:(Nat→Prop)→Env} {ty:Tys} {G:Globs} (hA:∀ A,(Ef A).okA=A) (hty:∀ A,(Ef A).ty=ty) (hGl:∀ A,(Ef A).G=G) (hT:Tabs P ty) {f:FuncId} {fn:Func} {c:Code} {args:List AV} {gf:Nat} {cs caps:List AV}
 (hf:P.funcs[f]? = some fn) (hn:∀ A,fn.ntmps=(Ef A).n) (hb:fn.body=some c) (ha:args.length≤fn.ntmps) (ho:oldV.oldL args=true) (he:e = .norm∨e = .ret) (hD:∀ A w,GlobOk (Ef A) w→Does P (Ef A) w c ⟨argTms 0 args,[]⟩ e σ')
 (hr:∀ A,aresults (Ef A) σ' fn.results.toList=some [.fn gf cs]) (hown:∃ (i o:Nat) (r:RT) (p:List Nat),cs[i]? = some (AV.ptr o r p)) (hh:∀ A,hand.handL (Ef A).ty σ'.ob 30 cs=some caps) (hlf:∀ x ∈ cs,leafV x=true) (hL:∀ A k,¬ (Ef A).lent k:=by intro _ _ h;exact h) (hlo:∀ A,(Ef A).lo=none:=by intro _;rfl):RetF P ty G f args gf caps:=by
 intro A w vs hvs hG;have hT':Tabs P (Ef A).ty:=by rw[hty];exact hT
 have hG':GlobOk (Ef A) w:=fun g t x hg=>by rw[hty,hA];exact hG g t x (by rw[← hGl A];exact hg)
 refine calls_of_does (E:=Ef A) (hL A) hT' hf (hn A) hb (by rw[← hn A];exact ha) ho (by rw[hty,hA];exact hvs) (hD A w hG') he (hr A) fun a' w' β' us hS' r2=>?_
 match us,r2 with
 | [],r2=>exact absurd r2.1 (by simp)
 | _::_::_,r2=>exact absurd r2.1 (by simp)
 | [u],r2=>
   have hu:OR (cxOf (Ef A) w σ' w' β') (.fn gf cs) u:=r2.2 0 _ u rfl rfl;have hus:∃ us:Array Value,u = .func (.func gf) #[] us∧us.size=cs.length∧∀ (i:Nat) (x:AV),cs[i]? = some x→OR (cxOf (Ef A) w σ' w' β') x (us.getD i undef):=by
    cases hu with
    | cl h1=>
      exfalso;obtain⟨i,o,r,p,hi⟩:=hown;cases h1 with
      | fn f cs us q1 q2=>have:=q2 i _ hi;cases this
    | fn f cs us q1 q2=>exact⟨us,rfl,q1,q2⟩
   obtain⟨us,rfl,q1,q2⟩:=hus;obtain⟨e1,e2⟩:=handL_get 30 cs caps (hh A);refine⟨us,rfl,hS'.below.plain fun k hk=>hL A k hk.1,q1.trans e1.symm,fun i y hy=>?_⟩;have hi:i < cs.length:=by rw[← e1];exact (List.getElem?_eq_some_iff.1 hy).1
   obtain⟨_,y',_,p1,p2⟩:=e2 i cs[i] (by simp[hi]);rw[hy] at p1;injection p1 with p1;subst p1
   have h3:=q2 i cs[i] (by simp[hi]);have:=hand_sound (hL A) hT' hS' p2 (VR_one ((VR1_leaf (hlf _ (List.getElem_mem hi))).2 h3));rw[hlo A,hty,hA] at this;exact this
theorem goes_callF (hT:Tabs P E.ty) {w:World} {β:Nat→Option Nat} {a:Act} (h:Sim E w0 σ a w β) (hG:GlobOk E w0) {o:Oper} {c:Call} (ho:o.op = .call c) {f gf:Nat} {l caps:List AV} (hen:Entr P f) {g:Operand} (hcal:c.callee = .value g) (hg:a.eval g = .func (.func f) #[] #[])
 (hv:vals E.G σ c.args.toList=some l) (hl:∀ x ∈ l,closed x=true∧noTup x=true) (hret:RetF P E.ty E.G f l gf caps) (hcl:∀ x ∈ caps,leafV x=true) {K:Act→World→Prop} {Q:Exit→Act→World→Prop}
 (hK:∀ v w',Sim E w0 σ a w' β→VR (cxOf E w0 σ w' β) (.fn gf caps) v→K (a.put o.dst v) w'):o.wp P a w K Q:=by
 have hvs:=vals_sound h hG c.args.toList l hv;have hrun:(execOp a.eval o).run P w = .ok (.enter f (c.args.toList.map a.eval).toArray) w:=by
  obtain⟨fn,q1,q2,q3⟩:=hen;obtain⟨body,hb⟩:=Option.isSome_iff_exists.1 q2;have e2:c.args.map a.eval=(c.args.toList.map a.eval).toArray:=by apply Array.ext';simp
  simp[execOp,ho,resolve,hcal,hg,Deferred.ofValue,invoke,callFunc,q1,q3,hb,e2]
 have hargs:F2 (CR1 E.ty w fun _ b=>¬ (cxOf E w0 σ w β).mu b) l (c.args.toList.map a.eval):=⟨hvs.1,fun j x v hx hv=>by
  obtain⟨h1,h2⟩:=hl x (List.mem_of_getElem? hx);exact vr_cr1 (hvs.2 j x v hx hv) h1 h2 fun b hb _=>hb⟩
 unfold Oper.wp;rw[hrun];refine Calls.mono (hret _ w _ hargs fun g t x hg=>(h.old (hG g t x hg)).mono fun b hb hl=>⟨hb.1,hl,rfl⟩) fun e w' he=>?_
 obtain⟨us,rfl,e4,e5,e6⟩:=he;refine hK _ w' (h.grow e4) (VR_one ((VR1_leaf (x:= .fn gf caps) rfl).2 (.fn gf caps us e5 fun i x hx=>?_)));exact (VR1_leaf (hcl x (List.mem_of_getElem? hx))).1 (CR1.vr h e4 (.inl fun b hb=>hb) (e6 i x hx))
theorem does_callF (hZ:∀ id,E.Z id=[]) (hT:Tabs P E.ty) (hC:CSound P E) (hG:GlobOk E w0) {id:Nat} {ops:Array Oper} {m d:Nat} {o:Oper} {c:Call} {f gf:Nat} {l caps:List AV} (hsz:ops.size=m+1) (hq:((ops.toList.take m).all fun o=>noDefer o.op&&(match o.dst with | some t=> !([]:List Nat).contains t | none=>true))=true)
 (hev:aopsM E ops.toList (ops.toList.take m) σ=some σ1) (hlast:ops[m]? = some o) (hgu:o.guard=none) (ho:o.op = .call c) (hd:o.dst=some d) (hdn:d < E.n) (hen:Entr P f) {g:Operand} (hcal:c.callee = .value g) (hg:∀ a:Act,a.eval g = .func (.func f) #[] #[])
 (hv:vals E.G σ1 c.args.toList=some l) (hl:∀ x ∈ l,closed x=true∧noTup x=true) (hret:RetF P E.ty E.G f l gf caps) (hcl:∀ x ∈ caps,leafV x=true):Does P E w0 (.region id ops false) σ .norm (endRegion E ⟨aput d (.fn gf caps) σ1.tm,σ1.ob⟩):=fun a w β h=>by
 refine wpIn_region ?_;have hr:List.range ops.size=List.range' 0 ((ops.toList.drop 0).take m).length++[m]:=by
  rw[hsz,List.range_succ,List.range_eq_range'];congr 2
  simp[hsz]
 rw[hr];refine round_ops (S:=[]) (a0:=a) hT hC hG (easy_wide 0) _ _ _ a w β (seg 0 m) hq hev h (.refl _ _) fun a1 w1 β1 S1 _=>?_
 refine ops_next hlast (by simp[Region.wanted,hgu]) ((easy_wide 0).2 _ _ _ _ _ (fun c' hc'=>by rw[ho] at hc';cases hc') (goes_callF hT S1 hG ho hen hcal (hg _) hv hl hret hcl fun v w' S2 hV=>?_));rw[hd];have S3:=S2.put hdn hV;exact⟨rfl,β1,S3.less (fun t x hx=>(kept_get _ _ t x (fun _ _ _=>trivial) hx).2) (fun o b hb=>hb)⟩
end
end Go.Abs
end
section
namespace Go.Abs
open Go Go.RowKit
theorem RetM.hand {P:Program} {ty:Tys} {G:Globs} {f:FuncId} {args:List AV} {r r':AV} {ob':List (Nat × Obj)} (hT:Tabs P ty) (h:RetM P ty G f args [] r ob') (ho:∀ x ∈ args,oldV x=true) {k:Nat} (hr:hand ty ob' k r=some r'):Ret P ty G f args r':=by
 intro okA w vs hvs hG;have hv:F2 (VR (mcx ty none okA (fun _=>False) w.heap.size [] w fun _=>none)) args vs:=⟨hvs.1,fun i x v hx hv=>old_vr (c:=mcx ty none okA (fun _=>False) w.heap.size [] w fun _=>none) (hvs.2 i x v hx hv) (ho x (List.mem_of_getElem? hx)) fun b hb _ hmu=>by
  rcases hmu with ⟨_,q⟩ | ⟨_,_,q,_⟩
  ·exact q hb
  ·simp[aget] at q⟩
 refine Calls.mono (h none okA (fun _=>False) w (fun _=>none) vs (fun o b hb=>by simp[aget] at hb) (fun o o' b b' k h1=>by simp[aget] at h1) hv hG) fun e w' he=>?_
 obtain⟨v,β',e1,e2,e3,e4,e5⟩:=he
 let E:Env:={ ty:=ty,G:=G,n:=0,K:=0,C:=fun _ _=>none,D:=fun _=>none,okA:=okA }
 have hS:Sim E w ⟨[],ob'⟩ { tmps:=#[],defers:=[] } w' β':=⟨e2,rfl,Marks.nil _ _,fun t x hx=>by simp[aget] at hx,e3,e4⟩
 exact⟨v,e1,e2.plain fun k hk=>hk.1,CR_one (hand_sound (E:=E) (fun _ h=>h) hT hS hr e5)⟩
end Go.Abs
end
section
namespace Go.Abs
open Go Go.RowKit Go.Deep Go.ChangeShapes Go.WideShapes
instance:Inhabited AV:=⟨.undef⟩
inductive Pln (ty:Tys):TypeId→Prop
 | int {t:TypeId} {k:IntKind} {s b:Nat} {z:AV}:ty t=some ⟨.int k,s,b,z⟩→Pln ty t
 | bool {t:TypeId} {s b:Nat} {z:AV}:ty t=some ⟨.bool,s,b,z⟩→Pln ty t
 | str {t:TypeId} {s b:Nat} {z:AV}:ty t=some ⟨.str,s,b,z⟩→Pln ty t
 | st {t:TypeId} {ts:List TypeId} {s b:Nat} {z:AV}:ty t=some ⟨.struct ts,s,b,z⟩→s=(ts.map (szOf ty)).sum→(∀ u ∈ ts,Pln ty u)→Pln ty t
inductive Tv (ty:Tys):TypeId→AV→Prop
 | int {t:TypeId} {k:IntKind} {s b:Nat} {z:AV} {n:Int}:ty t=some ⟨.int k,s,b,z⟩→(Lit.int k n).wf=true→Tv ty t (.int k n)
 | bool {t:TypeId} {s b:Nat} {z:AV} {n:Bool}:ty t=some ⟨.bool,s,b,z⟩→Tv ty t (.bool n)
 | str {t:TypeId} {s b:Nat} {z:AV} {n:ByteArray}:ty t=some ⟨.str,s,b,z⟩→n.size≤maxLen→Tv ty t (.str n)
 | st {t:TypeId} {ts:List TypeId} {s b:Nat} {z:AV} {fs:List AV}:ty t=some ⟨.struct ts,s,b,z⟩→fs.length=ts.length→(∀ (i:Nat) (x:AV) (u:TypeId),fs[i]? = some x→ts[i]? = some u→Tv ty u x)→Tv ty t (.st t fs)
def AnyL (ty:Tys):AV→Value→Prop:=fun x u=>∀ (w:World) (okb:Nat→Prop),LR ty w okb x u
theorem F2_append {R:AV→Value→Prop} {xs ys:List AV} {us vs:List Value} (h1:F2 R xs us) (h2:F2 R ys vs):F2 R (xs++ys) (us++vs):=by
 refine⟨by simp[h1.1,h2.1],fun i x v hx hv=>?_⟩;by_cases hi:i < xs.length
 ·rw[List.getElem?_append_left hi] at hx;rw[List.getElem?_append_left (by rw[← h1.1];exact hi)] at hv;exact h1.2 i x v hx hv
 ·rw[List.getElem?_append_right (by omega)] at hx;rw[List.getElem?_append_right (by rw[← h1.1];omega)] at hv;rw[← h1.1] at hv;exact h2.2 _ x v hx hv
theorem F2_fields {ty:Tys} (R:AV→Value→Prop):∀ (ts:List TypeId) (fs:List AV) (cs:List Value),fs.length=ts.length→cs.length=(ts.map (szOf ty)).sum→
 (∀ (i:Nat) (x:AV) (u:TypeId),fs[i]? = some x→ts[i]? = some u→F2 R (leaves x) ((cs.drop ((ts.take i).map (szOf ty)).sum).take (szOf ty u)))→F2 R (leavesL fs) cs
 | [],[],cs,_,hc,_=>by
   have:cs=[]:=List.eq_nil_of_length_eq_zero (by simpa using hc);subst this;exact⟨rfl,fun i x v hx=>by simp[leavesL] at hx⟩
 | u::ts,x::fs,cs,hl,hc,h=>by
   have h0:=h 0 x u rfl rfl;simp only[List.take_zero,List.map_nil,List.sum_nil,List.drop_zero] at h0;have hr:=F2_fields (ty:=ty) R ts fs (cs.drop (szOf ty u)) (by simpa using hl) (by simp only[List.map_cons,List.sum_cons] at hc;simp only[List.length_drop];omega) (fun i y v hy hv=>by
    have:=h (i+1) y v (by simpa using hy) (by simpa using hv);simp only[List.take_succ_cons,List.map_cons,List.sum_cons] at this;rw[List.drop_drop];exact this)
   have:=F2_append h0 hr;rw[List.take_append_drop] at this;simpa[leavesL] using this
 | [],_::_,_,hl,_,_=>by simp at hl
 | _::_,[],_,hl,_,_=>by simp at hl
section
variable {H:Type} {enc:TypeId × Value→H} {P:Program} {w:World} {ty:Tys} {spare:Nat→Bool} {held:Bool}
theorem cellsOf_ty (hT:TyOk P ty) {t:TypeId} {d:TyD} (h:ty t=some d):P.cellsOf t=d.size:=by
 obtain⟨i,z,h1,h2,_⟩:=(hT t d h).info;simp[Program.cellsOf,h1,h2]
theorem leaf_size (hT:TyOk P ty) {t:TypeId} {d:TyD} (h:ty t=some d) (hl:isLeaf d.k=true):d.size=1:=by
 have hc:=(hT t _ h).conf;generalize d.zero=z at hc;cases hc with
 | leaf h1 _ h3 _=>rw[h] at h1;injection h1 with h1;subst h1;exact h3
 | st h1=>rw[h] at h1;injection h1 with h1;subst h1;cases hl
 | ar h1=>rw[h] at h1;injection h1 with h1;subst h1;cases hl
theorem F2_one {R:AV→Value→Prop} {x:AV} {v:Value} (h:R x v):F2 R [x] [v]:=F2_cons h ⟨rfl,fun i x v hx=>by simp at hx⟩
theorem read_plain (hT:TyOk P ty) {t:TypeId} (hp:Pln ty t):∀ (fuel:Nat) (cs:List Value) (x:DataW H × List MemPlace),DataW.trod enc P w 0 spare held fuel t cs=some x→
 ∃ a,Tv ty t a∧Conf ty t a∧F2 (AnyL ty) (leaves a) cs:=by
 induction hp with
 | @int t k s b z ht=>
   intro fuel cs x h;obtain⟨n,rfl,_,hw⟩:=DataW.trod_int (show P.underlying t=some (.int k) from (hT t _ ht).kind) h;exact⟨.int k n,.int ht hw,.leaf ht rfl (leaf_size hT ht rfl) rfl,F2_one fun w okb=> .int k n⟩
 | @bool t s b z ht=>
   intro fuel cs x h;obtain⟨n,rfl,_⟩:=DataW.trod_bool (show P.underlying t=some .bool from (hT t _ ht).kind) h;exact⟨.bool n,.bool ht,.leaf ht rfl (leaf_size hT ht rfl) rfl,F2_one fun w okb=> .bool n⟩
 | @str t s b z ht=>
   intro fuel cs x h;obtain⟨n,rfl,_,hw⟩:=DataW.trod_string (show P.underlying t=some .string from (hT t _ ht).kind) h;exact⟨.str n,.str ht hw,.leaf ht rfl (leaf_size hT ht rfl) rfl,F2_one fun w okb=> .str n⟩
 | @st t ts s b z ht hs hu ih=>
   intro fuel cs x h;obtain⟨fds,hk,hsz,hfd⟩:=(hT t _ ht).kind;obtain⟨xs,n,_,_,hcl,hxl,hx⟩:=DataW.trod_struct hk h;have hcs:cs.length=(ts.map (szOf ty)).sum:=by rw[hcl,cellsOf_ty hT ht];exact hs
   have hp:∀ i,i < ts.length→∃ a:AV,∀ u,ts[i]? = some u→Tv ty u a∧Conf ty u a∧F2 (AnyL ty) (leaves a) ((cs.drop ((ts.take i).map (szOf ty)).sum).take (szOf ty u)):=fun i hi=>by
    have hif:i < fds.size:=by omega
    obtain⟨e1,e2⟩:=hfd i fds[i] (Array.getElem?_eq_getElem hif);have e3:=hx i fds[i] (Array.getElem?_eq_getElem hif);rw[List.getElem?_eq_getElem (show i < xs.length by omega),e2] at e3;have hmem:fds[i].type ∈ ts:=List.mem_of_getElem? e1;have hsz:szOf ty fds[i].type=P.cellsOf fds[i].type:=by
     have:=hu _ hmem;cases this with
     | int h=>rw[cellsOf_ty hT h];simp[szOf,h]
     | bool h=>rw[cellsOf_ty hT h];simp[szOf,h]
     | str h=>rw[cellsOf_ty hT h];simp[szOf,h]
     | st h=>rw[cellsOf_ty hT h];simp[szOf,h]
    obtain⟨a,h1,h2,h3⟩:=ih _ hmem n _ _ e3;refine⟨a,fun u hu=>?_⟩;rw[e1] at hu;injection hu with hu;subst hu
    rw[hsz];exact⟨h1,h2,h3⟩
   obtain⟨f,hf⟩:=choose_lt hp;have hg:∀ (i:Nat) (y:AV) (u:TypeId),((List.range ts.length).map f)[i]? = some y→ts[i]? = some u→y=f i∧i < ts.length:=fun i y u hy hu=>by
    have hi:=(List.getElem?_eq_some_iff.1 hu).1;rw[List.getElem?_map,List.getElem?_range hi] at hy;injection hy with hy
    exact⟨hy.symm,hi⟩
   refine⟨.st t ((List.range ts.length).map f),.st ht (by simp) (fun i y u hy hu=>?_),.st ht (by simp) hs (fun i y u hy hu=>?_),?_⟩
   ·obtain⟨rfl,hi⟩:=hg i y u hy hu;exact (hf i hi u hu).1
   ·obtain⟨rfl,hi⟩:=hg i y u hy hu;exact (hf i hi u hu).2.1
   ·simp only[leaves];exact F2_fields (ty:=ty) _ ts _ cs (by simp) hcs fun i y u hy hu=>by
     obtain⟨rfl,hi⟩:=hg i y u hy hu;exact (hf i hi u hu).2.2
theorem read_slice (hT:TyOk P ty) {t e:TypeId} {s b:Nat} {z:AV} (ht:ty t=some ⟨.slice e,s,b,z⟩) (he:Pln ty e) {fuel:Nat} {v:Value} {x:DataW H × List MemPlace}
 (h:DataW.trod enc P w 0 (fun _=>true) held fuel t [v]=some x) (hs:∀ a len cap,v = .slice (some a) len cap→a.spot=none∧a.block < w.heap.size) :
 ∃ es,LR ty w (fun _=>True) (.sl e ⟨false,none,false⟩ es) v∧(∀ y ∈ es,Tv ty e y):=by
 obtain⟨hk,hpos⟩:=(hT t _ ht).kind;rcases open_slice hk h with ⟨h1,_⟩ | ⟨a,len,cap,m,n,D,Pl,h1,_,hlc,hcm,hm,_,hel⟩
 ·injection h1 with h1 _;subst h1
  exact⟨[],.slN e _ _ (by simp) rfl,fun y hy=>by cases hy⟩
 ·injection h1 with h1 _;subst h1
  obtain⟨hsp,hblk⟩:=hs a len cap rfl;obtain⟨blk,off,spot⟩:=a;simp only at hsp hblk;subst hsp;have hm':m=cap:=by simpa using hm
  subst hm';have hsz:szOf ty e=P.cellsOf e:=by
   cases he with
   | int h=>rw[cellsOf_ty hT h];simp[szOf,h]
   | bool h=>rw[cellsOf_ty hT h];simp[szOf,h]
   | str h=>rw[cellsOf_ty hT h];simp[szOf,h]
   | st h=>rw[cellsOf_ty hT h];simp[szOf,h]
  have hp:∀ i,i < len→∃ a:AV,Tv ty e a∧Conf ty e a∧F2 (fun y u=>AnyL ty y u) (leaves a) ((List.range (szOf ty e)).map fun r=>(w.cell? ⟨blk,off+(i * szOf ty e+r),none⟩).getD undef)∧∀ r,r < szOf ty e→∃ v,w.cell? ⟨blk,off+(i * szOf ty e+r),none⟩=some v:=fun i hi=>by
   obtain⟨cs',q1,q2⟩:=hel i (by omega);obtain⟨_,q3,q4⟩:=World.cells?_some q1;obtain⟨a,g1,g2,g3⟩:=read_plain hT he _ _ _ q2;have hq:∀ r,r < szOf ty e→w.cell? ⟨blk,off+(i * szOf ty e+r),none⟩=cs'[r]?:=fun r hr=>by
    have:=q4 r (by omega);rw[add_plain,add_plain,← hsz,Nat.add_assoc] at this;exact this
   have hcs:cs'=(List.range (szOf ty e)).map fun r=>(w.cell? ⟨blk,off+(i * szOf ty e+r),none⟩).getD undef:=by
    apply List.ext_getElem?;intro r;by_cases hr:r < szOf ty e
    ·rw[List.getElem?_map,List.getElem?_range hr,Option.map_some,hq r hr,List.getElem?_eq_getElem (by omega)];rfl
    ·rw[List.getElem?_eq_none (by omega),List.getElem?_eq_none (by simp;omega)]
   refine⟨a,g1,g2,by rw[← hcs];exact g3,fun r hr=>?_⟩;rw[hq r hr,List.getElem?_eq_getElem (by omega)];exact⟨_,rfl⟩
  obtain⟨f,hf⟩:=choose_lt hp;have hmem:∀ y ∈ (List.range len).map f,∃ i,i < len∧y=f i:=fun y hy=>by
   obtain⟨i,hi,rfl⟩:=List.mem_map.1 hy;exact⟨i,by simpa using hi,rfl⟩
  have hlv:∀ y ∈ (List.range len).map f,(leaves y).length=szOf ty e:=fun y hy=>by
   obtain⟨i,hi,rfl⟩:=hmem y hy;exact (hf i hi).2.1.len
  have hcell:∀ (j:Nat) (y:AV),(leavesL ((List.range len).map f))[j]? = some y→∃ v,w.cell? ⟨blk,off+j,none⟩=some v∧∀ okb,LR ty w okb y v:=fun j y hy=>by
   have hj:=(List.getElem?_eq_some_iff.1 hy).1;rw[leavesL_len_const _ _ hlv] at hj;simp only[List.length_map,List.length_range] at hj;have hi:j / szOf ty e < len:=Nat.div_lt_of_lt_mul (by rw[Nat.mul_comm];exact hj);have hr:j % szOf ty e < szOf ty e:=Nat.mod_lt _ hpos;have hdm:j / szOf ty e * szOf ty e+j % szOf ty e=j:=by rw[Nat.mul_comm];exact Nat.div_add_mod j _
   have:=leavesL_at (szOf ty e) _ hlv (j / szOf ty e) (f (j / szOf ty e)) (by rw[List.getElem?_map,List.getElem?_range hi];rfl) (j % szOf ty e) hr;rw[hdm,hy] at this;obtain⟨_,_,g3,g4⟩:=hf _ hi;obtain⟨v,hv⟩:=g4 _ hr;rw[hdm] at hv;refine⟨v,hv,fun okb=>?_⟩;have:=g3.2 (j % szOf ty e) y v this.symm (by rw[List.getElem?_map,List.getElem?_range hr,Option.map_some,hdm,hv];rfl);exact this w okb
  have hLR:LR ty w (fun _=>True) (.sl e ⟨false,none,false⟩ ((List.range len).map f)) (.slice (some ⟨blk,off,none⟩) ((List.range len).map f).length m):=
   .sl e _ _ blk off m (fun j=>(w.cell? ⟨blk,off+j,none⟩).getD undef) (by simpa using hlc) (by simp) (by simp) (fun _=>⟨trivial,hblk⟩) (fun y hy=>by
    obtain⟨i,hi,rfl⟩:=hmem y hy;exact (hf i hi).2.1) (fun j y hy=>by
     obtain⟨v,hv,_⟩:=hcell j y hy;rw[hv];rfl) (fun j y hy=>by
     obtain⟨v,hv,h2⟩:=hcell j y hy;rw[hv];exact h2 _)
  refine⟨(List.range len).map f,?_,fun y hy=>?_⟩
  ·simpa using hLR
  ·obtain⟨i,hi,rfl⟩:=hmem y hy;exact (hf i hi).1
mutual
def leafsD {H:Type}:DataW H→List AV
 | .lit (.string b)=>[.str ⟨b.toArray⟩]
 | .lit (.bool b)=>[.bool b]
 | .lit (.int k n)=>[.int k n]
 | .agg ps=>leafsDL ps
 | _=>[]
def leafsDL {H:Type}:List (DataW H)→List AV
 | []=>[]
 | d::r=>leafsD d++leafsDL r
end
theorem leafsDL_flat {H:Type}:∀ l:List (DataW H),leafsDL l=(l.map leafsD).flatten
 | []=>by simp[leafsDL]
 | d::r=>by simp[leafsDL,leafsDL_flat r]
inductive Plt (ty:Tys):TypeId→Prop
 | int {t:TypeId} {k:IntKind} {s b:Nat} {z:AV}:ty t=some ⟨.int k,s,b,z⟩→Plt ty t
 | bool {t:TypeId} {s b:Nat} {z:AV}:ty t=some ⟨.bool,s,b,z⟩→Plt ty t
 | str {t:TypeId} {s b:Nat} {z:AV}:ty t=some ⟨.str,s,b,z⟩→Plt ty t
 | st {t:TypeId} {ts:List TypeId} {s b:Nat} {z:AV}:ty t=some ⟨.struct ts,s,b,z⟩→s=(ts.map (szOf ty)).sum→(∀ u ∈ ts,Plt ty u)→Plt ty t
 | ar {t e:TypeId} {n s b:Nat} {z:AV}:ty t=some ⟨.array n e,s,b,z⟩→s=n * szOf ty e→Plt ty e→Plt ty t
theorem F2_parts (R:AV→Value→Prop):∀ (ss:List Nat) (ps:List (List AV)) (cs:List Value),ps.length=ss.length→cs.length=ss.sum→
 (∀ (i:Nat) (p:List AV) (s:Nat),ps[i]? = some p→ss[i]? = some s→F2 R p ((cs.drop (ss.take i).sum).take s))→F2 R ps.flatten cs
 | [],[],cs,_,hc,_=>by
   have:cs=[]:=List.eq_nil_of_length_eq_zero (by simpa using hc);subst this;exact⟨rfl,fun i x v hx=>by simp at hx⟩
 | s::ss,p::ps,cs,hl,hc,h=>by
   have h0:=h 0 p s rfl rfl;simp only[List.take_zero,List.sum_nil,List.drop_zero] at h0;have hr:=F2_parts R ss ps (cs.drop s) (by simpa using hl) (by simp only[List.sum_cons] at hc;simp only[List.length_drop];omega) (fun i y v hy hv=>by
    have:=h (i+1) y v (by simpa using hy) (by simpa using hv);simp only[List.take_succ_cons,List.sum_cons] at this;rw[List.drop_drop];exact this)
   have:=F2_append h0 hr;rw[List.take_append_drop] at this;simpa using this
 | [],_::_,_,hl,_,_=>by simp at hl
 | _::_,[],_,hl,_,_=>by simp at hl
theorem Plt.size (hT:TyOk P ty) {t:TypeId} (h:Plt ty t):szOf ty t=P.cellsOf t:=by
 cases h with
 | int h=>rw[cellsOf_ty hT h];simp[szOf,h]
 | bool h=>rw[cellsOf_ty hT h];simp[szOf,h]
 | str h=>rw[cellsOf_ty hT h];simp[szOf,h]
 | st h=>rw[cellsOf_ty hT h];simp[szOf,h]
 | ar h=>rw[cellsOf_ty hT h];simp[szOf,h]
theorem read_lit (hT:TyOk P ty) {t:TypeId} (hp:Plt ty t):∀ (fuel:Nat) (cs:List Value) (x:DataW H × List MemPlace),DataW.trod enc P w 0 spare held fuel t cs=some x→F2 (AnyL ty) (leafsD x.1) cs:=by
 induction hp with
 | @int t k s b z ht=>
   intro fuel cs x h;obtain⟨n,rfl,rfl,hw⟩:=DataW.trod_int (show P.underlying t=some (.int k) from (hT t _ ht).kind) h;exact F2_one fun w okb=> .int k n
 | @bool t s b z ht=>
   intro fuel cs x h;obtain⟨n,rfl,rfl⟩:=DataW.trod_bool (show P.underlying t=some .bool from (hT t _ ht).kind) h;exact F2_one fun w okb=> .bool n
 | @str t s b z ht=>
   intro fuel cs x h;obtain⟨n,rfl,rfl,hw⟩:=DataW.trod_string (show P.underlying t=some .string from (hT t _ ht).kind) h;refine F2_one fun w okb=>?_
   have:(⟨n.data.toList.toArray⟩:ByteArray)=n:=by simp
   rw[this];exact .str n
 | @st t ts s b z ht hs hu ih=>
   intro fuel cs x h;obtain⟨fds,hk,hsz,hfd⟩:=(hT t _ ht).kind;obtain⟨xs,n,_,rfl,hcl,hxl,hx⟩:=DataW.trod_struct hk h;have hcs:cs.length=(ts.map (szOf ty)).sum:=by rw[hcl,cellsOf_ty hT ht];exact hs
   simp only[leafsD,leafsDL_flat,List.map_map];refine F2_parts _ (ts.map (szOf ty)) _ cs (by simp;omega) hcs fun i p sz hp hs2=>?_
   rw[List.getElem?_map] at hp hs2;cases hxi:xs[i]? with
   | none=>rw[hxi] at hp;cases hp
   | some y=>
     rw[hxi] at hp;injection hp with hp;subst hp
     cases hti:ts[i]? with
     | none=>rw[hti] at hs2;cases hs2
     | some u=>
       rw[hti] at hs2;injection hs2 with hs2;subst hs2
       have hif:i < fds.size:=by have:=(List.getElem?_eq_some_iff.1 hti).1;omega
       obtain⟨e1,e2⟩:=hfd i fds[i] (Array.getElem?_eq_getElem hif);have e3:=hx i fds[i] (Array.getElem?_eq_getElem hif);rw[hti] at e1;injection e1 with e1
       have hmem:u ∈ ts:=List.mem_of_getElem? hti;rw[hxi,e2,← e1,← (hu u hmem).size hT] at e3;rw[← List.map_take];exact ih u hmem n _ _ e3
 | @ar t e m s b z ht hs he ih=>
   intro fuel cs x h;have hk:P.underlying t=some (.array m e):=(hT t _ ht).kind;cases fuel with
   | zero=>simp[DataW.trod] at h
   | succ n=>
     simp only[DataW.trod,hk] at h;split at h
     ·rename_i hl;obtain⟨xs,hm,rfl⟩:=Option.map_eq_some_iff.1 h;have hsz:=he.size hT;have hcs:cs.length=m * szOf ty e:=by rw[hl,cellsOf_ty hT ht];exact hs
      have hxl:xs.length=m:=by simpa using mapM_some_length hm
      simp only[leafsD,leafsDL_flat,List.map_map];refine F2_parts _ (List.replicate m (szOf ty e)) _ cs (by simp;omega) (by simp[hcs]) fun i p sz hp hs2=>?_
      rw[List.getElem?_map] at hp;cases hxi:xs[i]? with
      | none=>rw[hxi] at hp;cases hp
      | some y=>
        rw[hxi] at hp;injection hp with hp;subst hp
        have hi:i < m:=by have:=(List.getElem?_eq_some_iff.1 hxi).1;omega
        rw[List.getElem?_replicate,if_pos hi] at hs2;injection hs2 with hs2;subst hs2
        have e3:=mapM_some_get hm i i (by simp[hi]);rw[hxi,← hsz] at e3;rw[List.take_replicate,List.sum_replicate_nat,Nat.min_eq_left (Nat.le_of_lt hi)];exact ih n _ _ e3
     ·cases h
end
end Go.Abs
end
