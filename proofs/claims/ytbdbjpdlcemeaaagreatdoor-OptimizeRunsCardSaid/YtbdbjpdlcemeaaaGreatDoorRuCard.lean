/- A part of a proof. -/
import Derived.Test.YtbdbjpdlcemeaaaGreatDoorCards
import Derived.Test.YtbdbjpdlcemeaaaGreatDoorTie
import Derived.WalkKit
import Derived.OpenShut
import Derived.Deep.DeepHandedRow
import Derived.Lib.LaidTab
import Derived.SevenTiedAt
import Derived.Test.YtbdbjpdlcemeaaaGreatDoorRu24
import Derived.Test.YtbdbjpdlcemeaaaGreatDoorRu25
set_option linter.unusedSimpArgs false
set_option linter.unusedVariables false
section
set_option maxRecDepth 100000
namespace Go.Proofs.YtbdbjpdlcemeaaaGreatDoor
open Go Go.ChangeShapes Go.WideShapes Go.ChangeAt Go.RowKit Go.Abs Go.Proofs.Tryz
namespace RunsR
theorem own:ownKnob Tryz.prog.godebug=none:=by kernel_rfl
theorem laidOut:laidOutB Tryz.prog=true:=by kernel_rfl
theorem abq:Tryz.prog.readableRec 27=true:=by kernel_rfl
theorem abr:27 < Tryz.prog.types.size:=of_decide_eq_true (by kernel_rfl)
theorem avf:Tryz.prog.readableRec 42=true:=by kernel_rfl
theorem avg:42 < Tryz.prog.types.size:=of_decide_eq_true (by kernel_rfl)
theorem fn:Tryz.prog.funcs[6]? = some Tryz.f6:=Tryz.h6
theorem atU {H:Type} {enc:TypeId × Value→H} {w:World} {held:Bool} {base:Nat} {v:Value} {d:DataW H} {ps:List MemPlace} (hv:Value.okWide Tryz.prog w .any base 42 v) (h:DataW.Trod enc Tryz.prog w 0 (fun _=>true) held 42 v d ps) :
 ∃ ls:List ct,nz ty w (fun _ _=>True) (.sl 29 ⟨false,none,false⟩ (ls.map bo)) v∧∀ s ∈ ls,bM s.at_:=by
 obtain⟨fuel,h⟩:=h;have k42:=((cF.ok 42 _ TL).kind).1;have hv':Cell.okWide Tryz.prog w .any base 42 v:=by simpa only[Value.okWide,k42] using hv
 have hc:(Value.cells v).toList=[v]:=by cases v <;> first | rfl | (exfalso;simp[Cell.okWide,Cell.ok,k42] at hv')
 rw[hc] at h;obtain⟨es,l,q⟩:=m8 cF.ok TL awZ h (Tm k42 hv');obtain⟨ls,rfl,hq⟩:=si (f:=bo) (Q:=fun s=>bM s.rule∧bM s.at_) (fun x hx=>auE hx) q;exact⟨ls,l,fun s hs=>(hq s hs).2⟩
theorem P5 (H:Type) (enc:TypeId × Value→H) (W:World) (base:Nat) (args:Array Value) (ds gs:List (DataW H)) (ao:List MemPlace)
 (LK:∀ (j:Nat) t v,Tryz.f6.params[j]? = some t→args[j]? = some v→Value.okWide Tryz.prog W .any base t v)
 (hW:DataW.Whole enc Tryz.prog Tryz.f6.params.toList Rows.optimizeRunsSpec.vars false W args.toList ds gs ao) (hL:laidMetH Tryz.prog Rows.optimizeRunsRow.laid W) :
 Calls Tryz.prog 6 args W fun e W'=>∃ v,e = .returned v∧Rows.optimizeRunsSpec.post enc Tryz.prog Tryz.f6 false true false false W args v W':=by
 have hW':=hW;obtain⟨p,q,hA0,hV,rfl,hfz,hnd⟩:=hW;have hA:DataW.TrodAll enc Tryz.prog W 0 (fun _=>true) true [27,42] args.toList ds p:=hA0;obtain⟨v0,vs0,d0,ds0,p0,q0,Hj,rfl,rfl,h0,r0⟩:=trodAll_cons hA;obtain⟨v1,vs1,d1,ds1,p1,q1,rfl,rfl,rfl,h1,r1⟩:=trodAll_cons r0;obtain⟨rfl,rfl,rfl⟩:=trodAll_nil r1;obtain rfl:args = #[v0,v1]:=by cases args;simp_all
 obtain⟨rfl,rfl⟩:=trodVars_none hV;have i4:Tryz.prog.underlying 4=some .bool:=(cF.ok 4 _ vh).kind;obtain⟨c,hc,hb⟩:=KR (LK 0 27 v0 rfl rfl) h0;obtain⟨ls,Uk,K3⟩:=atU (LK 1 42 v1 rfl rfl) h1;have hg:laidMet Tryz.prog Rows.optimizeRunsRow.laid W:=hL;have ret:=(azj _ _ (awY c.ops c.ints c.strs c.U ls ⟨fun o ho=>(hb.ops o ho).n,hb.ints,hb.strs,fun r hr=>⟨(hb.U r hr).str,(hb.U r hr).mem⟩,K3⟩)).2;have walk:=ret (fun _=>True) W [v0,v1] (gH hc (gH Uk ⟨rfl,fun i x v hx=>by simp at hx⟩)) (aiL hg);refine walk.mono fun e W' ⟨v,he,dt,hv⟩=>?_
 have hv':v = .bool true:=by
  have:LR ty W' _ (.bool true) v:=hv;cases this;rfl
 subst hv';have aR:∀ x ∈ p0++(p1++[]),x.block < W.heap.size:=fun x hx=>DataW.TrodAll.lt hA x (by simpa using hx)
 have h0':DataW.Trod enc Tryz.prog W' 0 (fun b=>decide (b < W.heap.size)) true 27 v0 d0 p0:=Go.WideElems.Trod_stays laidOut abq abr h0 (fun x hx=>dt.same (aR x (by simp[hx]))) (fun x hx=>by simpa using aR x (by simp[hx]));have h1':DataW.Trod enc Tryz.prog W' 0 (fun b=>decide (b < W.heap.size)) true 42 v1 d1 p1:=Go.WideElems.Trod_stays laidOut avf avg h1 (fun x hx=>dt.same (aR x (by simp[hx]))) (fun x hx=>by simpa using aR x (by simp[hx]));refine⟨_,he,[d0,d1],[],(p0++(p1++[]))++[],[],p0++(p1++[]),[],hW',?_,?_,rfl,dt.frame _,fun h=>by cases h⟩
 ·exact trodAll_mk1 (shut_bool i4 true)
 ·exact trodAll_cons_mk h0' (trodAll_cons_mk h1' rfl)
def G8:Array Value:=((sQ.map fun f=>[Value.string f.name,.bool f.d,.bool f.a,.bool f.b,.bool f.n]).flatten).toArray
def KS:Array Value:=#[.int .i64 4,.bool true,.int .i64 4,.bool false,.int .i64 8,.bool true,.int .i64 8,.bool false]
noncomputable def tf (os:Os):World:=
 { World.holding Tryz.prog os ⟨#[],#[],[]⟩ with heap:=((World.holding Tryz.prog os ⟨#[],#[],[]⟩).heap.modify 0 (fun | .cells _ t frozen=> .cells G8 t frozen | o=>o)).modify 2 (fun | .cells _ t frozen=> .cells KS t frozen | o=>o) }
def vL:Value:= .agg #[.slice none 0 0,.slice none 0 0,.slice none 0 0,.slice none 0 0]
def ajn:Value:= .agg #[.int .i64 0,.int .i64 0]
def aiM:Value:= .slice none 0 0
theorem P6 (os:Os):laidMet Tryz.prog Rows.optimizeRunsRow.laid ((tf os).forCall (fun _ _=>0) ⟨#[],#[vL,aiM],[]⟩).memory:=
 laidMet_of_run' 8 (by kernel_rfl) (by kernel_rfl)
theorem reads (os:Os) {H:Type} (enc:TypeId × Value→H):∃ places,DataW.whole enc Tryz.prog ((tf os).forCall (fun _ _=>0) ⟨#[],#[vL,aiM],[]⟩).memory Tryz.f6.params.toList Rows.optimizeRunsSpec.vars false #[vL,aiM].toList 8=some ([.agg [.nil,.nil,.nil,.nil],.nil],[],places):=
 ⟨[],by kernel_rfl⟩
theorem lifted (os:Os) (started:os.Started) (H:Type) (enc:TypeId × Value→H) (F:Stop.Interp) :
 ReturnsInHanded {} Tryz.checked os 6 .any ((OpenSpec.ofChange Rows.optimizeRunsSpec).preRow enc Tryz.prog Tryz.f6 Rows.optimizeRunsRow.domain false Rows.optimizeRunsRow.laid) (((OpenSpec.ofChange Rows.optimizeRunsSpec).at F).post enc Tryz.prog Tryz.f6 false true false false):=by
 obtain⟨places,hx⟩:=reads os enc;refine returnsInHanded_of_row (C:=Tryz.checked) (s:=OpenSpec.ofChange Rows.optimizeRunsSpec) own started (by kernel_rfl) fn
  (witness_row_at (enc:=enc) (C:=Tryz.checked) false (tf os) #[vL,aiM] rfl (by kernel_rfl) (by kernel_rfl) (by kernel_rfl)
    (OpenSpec.preRow_of_cond 8 hx (by kernel_rfl) (fun k hk=>by cases hk) (by kernel_rfl) (P6 os))) ?_
 intro W base args ds gs ao LK hW _ _ _ hL _ _;exact P5 H enc W base args ds gs ao LK hW hL
theorem said:Rows.OptimizeRunsSaid:=
 OpenClaim.holds_of_cond 6 Tryz.f6 rfl rfl rfl rfl rfl rfl rfl ⟨rfl,rfl,rfl,rfl,rfl⟩ rfl rfl rfl rfl rfl (by kernel_rfl) fn (by kernel_rfl)
  (of_decide_eq_true (by kernel_rfl)) (by unfold Func.isWrapper;first | (rw[if_pos (by decide +kernel)];kernel_rfl) | (rw[if_neg (by decide +kernel)];exact⟨rfl,rfl⟩))
  (fun os started H enc _ F=>by rw[OpenClaim.pre_eq_preRow];exact lifted os started H enc F)
theorem plain (f:FuncId) (g:Func) (hf:Tryz.pinned.checked.prog.funcNamed "tapline/taplinelaw17.OptimizeRuns" = some f) (FE:Tryz.pinned.checked.prog.funcs[f]? = some g) :
 false=Tryz.pinned.checked.prog.looks []∧∀ (j:Nat) t,g.params[j]? = some t→Tryz.pinned.checked.prog.wantsStandIn t=false:=by
 obtain rfl:f=6:=Option.some.inj ((show Tryz.prog.funcNamed "tapline/taplinelaw17.OptimizeRuns" = some 6 by kernel_rfl).symm.trans hf) |>.symm
 obtain rfl:g=Tryz.f6:=(Option.some.inj (fn.symm.trans FE)).symm;refine⟨by kernel_rfl,fun j t ht=>?_⟩;have:t=27∨t=42:=by
  have:=Array.mem_of_getElem? ht;rw[show Tryz.f6.params = #[27,42] from rfl] at this;simpa using this
 rcases this with rfl | rfl
 ·exact (show Tryz.prog.wantsStandIn 27=false by kernel_rfl)
 ·exact (show Tryz.prog.wantsStandIn 42=false by kernel_rfl)
end RunsR
theorem runs_card:Rows.OptimizeRunsCardSaid:=
 Claim7.holds_tied_plain_at .later [] _ _ _ _ RunsR.said (fun _ h=>by cases h) (by kernel_rfl) (fun _ h=>by cases h) optimizeRuns_row_tie rfl ⟨rfl,rfl⟩ (by kernel_rfl) rfl RunsR.plain (by kernel_rfl)
end Go.Proofs.YtbdbjpdlcemeaaaGreatDoor
end
