/- OptimizePools: for every input the law returns true, and the input reads behind the call as it read before; no condition of our own. -/
import Derived.Test.YtbdbjpdlcemeaaaDoorCards
import Derived.Test.YtbdbjpdlcemeaaaDoorTie
import Derived.WalkKit
import Derived.OpenShut
import Derived.Deep.DeepHandedRow
import Derived.Lib.LaidTab
import Derived.SevenTiedAt
import Derived.Test.YtbdbjpdlcemeaaaDoorDp18
import Derived.Test.YtbdbjpdlcemeaaaDoorDp20
set_option linter.unusedSimpArgs false
set_option linter.unusedVariables false
section
set_option maxRecDepth 100000
namespace Go.Proofs.YtbdbjpdlcemeaaaDoor
open Go Go.ChangeShapes Go.WideShapes Go.ChangeAt Go.RowKit Go.Abs Go.Proofs.Tryd
namespace PoolsR
theorem own:ownKnob Tryd.prog.godebug=none:=by kernel_rfl
theorem laidOut:laidOutB Tryd.prog=true:=by kernel_rfl
theorem read27:Tryd.prog.readableRec 27=true:=by kernel_rfl
theorem size27:27 < Tryd.prog.types.size:=of_decide_eq_true (by kernel_rfl)
theorem fn:Tryd.prog.funcs[3]? = some Tryd.f3:=Tryd.h1003
theorem contract (H:Type) (enc:TypeId × Value→H) (W:World) (base:Nat) (args:Array Value) (ds gs:List (DataW H)) (before:List MemPlace)
 (hval:∀ (j:Nat) t v,Tryd.f3.params[j]? = some t→args[j]? = some v→Value.okWide Tryd.prog W .any base t v)
 (hW:DataW.Whole enc Tryd.prog Tryd.f3.params.toList Rows.optimizePoolsSpec.vars false W args.toList ds gs before) (hL:laidMetH Tryd.prog Rows.optimizePoolsRow.laid W) :
 Calls Tryd.prog 3 args W fun e W'=>∃ v,e = .returned v∧Rows.optimizePoolsSpec.post enc Tryd.prog Tryd.f3 false true false false W args v W':=by
 have hW':=hW;obtain⟨p,q,hA0,hV,rfl,hfz,hnd⟩:=hW;have hA:DataW.TrodAll enc Tryd.prog W 0 (fun _=>true) true [27] args.toList ds p:=hA0;obtain⟨v0,vs0,d0,ds0,p0,q0,hargs,rfl,rfl,h0,r0⟩:=trodAll_cons hA;obtain⟨rfl,rfl,rfl⟩:=trodAll_nil r0;obtain rfl:args = #[v0]:=by cases args;simp_all
 obtain⟨rfl,rfl⟩:=trodVars_none hV;have i4:Tryd.prog.underlying 4=some .bool:=(tabs.ok 4 _ ty_4).kind;obtain⟨c,hc,hb⟩:=read_code (hval 0 27 v0 rfl rfl) h0;have hg:laidMet Tryd.prog Rows.optimizePoolsRow.laid W:=hL;have ret:=(snd1003 _ _ (c1003_eq c.ops c.ints c.strs c.rels ⟨fun o ho=>(hb.ops o ho).n,hb.ints,fun r hr=>⟨(hb.rels r hr).str,(hb.rels r hr).mem⟩⟩)).2;have walk:=ret (fun _=>True) W [v0] (F2_cons hc ⟨rfl,fun i x v hx=>by simp at hx⟩) (globs (glob_forms hg));refine walk.mono fun e W' ⟨v,he,hbl,hv⟩=>?_
 have hv':v = .bool true:=by
  have:LR ty W' _ (.bool true) v:=hv;cases this;rfl
 subst hv';have hlt:∀ x ∈ p0++[],x.block < W.heap.size:=fun x hx=>DataW.TrodAll.lt hA x (by simpa using hx)
 have h0':DataW.Trod enc Tryd.prog W' 0 (fun b=>decide (b < W.heap.size)) true 27 v0 d0 p0:=Go.WideElems.Trod_stays laidOut read27 size27 h0 (fun x hx=>hbl.same (hlt x (by simp[hx]))) (fun x hx=>by simpa using hlt x (by simp[hx]));refine⟨_,he,[d0],[],(p0++[])++[],[],p0++[],[],hW',?_,?_,rfl,hbl.frame _,fun h=>by cases h⟩
 ·exact trodAll_mk1 (shut_bool i4 true)
 ·exact trodAll_cons_mk h0' rfl
def formsCells:Array Value:=((formsL.map fun f=>[Value.string f.name,.bool f.d,.bool f.a,.bool f.b,.bool f.n]).flatten).toArray
noncomputable def laidWorld (os:Os):World:=
 { World.holding Tryd.prog os ⟨#[],#[],[]⟩ with heap:=(World.holding Tryd.prog os ⟨#[],#[],[]⟩).heap.modify 0 (fun | .cells _ t frozen=> .cells formsCells t frozen | o=>o) }
def nilCode:Value:= .agg #[.slice none 0 0,.slice none 0 0,.slice none 0 0,.slice none 0 0]
theorem laid_met (os:Os):laidMet Tryd.prog Rows.optimizePoolsRow.laid ((laidWorld os).forCall (fun _ _=>0) ⟨#[],#[nilCode],[]⟩).memory:=
 laidMet_of_run' 8 (by kernel_rfl) (by kernel_rfl)
theorem reads (os:Os) {H:Type} (enc:TypeId × Value→H):∃ places,DataW.whole enc Tryd.prog ((laidWorld os).forCall (fun _ _=>0) ⟨#[],#[nilCode],[]⟩).memory Tryd.f3.params.toList Rows.optimizePoolsSpec.vars false #[nilCode].toList 8=some ([.agg [.nil,.nil,.nil,.nil]],[],places):=
 ⟨[],by kernel_rfl⟩
theorem lifted (os:Os) (started:os.Started) (H:Type) (enc:TypeId × Value→H) (F:Stop.Interp) :
 ReturnsInHanded {} Tryd.checked os 3 .any ((OpenSpec.ofChange Rows.optimizePoolsSpec).preRow enc Tryd.prog Tryd.f3 Rows.optimizePoolsRow.domain false Rows.optimizePoolsRow.laid) (((OpenSpec.ofChange Rows.optimizePoolsSpec).at F).post enc Tryd.prog Tryd.f3 false true false false):=by
 obtain⟨places,hx⟩:=reads os enc;refine returnsInHanded_of_row (C:=Tryd.checked) (s:=OpenSpec.ofChange Rows.optimizePoolsSpec) own started (by kernel_rfl) fn
  (witness_row_at (enc:=enc) (C:=Tryd.checked) false (laidWorld os) #[nilCode] rfl (by kernel_rfl) (by kernel_rfl) (by kernel_rfl)
    (OpenSpec.preRow_of_cond 8 hx (by kernel_rfl) (fun k hk=>by cases hk) (by kernel_rfl) (laid_met os))) ?_
 intro W base args ds gs before hval hW _ _ _ hL _ _;exact contract H enc W base args ds gs before hval hW hL
theorem said:Rows.OptimizePoolsSaid:=
 OpenClaim.holds_of_cond 3 Tryd.f3 rfl rfl rfl rfl rfl rfl rfl ⟨rfl,rfl,rfl,rfl,rfl⟩ rfl rfl rfl rfl rfl (by kernel_rfl) fn (by kernel_rfl)
  (of_decide_eq_true (by kernel_rfl)) (by unfold Func.isWrapper;first | (rw[if_pos (by decide +kernel)];kernel_rfl) | (rw[if_neg (by decide +kernel)];exact⟨rfl,rfl⟩))
  (fun os started H enc _ F=>by rw[OpenClaim.pre_eq_preRow];exact lifted os started H enc F)
theorem plain (f:FuncId) (g:Func) (hf:Tryd.pinned.checked.prog.funcNamed "tapline/taplinelaw17.OptimizePools" = some f) (hfn:Tryd.pinned.checked.prog.funcs[f]? = some g) :
 false=Tryd.pinned.checked.prog.looks []∧∀ (j:Nat) t,g.params[j]? = some t→Tryd.pinned.checked.prog.wantsStandIn t=false:=by
 obtain rfl:f=3:=Option.some.inj ((show Tryd.prog.funcNamed "tapline/taplinelaw17.OptimizePools" = some 3 by kernel_rfl).symm.trans hf) |>.symm
 obtain rfl:g=Tryd.f3:=(Option.some.inj (fn.symm.trans hfn)).symm;refine⟨by kernel_rfl,fun j t ht=>?_⟩;have:t=27:=by
  have:=Array.mem_of_getElem? ht;rw[show Tryd.f3.params = #[27] from rfl] at this;simpa using this
 subst this;exact (show Tryd.prog.wantsStandIn 27=false by kernel_rfl)
end PoolsR
theorem pools_card:Rows.OptimizePoolsCardSaid:=
 Claim7.holds_tied_plain_at .later [] _ _ _ _ PoolsR.said (fun _ h=>by cases h) (by kernel_rfl) (fun _ h=>by cases h) optimizePools_row_tie rfl ⟨rfl,rfl⟩ (by kernel_rfl) rfl PoolsR.plain (by kernel_rfl)
end Go.Proofs.YtbdbjpdlcemeaaaDoor
end
