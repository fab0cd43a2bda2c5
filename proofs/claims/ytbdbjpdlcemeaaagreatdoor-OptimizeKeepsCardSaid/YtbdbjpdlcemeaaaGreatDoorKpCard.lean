/- OptimizeKeeps: the card. -/
import Derived.Test.YtbdbjpdlcemeaaaGreatDoorCards
import Derived.Test.YtbdbjpdlcemeaaaGreatDoorTie
import Derived.WalkKit
import Derived.OpenShut
import Derived.Deep.DeepHandedRow
import Derived.Lib.LaidTab
import Derived.SevenTiedAt
import Derived.Test.YtbdbjpdlcemeaaaGreatDoorKp17
import Derived.Test.YtbdbjpdlcemeaaaGreatDoorKp18
set_option linter.unusedSimpArgs false
set_option linter.unusedVariables false
section
set_option maxRecDepth 100000
namespace Go.Proofs.YtbdbjpdlcemeaaaGreatDoor
open Go Go.ChangeShapes Go.WideShapes Go.ChangeAt Go.RowKit Go.Abs Go.Proofs.Tryz
namespace KeepsR
theorem own:ownKnob Tryz.prog.godebug=none:=by kernel_rfl
theorem laidOut:laidOutB Tryz.prog=true:=by kernel_rfl
theorem read27:Tryz.prog.readableRec 27=true:=by kernel_rfl
theorem size27:27 < Tryz.prog.types.size:=of_decide_eq_true (by kernel_rfl)
theorem read29:Tryz.prog.readableRec 29=true:=by kernel_rfl
theorem size29:29 < Tryz.prog.types.size:=of_decide_eq_true (by kernel_rfl)
theorem fn:Tryz.prog.funcs[5]? = some Tryz.f5:=Tryz.h5
theorem read_step {H:Type} {enc:TypeId × Value→H} {w:World} {held:Bool} {base:Nat} {v:Value} {d:DataW H} {ps:List MemPlace} (hv:Value.okWide Tryz.prog w .any base 29 v) (h:DataW.Trod enc Tryz.prog w 0 (fun _=>true) held 29 v d ps) :
 ∃ s:XStep,CR1 ty w (fun _ _=>True) (.st 29 [.int .i64 s.rule,.int .i64 s.at_]) v:=by
 obtain⟨fuel,h⟩:=h
 obtain⟨fds,hk,hsz,hfd⟩:=(tabs.ok 29 _ ty_29).kind
 simp only[Value.okWide,hk] at hv
 obtain⟨cs,rfl,hcl,hrow⟩:=hv
 obtain⟨a,ht,hcf,hl⟩:=read_plain tabs.ok pln29 fuel _ _ h
 obtain⟨s,rfl,_,_⟩:=tv_step ht
 exact⟨s,cs,rfl,hcf,hl.1,fun i x v hx hv=>hl.2 i x v hx hv _ _⟩
theorem contract (H:Type) (enc:TypeId × Value→H) (W:World) (base:Nat) (args:Array Value) (ds gs:List (DataW H)) (before:List MemPlace)
 (hval:∀ (j:Nat) t v,Tryz.f5.params[j]? = some t→args[j]? = some v→Value.okWide Tryz.prog W .any base t v)
 (hW:DataW.Whole enc Tryz.prog Tryz.f5.params.toList Rows.optimizeKeepsSpec.vars false W args.toList ds gs before) (hL:laidMetH Tryz.prog Rows.optimizeKeepsRow.laid W) :
 Calls Tryz.prog 5 args W fun e W'=>∃ v,e = .returned v∧Rows.optimizeKeepsSpec.post enc Tryz.prog Tryz.f5 false true false false W args v W':=by
 have hW':=hW
 obtain⟨p,q,hA0,hV,rfl,hfz,hnd⟩:=hW
 have hA:DataW.TrodAll enc Tryz.prog W 0 (fun _=>true) true [27,29] args.toList ds p:=hA0
 obtain⟨v0,vs0,d0,ds0,p0,q0,hargs,rfl,rfl,h0,r0⟩:=trodAll_cons hA
 obtain⟨v1,vs1,d1,ds1,p1,q1,rfl,rfl,rfl,h1,r1⟩:=trodAll_cons r0
 obtain⟨rfl,rfl,rfl⟩:=trodAll_nil r1
 obtain rfl:args = #[v0,v1]:=by cases args;simp_all
 obtain⟨rfl,rfl⟩:=trodVars_none hV
 have i4:Tryz.prog.underlying 4=some .bool:=(tabs.ok 4 _ ty_4).kind
 obtain⟨y,hy⟩:=read_step (hval 1 29 v1 rfl rfl) h1
 obtain⟨c,hc,hb⟩:=read_code (hval 0 27 v0 rfl rfl) h0
 have hg:laidMet Tryz.prog Rows.optimizeKeepsRow.laid W:=hL
 have ret:=(snd5 _ _ (c5_eq c y.rule y.at_ ⟨fun o ho=>(hb.ops o ho).n,hb.ints,hb.strs,fun r hr=>⟨(hb.rels r hr).str,(hb.rels r hr).mem⟩,keep_law c y.rule y.at_ hb.strs⟩)).2
 have walk:=ret (fun _=>True) W [v0,v1] (F2_cons hc (F2_cons hy ⟨rfl,fun i x v hx=>by simp at hx⟩)) (globs (glob_forms hg))
 refine walk.mono fun e W' ⟨v,he,hbl,hv⟩=>?_
 have hv':v = .bool true:=by
  have:LR ty W' _ (.bool true) v:=hv
  cases this;rfl
 subst hv'
 have hlt:∀ x ∈ p0++(p1++[]),x.block < W.heap.size:=fun x hx=>DataW.TrodAll.lt hA x (by simpa using hx)
 have h0':DataW.Trod enc Tryz.prog W' 0 (fun b=>decide (b < W.heap.size)) true 27 v0 d0 p0:=Go.WideElems.Trod_stays laidOut read27 size27 h0 (fun x hx=>hbl.same (hlt x (by simp[hx]))) (fun x hx=>by simpa using hlt x (by simp[hx]))
 have h1':DataW.Trod enc Tryz.prog W' 0 (fun b=>decide (b < W.heap.size)) true 29 v1 d1 p1:=Go.WideElems.Trod_stays laidOut read29 size29 h1 (fun x hx=>hbl.same (hlt x (by simp[hx]))) (fun x hx=>by simpa using hlt x (by simp[hx]))
 refine⟨_,he,[d0,d1],[],(p0++(p1++[]))++[],[],p0++(p1++[]),[],hW',?_,?_,rfl,hbl.frame _,fun h=>by cases h⟩
 ·exact trodAll_mk1 (shut_bool i4 true)
 ·exact trodAll_cons_mk h0' (trodAll_cons_mk h1' rfl)
def formsCells:Array Value:=((formsL.map fun f=>[Value.string f.name,.bool f.d,.bool f.a,.bool f.b,.bool f.n]).flatten).toArray
noncomputable def laidWorld (os:Os):World:=
 { World.holding Tryz.prog os ⟨#[],#[],[]⟩ with heap:=(World.holding Tryz.prog os ⟨#[],#[],[]⟩).heap.modify 0 fun
    | .cells _ t frozen=> .cells formsCells t frozen
    | o=>o }
def nilCode:Value:= .agg #[.slice none 0 0,.slice none 0 0,.slice none 0 0,.slice none 0 0]
def nilStep:Value:= .agg #[.int .i64 0,.int .i64 0]
theorem laid_met (os:Os):laidMet Tryz.prog Rows.optimizeKeepsRow.laid ((laidWorld os).forCall (fun _ _=>0) ⟨#[],#[nilCode,nilStep],[]⟩).memory:=
 laidMet_of_run' 8 (by kernel_rfl) (by kernel_rfl)
theorem reads (os:Os) {H:Type} (enc:TypeId × Value→H):∃ places,DataW.whole enc Tryz.prog ((laidWorld os).forCall (fun _ _=>0) ⟨#[],#[nilCode,nilStep],[]⟩).memory Tryz.f5.params.toList Rows.optimizeKeepsSpec.vars false #[nilCode,nilStep].toList 8=some ([.agg [.nil,.nil,.nil,.nil],.agg [.lit (.int .i64 0),.lit (.int .i64 0)]],[],places):=
 ⟨[],by kernel_rfl⟩
theorem lifted (os:Os) (started:os.Started) (H:Type) (enc:TypeId × Value→H) (F:Stop.Interp) :
 ReturnsInHanded {} Tryz.checked os 5 .any ((OpenSpec.ofChange Rows.optimizeKeepsSpec).preRow enc Tryz.prog Tryz.f5 Rows.optimizeKeepsRow.domain false Rows.optimizeKeepsRow.laid) (((OpenSpec.ofChange Rows.optimizeKeepsSpec).at F).post enc Tryz.prog Tryz.f5 false true false false):=by
 obtain⟨places,hx⟩:=reads os enc
 refine returnsInHanded_of_row (C:=Tryz.checked) (s:=OpenSpec.ofChange Rows.optimizeKeepsSpec) own started (by kernel_rfl) fn
  (witness_row_at (enc:=enc) (C:=Tryz.checked) false (laidWorld os) #[nilCode,nilStep] rfl (by kernel_rfl) (by kernel_rfl) (by kernel_rfl)
    (OpenSpec.preRow_of_cond 8 hx (by kernel_rfl) (fun k hk=>by cases hk) (by kernel_rfl) (laid_met os))) ?_
 intro W base args ds gs before hval hW _ _ _ hL _ _
 exact contract H enc W base args ds gs before hval hW hL
theorem said:Rows.OptimizeKeepsSaid:=
 OpenClaim.holds_of_cond 5 Tryz.f5 rfl rfl rfl rfl rfl rfl rfl ⟨rfl,rfl,rfl,rfl,rfl⟩ rfl rfl rfl rfl rfl (by kernel_rfl) fn (by kernel_rfl)
  (of_decide_eq_true (by kernel_rfl)) (by unfold Func.isWrapper;first | (rw[if_pos (by decide +kernel)];kernel_rfl) | (rw[if_neg (by decide +kernel)];exact⟨rfl,rfl⟩))
  (fun os started H enc _ F=>by rw[OpenClaim.pre_eq_preRow];exact lifted os started H enc F)
theorem plain (f:FuncId) (g:Func) (hf:Tryz.pinned.checked.prog.funcNamed "tapline/taplinelaw17.OptimizeKeeps" = some f) (hfn:Tryz.pinned.checked.prog.funcs[f]? = some g) :
 false=Tryz.pinned.checked.prog.looks []∧∀ (j:Nat) t,g.params[j]? = some t→Tryz.pinned.checked.prog.wantsStandIn t=false:=by
 obtain rfl:f=5:=Option.some.inj ((show Tryz.prog.funcNamed "tapline/taplinelaw17.OptimizeKeeps" = some 5 by kernel_rfl).symm.trans hf) |>.symm
 obtain rfl:g=Tryz.f5:=(Option.some.inj (fn.symm.trans hfn)).symm
 refine⟨by kernel_rfl,fun j t ht=>?_⟩
 have:t=27∨t=29:=by
  have:=Array.mem_of_getElem? ht
  rw[show Tryz.f5.params = #[27,29] from rfl] at this
  simpa using this
 rcases this with rfl | rfl
 ·exact (show Tryz.prog.wantsStandIn 27=false by kernel_rfl)
 ·exact (show Tryz.prog.wantsStandIn 29=false by kernel_rfl)
end KeepsR
theorem keeps_card:Rows.OptimizeKeepsCardSaid:=
 Claim7.holds_tied_plain_at .later [] _ _ _ _ KeepsR.said (fun _ h=>by cases h) (by kernel_rfl) (fun _ h=>by cases h) optimizeKeeps_row_tie rfl ⟨rfl,rfl⟩ (by kernel_rfl) rfl KeepsR.plain (by kernel_rfl)
end Go.Proofs.YtbdbjpdlcemeaaaGreatDoor
end
