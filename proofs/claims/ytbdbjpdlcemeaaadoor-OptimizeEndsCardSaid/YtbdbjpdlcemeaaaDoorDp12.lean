/- Part of the proof of one statement of this seat: an abstract machine for the program, its contracts, and the statement (no condition of our own). -/
import Derived.Test.YtbdbjpdlcemeaaaDoorDp11
set_option linter.unusedSimpArgs false
set_option linter.unusedVariables false
section
set_option maxHeartbeats 4000000
set_option maxRecDepth 20000
namespace Go.Proofs.Tryd
open Go Go.Abs
variable (ops : List XOp) (ints : List Int) (strs : List ByteArray) (rels : List XRel)
theorem h9:Tryd.prog.funcs[6]? = some f6:=by kernel_rfl
theorem run9 (A:Nat→Prop):acall (env 25 7 D0 [] [] A) hN (5) f6 [(cd ops ints strs rels)]=some (.bool (decide (ops.length≤60)&&(decide (ints.length≤60)&&(decide (strs.length≤60)&&decide (rels.length≤60))))):=by
 have c:∀ n:Nat,decide (n≤60)=decide ((n:Int)≤60):=fun n=>decide_eq_decide.2 (by omega)
 rw[c,c,c,c];cases h1:decide ((ops.length:Int)≤60) <;> cases h2:decide ((ints.length:Int)≤60) <;> cases h3:decide ((strs.length:Int)≤60) <;> cases h4:decide ((rels.length:Int)≤60);all_goals
  simp only[acall,macall,f6];simp only[go_sem,h1,h2,h3,h4];try rfl
noncomputable def c9:=famP (α:=(List XOp) × (List Int) × (List ByteArray) × (List XRel)) (fun _=>True) (fun (ops,ints,strs,rels)=>[(cd ops ints strs rels)]) (fun (ops,ints,strs,rels)=> .bool (decide (ops.length≤60)&&(decide (ints.length≤60)&&(decide (strs.length≤60)&&decide (rels.length≤60)))))
theorem c9_eq:c9 [(cd ops ints strs rels)]=some (.bool (decide (ops.length≤60)&&(decide (ints.length≤60)&&(decide (strs.length≤60)&&decide (rels.length≤60))))):=fam_eq (fun X Y hp hp' h'=>by
 obtain⟨ops,ints,strs,rels⟩:=X;obtain⟨ops',ints',strs',rels'⟩:=Y;simp only[INJ] at h';obtain⟨rfl,rfl,rfl,rfl⟩:=h';rfl) (ops,ints,strs,rels) trivial
theorem snd9:Snd 6 c9:=fam_snd h9 rfl rfl fun (ops,ints,strs,rels) _=>rc h9 (fun A=>run9 ops ints strs rels A) (fun _=>[]) rfl rfl rfl (by kernel_rfl) trivial trivial
def opEq (x y:XOp):Bool:=x.op==y.op&&(x.d==y.d&&(x.a==y.a&&(x.b==y.b&&x.n==y.n)))
def relEq (x y:XRel):Bool:=x.kind==y.kind&&(x.at_==y.at_&&((x.str.toList==y.str.toList)&&(x.mem.toList==y.mem.toList)))
def sameF (c c':XCode):Bool:=
 if (c.ops.length==c'.ops.length&&(c.ints.length==c'.ints.length&&(c.strs.length==c'.strs.length&&c.rels.length==c'.rels.length)))=true then
  (if allF (fun i=>opEq (c.ops.getD i op0) (c'.ops.getD i op0)) 0 c.ops.length=true then (if allF (fun i=>c.ints.getD i 0==c'.ints.getD i 0) 0 c.ints.length=true then
    (if allF (fun i=>(c.strs.getD i ⟨#[]⟩).toList==(c'.strs.getD i ⟨#[]⟩).toList) 0 c.strs.length=true then allF (fun i=>relEq (c.rels.getD i ⟨0,0,⟨#[]⟩,⟨#[]⟩⟩) (c'.rels.getD i ⟨0,0,⟨#[]⟩,⟨#[]⟩⟩)) 0 c.rels.length else false) else false) else false)
 else false
theorem h13:Tryd.prog.funcs[14]? = some f14:=by kernel_rfl
def H13:Nat→Hint:=fun i=>if i=4 then ({ tm:=[2,3,5],ob:=[2,3],fin:=some ([2,3,4],[2,3]) }:Hint) else if i=9 then ({ tm:=[2,3,6],ob:=[2,3],fin:=some ([2,3,4],[2,3]) }:Hint) else if i=14 then ({ tm:=[2,3,7],ob:=[2,3],fin:=some ([2,3,4],[2,3]) }:Hint) else if i=19 then ({ tm:=[2,3,8],ob:=[2,3],fin:=some ([2,3,4],[2,3]) }:Hint) else { tm:=[],ob:=[] }
theorem H13_4:H13 4=({ tm:=[2,3,5],ob:=[2,3],fin:=some ([2,3,4],[2,3]) }:Hint):=by simp[H13]
theorem H13_9:H13 9=({ tm:=[2,3,6],ob:=[2,3],fin:=some ([2,3,4],[2,3]) }:Hint):=by simp[H13]
theorem H13_14:H13 14=({ tm:=[2,3,7],ob:=[2,3],fin:=some ([2,3,4],[2,3]) }:Hint):=by simp[H13]
theorem H13_19:H13 19=({ tm:=[2,3,8],ob:=[2,3],fin:=some ([2,3,4],[2,3]) }:Hint):=by simp[H13]
theorem loop13_4 (c z:XCode) (hl:(LM c.ops c.ints c.strs c.rels)∧(LM z.ops z.ints z.strs z.rels)) (he:c.ops.length=z.ops.length) (p:Nat→Bool) (hpp:∀ i,i < c.ops.length→p i=opEq (c.ops.getD i op0) (z.ops.getD i op0)) (A:Nat→Prop) (k:Nat):∀ (m i:Nat) (σ:St),i+m=c.ops.length→
 σ.keep (H13 4)=⟨[(2,.ptr 2 (.box 27) []),(3,.ptr 3 (.box 27) []),(5,.int .i64 i)],[(2,(bC c.ops c.ints c.strs c.rels)),(3,(bC z.ops z.ints z.strs z.rels))]⟩→
 post (H13 4) (aloop ty (arun (env 115 20771801973475957295638050519384575 D0 [] [] A) H13 k (sub (f14.body.getD .skip) [1,1,0,1,0,0])) (H13 4) (m+1) σ) =
 some (if allF p i m=true then (.exit 0,⟨[(2,.ptr 2 (.box 27) []),(3,.ptr 3 (.box 27) [])],[(2,(bC c.ops c.ints c.strs c.rels)),(3,(bC z.ops z.ints z.strs z.rels))]⟩) else (.ret,⟨[(2,.ptr 2 (.box 27) []),(3,.ptr 3 (.box 27) []),(4,.bool false)],[(2,(bC c.ops c.ints c.strs c.rels)),(3,(bC z.ops z.ints z.strs z.rels))]⟩)):=by
 simp only[f14,sub,Option.getD_some,H13_4];intro m
 induction m with
 | zero=>
   intro i σ hi hσ;have h1:¬ ((i:Int) < ((c.ops.length:Nat):Int)):=by omega
   rw[aloop,hσ];simp only[go_sem,h1];simp[post,St.fin,keepL,aget,allF]
 | succ m ih=>
   intro i σ hi hσ;have h1:(i:Int) < ((c.ops.length:Nat):Int):=by omega
   have hlt:i < c.ops.length:=by omega
   obtain⟨⟨l1,l2,l3,l4⟩,_⟩:=hl;have hw:IntKind.i64.wrap ((i:Int)+1)=((i+1:Nat):Int):=wrap_nat (by omega);have hni:(0:Int)≤(i:Int):=Int.natCast_nonneg i;have hget:=getD_get (d:=op0) hlt;have hget2:=getD_get (d:=op0) (show i < z.ops.length by omega);have hpi:=hpp i hlt;generalize c.ops.getD i op0=x at *;generalize z.ops.getD i op0=y at *;try simp only[opEq,relEq] at hpi
   rw[aloop,hσ];cases hq:p i;all_goals
    rw[hq] at hpi;have hpj:=hpi.symm
    skip
   all_goals
    simp only[go_sem,h1,hni,hget,hget2,hw,hpj,hq];simp only[allF,hq,BL];first
    | (simp[post,St.fin,keepL,aget];done)
    | exact ih (i+1) _ (by omega) (by simp only[go_sem])
theorem loop13_9 (c z:XCode) (hl:(LM c.ops c.ints c.strs c.rels)∧(LM z.ops z.ints z.strs z.rels)) (he:c.ints.length=z.ints.length) (p:Nat→Bool) (hpp:∀ i,i < c.ints.length→p i=(c.ints.getD i 0==z.ints.getD i 0)) (A:Nat→Prop) (k:Nat):∀ (m i:Nat) (σ:St),i+m=c.ints.length→
 σ.keep (H13 9)=⟨[(2,.ptr 2 (.box 27) []),(3,.ptr 3 (.box 27) []),(6,.int .i64 i)],[(2,(bC c.ops c.ints c.strs c.rels)),(3,(bC z.ops z.ints z.strs z.rels))]⟩→
 post (H13 9) (aloop ty (arun (env 115 20771801973475957295638050519384575 D0 [] [] A) H13 k (sub (f14.body.getD .skip) [1,1,1,0,1,0,0])) (H13 9) (m+1) σ) =
 some (if allF p i m=true then (.exit 2,⟨[(2,.ptr 2 (.box 27) []),(3,.ptr 3 (.box 27) [])],[(2,(bC c.ops c.ints c.strs c.rels)),(3,(bC z.ops z.ints z.strs z.rels))]⟩) else (.ret,⟨[(2,.ptr 2 (.box 27) []),(3,.ptr 3 (.box 27) []),(4,.bool false)],[(2,(bC c.ops c.ints c.strs c.rels)),(3,(bC z.ops z.ints z.strs z.rels))]⟩)):=by
 simp only[f14,sub,Option.getD_some,H13_9];intro m
 induction m with
 | zero=>
   intro i σ hi hσ;have h1:¬ ((i:Int) < ((c.ints.length:Nat):Int)):=by omega
   rw[aloop,hσ];simp only[go_sem,h1];simp[post,St.fin,keepL,aget,allF]
 | succ m ih=>
   intro i σ hi hσ;have h1:(i:Int) < ((c.ints.length:Nat):Int):=by omega
   have hlt:i < c.ints.length:=by omega
   obtain⟨⟨l1,l2,l3,l4⟩,_⟩:=hl;have hw:IntKind.i64.wrap ((i:Int)+1)=((i+1:Nat):Int):=wrap_nat (by omega);have hni:(0:Int)≤(i:Int):=Int.natCast_nonneg i;have hget:=getD_get (d:=(0:Int)) hlt;have hget2:=getD_get (d:=(0:Int)) (show i < z.ints.length by omega);have hpi:=hpp i hlt;generalize c.ints.getD i (0:Int)=x at *;generalize z.ints.getD i (0:Int)=y at *;try simp only[opEq,relEq] at hpi
   rw[aloop,hσ];cases hq:p i;all_goals
    rw[hq] at hpi;have hpj:=hpi.symm
    skip
   all_goals
    simp only[go_sem,h1,hni,hget,hget2,hw,hpj,hq];simp only[allF,hq,BL];first
    | (simp[post,St.fin,keepL,aget];done)
    | exact ih (i+1) _ (by omega) (by simp only[go_sem])
theorem loop13_14 (c z:XCode) (hl:(LM c.ops c.ints c.strs c.rels)∧(LM z.ops z.ints z.strs z.rels)) (he:c.strs.length=z.strs.length) (p:Nat→Bool) (hpp:∀ i,i < c.strs.length→p i=((c.strs.getD i ⟨#[]⟩).toList==(z.strs.getD i ⟨#[]⟩).toList)) (A:Nat→Prop) (k:Nat):∀ (m i:Nat) (σ:St),i+m=c.strs.length→
 σ.keep (H13 14)=⟨[(2,.ptr 2 (.box 27) []),(3,.ptr 3 (.box 27) []),(7,.int .i64 i)],[(2,(bC c.ops c.ints c.strs c.rels)),(3,(bC z.ops z.ints z.strs z.rels))]⟩→
 post (H13 14) (aloop ty (arun (env 115 20771801973475957295638050519384575 D0 [] [] A) H13 k (sub (f14.body.getD .skip) [1,1,1,1,0,1,0,0])) (H13 14) (m+1) σ) =
 some (if allF p i m=true then (.exit 4,⟨[(2,.ptr 2 (.box 27) []),(3,.ptr 3 (.box 27) [])],[(2,(bC c.ops c.ints c.strs c.rels)),(3,(bC z.ops z.ints z.strs z.rels))]⟩) else (.ret,⟨[(2,.ptr 2 (.box 27) []),(3,.ptr 3 (.box 27) []),(4,.bool false)],[(2,(bC c.ops c.ints c.strs c.rels)),(3,(bC z.ops z.ints z.strs z.rels))]⟩)):=by
 simp only[f14,sub,Option.getD_some,H13_14];intro m
 induction m with
 | zero=>
   intro i σ hi hσ;have h1:¬ ((i:Int) < ((c.strs.length:Nat):Int)):=by omega
   rw[aloop,hσ];simp only[go_sem,h1];simp[post,St.fin,keepL,aget,allF]
 | succ m ih=>
   intro i σ hi hσ;have h1:(i:Int) < ((c.strs.length:Nat):Int):=by omega
   have hlt:i < c.strs.length:=by omega
   obtain⟨⟨l1,l2,l3,l4⟩,_⟩:=hl;have hw:IntKind.i64.wrap ((i:Int)+1)=((i+1:Nat):Int):=wrap_nat (by omega);have hni:(0:Int)≤(i:Int):=Int.natCast_nonneg i;have hget:=getD_get (d:=(⟨#[]⟩:ByteArray)) hlt;have hget2:=getD_get (d:=(⟨#[]⟩:ByteArray)) (show i < z.strs.length by omega);have hpi:=hpp i hlt;generalize c.strs.getD i (⟨#[]⟩:ByteArray)=x at *;generalize z.strs.getD i (⟨#[]⟩:ByteArray)=y at *;try simp only[opEq,relEq] at hpi
   rw[aloop,hσ];cases hq:p i;all_goals
    rw[hq] at hpi;have hpj:=hpi.symm
    skip
   all_goals
    simp only[go_sem,h1,hni,hget,hget2,hw,hpj,hq];simp only[allF,hq,BL];first
    | (simp[post,St.fin,keepL,aget];done)
    | exact ih (i+1) _ (by omega) (by simp only[go_sem])
theorem loop13_19 (c z:XCode) (hl:(LM c.ops c.ints c.strs c.rels)∧(LM z.ops z.ints z.strs z.rels)) (he:c.rels.length=z.rels.length) (p:Nat→Bool) (hpp:∀ i,i < c.rels.length→p i=relEq (c.rels.getD i ⟨0,0,⟨#[]⟩,⟨#[]⟩⟩) (z.rels.getD i ⟨0,0,⟨#[]⟩,⟨#[]⟩⟩)) (A:Nat→Prop) (k:Nat):∀ (m i:Nat) (σ:St),i+m=c.rels.length→
 σ.keep (H13 19)=⟨[(2,.ptr 2 (.box 27) []),(3,.ptr 3 (.box 27) []),(8,.int .i64 i)],[(2,(bC c.ops c.ints c.strs c.rels)),(3,(bC z.ops z.ints z.strs z.rels))]⟩→
 post (H13 19) (aloop ty (arun (env 115 20771801973475957295638050519384575 D0 [] [] A) H13 k (sub (f14.body.getD .skip) [1,1,1,1,1,0,1,0,0])) (H13 19) (m+1) σ) =
 some (if allF p i m=true then (.exit 6,⟨[(2,.ptr 2 (.box 27) []),(3,.ptr 3 (.box 27) [])],[(2,(bC c.ops c.ints c.strs c.rels)),(3,(bC z.ops z.ints z.strs z.rels))]⟩) else (.ret,⟨[(2,.ptr 2 (.box 27) []),(3,.ptr 3 (.box 27) []),(4,.bool false)],[(2,(bC c.ops c.ints c.strs c.rels)),(3,(bC z.ops z.ints z.strs z.rels))]⟩)):=by
 simp only[f14,sub,Option.getD_some,H13_19];intro m
 induction m with
 | zero=>
   intro i σ hi hσ;have h1:¬ ((i:Int) < ((c.rels.length:Nat):Int)):=by omega
   rw[aloop,hσ];simp only[go_sem,h1];simp[post,St.fin,keepL,aget,allF]
 | succ m ih=>
   intro i σ hi hσ;have h1:(i:Int) < ((c.rels.length:Nat):Int):=by omega
   have hlt:i < c.rels.length:=by omega
   obtain⟨⟨l1,l2,l3,l4⟩,_⟩:=hl;have hw:IntKind.i64.wrap ((i:Int)+1)=((i+1:Nat):Int):=wrap_nat (by omega);have hni:(0:Int)≤(i:Int):=Int.natCast_nonneg i;have hget:=getD_get (d:=(⟨0,0,⟨#[]⟩,⟨#[]⟩⟩:XRel)) hlt;have hget2:=getD_get (d:=(⟨0,0,⟨#[]⟩,⟨#[]⟩⟩:XRel)) (show i < z.rels.length by omega);have hpi:=hpp i hlt;generalize c.rels.getD i (⟨0,0,⟨#[]⟩,⟨#[]⟩⟩:XRel)=x at *;generalize z.rels.getD i (⟨0,0,⟨#[]⟩,⟨#[]⟩⟩:XRel)=y at *;try simp only[opEq,relEq] at hpi
   rw[aloop,hσ];cases hq:p i;all_goals
    rw[hq] at hpi;have hpj:=hpi.symm
    skip
   all_goals
    simp only[go_sem,h1,hni,hget,hget2,hw,hpj,hq];simp only[allF,hq,BL];first
    | (simp[post,St.fin,keepL,aget];done)
    | exact ih (i+1) _ (by omega) (by simp only[go_sem])
theorem run13 (c z:XCode) (hp:(LM c.ops c.ints c.strs c.rels)∧(LM z.ops z.ints z.strs z.rels)) (A:Nat→Prop):acall (env 115 20771801973475957295638050519384575 D0 [] [] A) (H13) (100010) f14 [(cd c.ops c.ints c.strs c.rels),(cd z.ops z.ints z.strs z.rels)]=some (.bool (sameF c z)):=by
 obtain⟨⟨l1,l2,l3,l4⟩,_⟩:=id hp;have cc:∀ a b:Nat,(a==b)=((a:Int)==(b:Int)):=fun a b=>by
  rw[Bool.eq_iff_iff];simp only[beq_iff_eq];omega
 cases d1:((c.ops.length:Int)==(z.ops.length:Int))
 ·simp only[sameF,cc,d1,BL];simp only[acall,macall,f14];simp only[go_sem,d1,H13_4,H13_9,H13_14,H13_19];try rfl
 ·cases d2:((c.ints.length:Int)==(z.ints.length:Int))
  ·simp only[sameF,cc,d1,d2,BL];simp only[acall,macall,f14];simp only[go_sem,d1,d2,H13_4,H13_9,H13_14,H13_19];try rfl
  ·cases d3:((c.strs.length:Int)==(z.strs.length:Int))
   ·simp only[sameF,cc,d1,d2,d3,BL];simp only[acall,macall,f14];simp only[go_sem,d1,d2,d3,H13_4,H13_9,H13_14,H13_19];try rfl
   ·cases d4:((c.rels.length:Int)==(z.rels.length:Int))
    ·simp only[sameF,cc,d1,d2,d3,d4,BL];simp only[acall,macall,f14];simp only[go_sem,d1,d2,d3,d4,H13_4,H13_9,H13_14,H13_19];try rfl
    ·have q1:c.ops.length=z.ops.length:=by simp only[beq_iff_eq] at d1;omega
     have q2:c.ints.length=z.ints.length:=by simp only[beq_iff_eq] at d2;omega
     have q3:c.strs.length=z.strs.length:=by simp only[beq_iff_eq] at d3;omega
     have q4:c.rels.length=z.rels.length:=by simp only[beq_iff_eq] at d4;omega
     simp only[acall,macall,f14];simp only[go_sem,d1,d2,d3,d4,H13_4,H13_9,H13_14,H13_19];have hl4:=loop13_4 c z hp (by omega) (fun i=>opEq (c.ops.getD i op0) (z.ops.getD i op0)) (fun _ _=>rfl) A 100010 c.ops.length 0;simp only[f14,sub,Option.getD_some,H13_4,H13_9,H13_14,H13_19] at hl4;rw[post_le (hl4 _ (by simp) (by simp only[go_sem])) (by omega)];cases hq4:allF (fun i=>opEq (c.ops.getD i op0) (z.ops.getD i op0)) 0 c.ops.length
     ·simp only[sameF,cc,d1,d2,d3,d4,hq4,BL];simp only[go_sem,d1,d2,d3,d4,H13_4,H13_9,H13_14,H13_19];try rfl
     simp only[BL];simp only[go_sem,d1,d2,d3,d4,H13_4,H13_9,H13_14,H13_19];have hl9:=loop13_9 c z hp (by omega) (fun i=>c.ints.getD i 0==z.ints.getD i 0) (fun _ _=>rfl) A 100010 c.ints.length 0;simp only[f14,sub,Option.getD_some,H13_4,H13_9,H13_14,H13_19] at hl9;rw[post_le (hl9 _ (by simp) (by simp only[go_sem])) (by omega)];cases hq9:allF (fun i=>c.ints.getD i 0==z.ints.getD i 0) 0 c.ints.length
     ·simp only[sameF,cc,d1,d2,d3,d4,hq4,hq9,BL];simp only[go_sem,d1,d2,d3,d4,H13_4,H13_9,H13_14,H13_19];try rfl
     simp only[BL];simp only[go_sem,d1,d2,d3,d4,H13_4,H13_9,H13_14,H13_19];have hl14:=loop13_14 c z hp (by omega) (fun i=>(c.strs.getD i ⟨#[]⟩).toList==(z.strs.getD i ⟨#[]⟩).toList) (fun _ _=>rfl) A 100010 c.strs.length 0;simp only[f14,sub,Option.getD_some,H13_4,H13_9,H13_14,H13_19] at hl14;rw[post_le (hl14 _ (by simp) (by simp only[go_sem])) (by omega)];cases hq14:allF (fun i=>(c.strs.getD i ⟨#[]⟩).toList==(z.strs.getD i ⟨#[]⟩).toList) 0 c.strs.length
     ·simp only[sameF,cc,d1,d2,d3,d4,hq4,hq9,hq14,BL];simp only[go_sem,d1,d2,d3,d4,H13_4,H13_9,H13_14,H13_19];try rfl
     simp only[BL];simp only[go_sem,d1,d2,d3,d4,H13_4,H13_9,H13_14,H13_19];have hl19:=loop13_19 c z hp (by omega) (fun i=>relEq (c.rels.getD i ⟨0,0,⟨#[]⟩,⟨#[]⟩⟩) (z.rels.getD i ⟨0,0,⟨#[]⟩,⟨#[]⟩⟩)) (fun _ _=>rfl) A 100010 c.rels.length 0;simp only[f14,sub,Option.getD_some,H13_4,H13_9,H13_14,H13_19] at hl19;rw[post_le (hl19 _ (by simp) (by simp only[go_sem])) (by omega)];cases hq19:allF (fun i=>relEq (c.rels.getD i ⟨0,0,⟨#[]⟩,⟨#[]⟩⟩) (z.rels.getD i ⟨0,0,⟨#[]⟩,⟨#[]⟩⟩)) 0 c.rels.length;all_goals
      simp only[sameF,cc,d1,d2,d3,d4,hq4,hq9,hq14,hq19,BL];simp only[go_sem,d1,d2,d3,d4,H13_4,H13_9,H13_14,H13_19];try rfl
noncomputable def c13:=famP (α:=XCode × XCode) (fun (c,z)=>(LM c.ops c.ints c.strs c.rels)∧(LM z.ops z.ints z.strs z.rels)) (fun (c,z)=>[(cd c.ops c.ints c.strs c.rels),(cd z.ops z.ints z.strs z.rels)]) (fun (c,z)=> .bool (sameF c z))
theorem c13_eq (c z:XCode) (hp:(LM c.ops c.ints c.strs c.rels)∧(LM z.ops z.ints z.strs z.rels)):c13 [(cd c.ops c.ints c.strs c.rels),(cd z.ops z.ints z.strs z.rels)]=some (.bool (sameF c z)):=fam_eq (fun X Y hp hp' h'=>by
 obtain⟨c,z⟩:=X;obtain⟨c',z'⟩:=Y;simp only[INJ] at h';obtain⟨hi1,hi2,hi3,hi4,hi5,hi6,hi7,hi8⟩:=h';try dsimp only at hp hp' ⊢
 obtain rfl:c=c':=by cases c;cases c';simp only[XCode.mk.injEq];exact⟨hi1,hi2,hi3,hi4⟩
 obtain rfl:z=z':=by cases z;cases z';simp only[XCode.mk.injEq];exact⟨hi5,hi6,hi7,hi8⟩
 rfl) (c,z) hp
theorem snd13:Snd 14 c13:=fam_snd h13 rfl rfl fun (c,z) hp=>rc h13 (fun A=>run13 c z hp A) (fun i=>match i with | 6=>[0,1,0,7,15,0,32,0,224,480,1023] | 11=>[0,1,0,7,15,0,32,0,224,480,1023] | 16=>[0,1,0,7,15,0,32,0,224,480,1023] | 21=>[0,1,0,7,15,0,32,0,224,480,1023] | _=>[]) rfl rfl rfl (by kernel_rfl) trivial trivial
end Go.Proofs.Tryd
end
