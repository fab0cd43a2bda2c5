/- Part of the proof of one statement of this seat: an abstract machine for the program, its contracts, and the statement (no condition of our own). -/
import Derived.Test.YtbdbjpdlcemeaaaGreatDoorKp11
set_option linter.unusedSimpArgs false
set_option linter.unusedVariables false
section
set_option maxHeartbeats 4000000
set_option maxRecDepth 20000
namespace Go.Proofs.Tryz
open Go Go.Abs
variable (ops : List XOp) (ints : List Int) (strs : List ByteArray) (rels : List XRel)
def checkR (ops:List XOp) (ints:List Int) (strs:List ByteArray) (rels:List XRel):Bool:=
 if decide ((ops.length:Int) < 1)=true then false else if decide (500 < (ops.length:Int))=true then false
 else if decide (200 < (ints.length:Int))=true then false else if decide (200 < (strs.length:Int))=true then false else if decide (500 < (rels.length:Int))=true then false
 else if ((ops.getD ((ops.length:Int) - 1).toNat op0).op==40)=true then
  (if allF (fun i=>strOkF (strs.getD i ⟨#[]⟩)) 0 strs.length=true then (if allF (fun i=>rightF ops ints.length strs.length i) 0 ops.length=true then allF (fun i=>relOkF ops rels i) 0 rels.length else false) else false)
 else false
theorem check_r:checkF ops ints strs rels=checkR ops ints strs rels:=by
 unfold checkF checkR
 rw[show ((ops.length:Int) - 1).toNat=ops.length - 1 by omega]
 by_cases h0:(ops.length:Int) < 1
 ·have e:decide (1≤(ops.length:Int))=false:=decide_eq_false (by omega)
  simp[h0,e]
 ·have e:decide (1≤(ops.length:Int))=true:=decide_eq_true (by omega)
  by_cases h1:500 < (ops.length:Int)
  ·have e1:decide ((ops.length:Int)≤500)=false:=decide_eq_false (by omega)
   simp[h0,h1,e1]
  ·have e1:decide ((ops.length:Int)≤500)=true:=decide_eq_true (by omega)
   rw[e,e1]
   simp only[decide_eq_true_eq,h0,h1,BL]
   cases hx:((ops.getD (ops.length - 1) op0).op==40) <;> simp
theorem h20:Tryz.prog.funcs[20]? = some f20:=by kernel_rfl
def H20:Nat→Hint:=fun i=>if i=5 then ({ tm:=[1,3,4],ob:=[1],fin:=some ([1,3,2],[1]) }:Hint) else if i=10 then ({ tm:=[1,3,5],ob:=[1],fin:=some ([1,3,2],[1]) }:Hint) else if i=17 then ({ tm:=[1,3,8],ob:=[1],fin:=some ([1,3,2],[1]) }:Hint) else { tm:=[],ob:=[] }
theorem H20_5:H20 5=({ tm:=[1,3,4],ob:=[1],fin:=some ([1,3,2],[1]) }:Hint):=by simp[H20]
theorem H20_10:H20 10=({ tm:=[1,3,5],ob:=[1],fin:=some ([1,3,2],[1]) }:Hint):=by simp[H20]
theorem H20_17:H20 17=({ tm:=[1,3,8],ob:=[1],fin:=some ([1,3,2],[1]) }:Hint):=by simp[H20]
theorem loop20_5 (hp:(ops.length≤100000∧ints.length≤100000∧strs.length≤100000∧rels.length≤100000)∧(∀ s ∈ strs,s.size≤9223372036854775807)∧∀ r ∈ rels,r.str.size≤9223372036854775807∧r.mem.size≤9223372036854775807) (p:Nat→Bool) (hpp:∀ i,i < strs.length→p i=strOkF (strs.getD i ⟨#[]⟩)) (A:Nat→Prop) (k:Nat):∀ (m i:Nat) (σ:St),i+m=strs.length→
 σ.keep (H20 5)=⟨[(1,.ptr 1 (.box 27) []),(3,.int .i64 ops.length),(4,.int .i64 i)],[(1,⟨.box 27,false,[(cd ops ints strs rels)]⟩)]⟩→
 post (H20 5) (aloop ty (arun (env 117 84415388770398257493776314862141951 D0 [(41,c41),(42,c42),(43,c43),(44,c44),(45,c45)] [] A) H20 k (sub (f20.body.getD .skip) [1,1,1,0,1,0,0])) (H20 5) (m+1) σ) =
 some (if allF p i m=true then (.exit 0,⟨[(1,.ptr 1 (.box 27) []),(3,.int .i64 ops.length)],[(1,⟨.box 27,false,[(cd ops ints strs rels)]⟩)]⟩) else (.ret,⟨[(1,.ptr 1 (.box 27) []),(3,.int .i64 ops.length),(2,.int .i64 150)],[(1,⟨.box 27,false,[(cd ops ints strs rels)]⟩)]⟩)):=by
 simp only[f20,sub,Option.getD_some,H20_5]
 intro m
 induction m with
 | zero=>
   intro i σ hi hσ
   have h1:¬ ((i:Int) < ((strs.length:Nat):Int)):=by omega
   rw[aloop,hσ]
   simp only[go_sem,simprocAttr,h1]
   simp[post,St.fin,keepL,aget,allF]
 | succ m ih=>
   intro i σ hi hσ
   have h1:(i:Int) < ((strs.length:Nat):Int):=by omega
   have hlt:i < strs.length:=by omega
   have hl:=hp.1
   have hw:IntKind.i64.wrap ((i:Int)+1)=((i+1:Nat):Int):=wrap_nat (by omega)
   have hget:=getD_get (d:=(⟨#[]⟩:ByteArray)) hlt
   have hpi:=hpp i hlt
   have hni:(0:Int)≤(i:Int):=Int.natCast_nonneg i
   have e41:=c41_eq _ (hp.2.1 _ (List.mem_of_getElem? hget))
   generalize strs.getD i ⟨#[]⟩=s at *
   rw[← hpi] at e41
   rw[aloop,hσ]
   cases hq:p i
   all_goals
    rw[hq] at e41
    skip
   all_goals
    simp only[go_sem,simprocAttr,c42_eq,c43_eq,c44_eq,c45_eq,h1,hni,hget,hw,e41]
    simp only[allF,hq,BL]
    first
    | (simp[post,St.fin,keepL,aget];done)
    | exact ih (i+1) _ (by omega) (by simp only[go_sem,simprocAttr])
theorem loop20_10 (hp:(ops.length≤100000∧ints.length≤100000∧strs.length≤100000∧rels.length≤100000)∧(∀ s ∈ strs,s.size≤9223372036854775807)∧∀ r ∈ rels,r.str.size≤9223372036854775807∧r.mem.size≤9223372036854775807) (p:Nat→Bool) (hpp:∀ i,i < ops.length→p i=rightF ops ints.length strs.length i) (A:Nat→Prop) (k:Nat):∀ (m i:Nat) (σ:St),i+m=ops.length→
 σ.keep (H20 10)=⟨[(1,.ptr 1 (.box 27) []),(3,.int .i64 ops.length),(5,.int .i64 i)],[(1,⟨.box 27,false,[(cd ops ints strs rels)]⟩)]⟩→
 post (H20 10) (aloop ty (arun (env 117 84415388770398257493776314862141951 D0 [(41,c41),(42,c42),(43,c43),(44,c44),(45,c45)] [] A) H20 k (sub (f20.body.getD .skip) [1,1,1,1,0,1,0,0])) (H20 10) (m+1) σ) =
 some (if allF p i m=true then (.exit 2,⟨[(1,.ptr 1 (.box 27) []),(3,.int .i64 ops.length)],[(1,⟨.box 27,false,[(cd ops ints strs rels)]⟩)]⟩) else (.ret,⟨[(1,.ptr 1 (.box 27) []),(3,.int .i64 ops.length),(2,.int .i64 150)],[(1,⟨.box 27,false,[(cd ops ints strs rels)]⟩)]⟩)):=by
 simp only[f20,sub,Option.getD_some,H20_10]
 intro m
 induction m with
 | zero=>
   intro i σ hi hσ
   have h1:¬ ((i:Int) < ((ops.length:Nat):Int)):=by omega
   rw[aloop,hσ]
   simp only[go_sem,simprocAttr,h1]
   simp[post,St.fin,keepL,aget,allF]
 | succ m ih=>
   intro i σ hi hσ
   have h1:(i:Int) < ((ops.length:Nat):Int):=by omega
   have hlt:i < ops.length:=by omega
   have hl:=hp.1
   have hw:IntKind.i64.wrap ((i:Int)+1)=((i+1:Nat):Int):=wrap_nat (by omega)
   have hget:=getD_get (d:=op0) hlt
   have hpi:=hpp i hlt
   have hni:(0:Int)≤(i:Int):=Int.natCast_nonneg i
   have e44:=c44_eq ops ints strs rels i ⟨hl,hni,by simpa using hlt⟩
   simp only[rightF,Int.toNat_natCast] at hpi e44
   generalize ops.getD i op0=x at *
   have e42:=c42_eq x.op
   have e43d:=c43_eq (formF x.op).d x.d
   have e43a:=c43_eq (formF x.op).a x.a
   have e43b:=c43_eq (formF x.op).b x.b
   generalize regF (formF x.op).d x.d=r1 at *
   generalize regF (formF x.op).a x.a=r2 at *
   generalize regF (formF x.op).b x.b=r3 at *
   generalize fitsF ops.length ints.length strs.length i x.op x.n=r4 at *
   rw[aloop,hσ]
   cases hq:p i
   all_goals
    rw[hq] at hpi
    cases hnm:((formF x.op).name.toList==(⟨#[]⟩:ByteArray).toList)
    all_goals cases r1 <;> cases r2 <;> cases r3 <;> cases r4
    all_goals simp only[hnm,BL] at hpi
   all_goals first | (simp at hpi;done) | skip
   all_goals
    simp only[go_sem,simprocAttr,c41_eq,c45_eq,h1,hni,hget,hw,hnm,e42,e43d,e43a,e43b,e44,eFormR]
    simp only[allF,hq,BL]
    first
    | (simp[post,St.fin,keepL,aget];done)
    | exact ih (i+1) _ (by omega) (by simp only[go_sem,simprocAttr])
theorem loop20_17 (hp:(ops.length≤100000∧ints.length≤100000∧strs.length≤100000∧rels.length≤100000)∧(∀ s ∈ strs,s.size≤9223372036854775807)∧∀ r ∈ rels,r.str.size≤9223372036854775807∧r.mem.size≤9223372036854775807) (p:Nat→Bool) (hpp:∀ i,i < rels.length→p i=relOkF ops rels i) (A:Nat→Prop) (k:Nat):∀ (m i:Nat) (σ:St),i+m=rels.length→
 σ.keep (H20 17)=⟨[(1,.ptr 1 (.box 27) []),(3,.int .i64 ops.length),(8,.int .i64 i)],[(1,⟨.box 27,false,[(cd ops ints strs rels)]⟩)]⟩→
 post (H20 17) (aloop ty (arun (env 117 84415388770398257493776314862141951 D0 [(41,c41),(42,c42),(43,c43),(44,c44),(45,c45)] [] A) H20 k (sub (f20.body.getD .skip) [1,1,1,1,1,0,1,0,0])) (H20 17) (m+1) σ) =
 some (if allF p i m=true then (.exit 4,⟨[(1,.ptr 1 (.box 27) []),(3,.int .i64 ops.length)],[(1,⟨.box 27,false,[(cd ops ints strs rels)]⟩)]⟩) else (.ret,⟨[(1,.ptr 1 (.box 27) []),(3,.int .i64 ops.length),(2,.int .i64 150)],[(1,⟨.box 27,false,[(cd ops ints strs rels)]⟩)]⟩)):=by
 simp only[f20,sub,Option.getD_some,H20_17]
 intro m
 induction m with
 | zero=>
   intro i σ hi hσ
   have h1:¬ ((i:Int) < ((rels.length:Nat):Int)):=by omega
   rw[aloop,hσ]
   simp only[go_sem,simprocAttr,h1]
   simp[post,St.fin,keepL,aget,allF]
 | succ m ih=>
   intro i σ hi hσ
   have h1:(i:Int) < ((rels.length:Nat):Int):=by omega
   have hlt:i < rels.length:=by omega
   have hl:=hp.1
   have hw:IntKind.i64.wrap ((i:Int)+1)=((i+1:Nat):Int):=wrap_nat (by omega)
   have hpi:=hpp i hlt
   have e45:=c45_eq ops ints strs rels i ⟨hl,Int.natCast_nonneg i,by simpa using hlt,hp.2.2⟩
   rw[← hpi] at e45
   rw[aloop,hσ]
   cases hq:p i
   all_goals
    rw[hq] at e45
    skip
   all_goals
    simp only[go_sem,simprocAttr,c41_eq,c42_eq,c43_eq,c44_eq,h1,hw,e45]
    simp only[allF,hq,BL]
    first
    | (simp[post,St.fin,keepL,aget];done)
    | exact ih (i+1) _ (by omega) (by simp only[go_sem,simprocAttr])
theorem run20 (hp:(ops.length≤100000∧ints.length≤100000∧strs.length≤100000∧rels.length≤100000)∧(∀ s ∈ strs,s.size≤9223372036854775807)∧∀ r ∈ rels,r.str.size≤9223372036854775807∧r.mem.size≤9223372036854775807) (A:Nat→Prop):acall (env 117 84415388770398257493776314862141951 D0 [(41,c41),(42,c42),(43,c43),(44,c44),(45,c45)] [] A) (H20) (100010) f20 [(cd ops ints strs rels)]=some (.int .i64 (errF (checkF ops ints strs rels))):=by
 have hl:=hp.1
 have hl5:=loop20_5 ops ints strs rels hp (fun i=>strOkF (strs.getD i ⟨#[]⟩)) (fun _ _=>rfl) A 100010 strs.length 0
 have hl10:=loop20_10 ops ints strs rels hp (fun i=>rightF ops ints.length strs.length i) (fun _ _=>rfl) A 100010 ops.length 0
 have hl17:=loop20_17 ops ints strs rels hp (fun i=>relOkF ops rels i) (fun _ _=>rfl) A 100010 rels.length 0
 simp only[f20,sub,Option.getD_some,H20_5,H20_10,H20_17] at hl5 hl10 hl17
 have hwl:IntKind.i64.wrap ((ops.length:Int) - 1)=(ops.length:Int) - 1:=wrap_i64 (by omega) (by omega)
 rw[check_r]
 cases d0:decide ((ops.length:Int) < 1)
 ·cases d1:decide (500 < (ops.length:Int))
  ·cases d2:decide (200 < (ints.length:Int))
   ·cases d3:decide (200 < (strs.length:Int))
    ·cases d4:decide (500 < (rels.length:Int))
     ·cases d5:((ops.getD ((ops.length:Int) - 1).toNat op0).op==40)
      ·have h0:0≤(ops.length:Int) - 1:=by simp at d0;omega
       have hget:=getD_get (d:=op0) (show ((ops.length:Int) - 1).toNat < ops.length by simp at d0;omega)
       simp only[checkR,errF,d0,d1,d2,d3,d4,d5,BL]
       simp only[acall,macall,f20]
       simp only[go_sem,simprocAttr,d0,d1,d2,d3,d4,d5,hwl,H20_5,H20_10,H20_17,h0,hget]
       try rfl
      ·have h0:0≤(ops.length:Int) - 1:=by simp at d0;omega
       have hget:=getD_get (d:=op0) (show ((ops.length:Int) - 1).toNat < ops.length by simp at d0;omega)
       simp only[acall,macall,f20]
       simp only[go_sem,simprocAttr,d0,d1,d2,d3,d4,d5,hwl,H20_5,H20_10,H20_17,h0,hget]
       rw[post_le (hl5 _ (by simp) (by simp only[go_sem,simprocAttr])) (by omega)]
       cases hq5:allF (fun i=>strOkF (strs.getD i ⟨#[]⟩)) 0 strs.length
       ·simp only[checkR,errF,d0,d1,d2,d3,d4,d5,hq5,BL]
        simp only[go_sem,simprocAttr,d0,d1,d2,d3,d4,d5,hwl,H20_5,H20_10,H20_17,h0,hget]
        try rfl
       simp only[BL]
       simp only[go_sem,simprocAttr,d0,d1,d2,d3,d4,d5,hwl,H20_5,H20_10,H20_17,h0,hget]
       rw[post_le (hl10 _ (by simp) (by simp only[go_sem,simprocAttr])) (by omega)]
       cases hq10:allF (fun i=>rightF ops ints.length strs.length i) 0 ops.length
       ·simp only[checkR,errF,d0,d1,d2,d3,d4,d5,hq5,hq10,BL]
        simp only[go_sem,simprocAttr,d0,d1,d2,d3,d4,d5,hwl,H20_5,H20_10,H20_17,h0,hget]
        try rfl
       simp only[BL]
       simp only[go_sem,simprocAttr,d0,d1,d2,d3,d4,d5,hwl,H20_5,H20_10,H20_17,h0,hget]
       rw[post_le (hl17 _ (by simp) (by simp only[go_sem,simprocAttr])) (by omega)]
       cases hq17:allF (fun i=>relOkF ops rels i) 0 rels.length
       all_goals
        simp only[checkR,errF,d0,d1,d2,d3,d4,d5,hq5,hq10,hq17,BL]
        simp only[go_sem,simprocAttr,d0,d1,d2,d3,d4,d5,hwl,H20_5,H20_10,H20_17,h0,hget]
        try rfl
     ·simp only[checkR,errF,d0,d1,d2,d3,d4,BL]
      simp only[acall,macall,f20]
      simp only[go_sem,simprocAttr,d0,d1,d2,d3,d4,hwl,H20_5,H20_10,H20_17]
      try rfl
    ·simp only[checkR,errF,d0,d1,d2,d3,BL]
     simp only[acall,macall,f20]
     simp only[go_sem,simprocAttr,d0,d1,d2,d3,hwl,H20_5,H20_10,H20_17]
     try rfl
   ·simp only[checkR,errF,d0,d1,d2,BL]
    simp only[acall,macall,f20]
    simp only[go_sem,simprocAttr,d0,d1,d2,hwl,H20_5,H20_10,H20_17]
    try rfl
  ·simp only[checkR,errF,d0,d1,BL]
   simp only[acall,macall,f20]
   simp only[go_sem,simprocAttr,d0,d1,hwl,H20_5,H20_10,H20_17]
   try rfl
 ·simp only[checkR,errF,d0,BL]
  simp only[acall,macall,f20]
  simp only[go_sem,simprocAttr,d0,hwl,H20_5,H20_10,H20_17]
  try rfl
noncomputable def c20:=famP (α:=(List XOp) × (List Int) × (List ByteArray) × (List XRel)) (fun (ops,ints,strs,rels)=>(ops.length≤100000∧ints.length≤100000∧strs.length≤100000∧rels.length≤100000)∧(∀ s ∈ strs,s.size≤9223372036854775807)∧∀ r ∈ rels,r.str.size≤9223372036854775807∧r.mem.size≤9223372036854775807) (fun (ops,ints,strs,rels)=>[(cd ops ints strs rels)]) (fun (ops,ints,strs,rels)=> .int .i64 (errF (checkF ops ints strs rels)))
theorem c20_eq (hp:(ops.length≤100000∧ints.length≤100000∧strs.length≤100000∧rels.length≤100000)∧(∀ s ∈ strs,s.size≤9223372036854775807)∧∀ r ∈ rels,r.str.size≤9223372036854775807∧r.mem.size≤9223372036854775807):c20 [(cd ops ints strs rels)]=some (.int .i64 (errF (checkF ops ints strs rels))):=fam_eq (fun X Y hp hp' h'=>by
 obtain⟨ops,ints,strs,rels⟩:=X;obtain⟨ops',ints',strs',rels'⟩:=Y;simp only[INJ] at h'
 obtain⟨rfl,rfl,rfl,rfl⟩:=h'
 rfl) (ops,ints,strs,rels) hp
theorem snd20:Snd 20 c20:=fam_snd h20 rfl rfl fun (ops,ints,strs,rels) hp=>rc h20 (fun A=>run20 ops ints strs rels hp A) (fun _=>[]) rfl rfl rfl (by kernel_rfl) ⟨snd41,snd42,snd43,snd44,snd45,trivial⟩ trivial
theorem h9:Tryz.prog.funcs[9]? = some f9:=by kernel_rfl
theorem run9 (A:Nat→Prop):acall (env 25 7 D0 [] [] A) (fun _=>{ tm:=[],ob:=[] }) (5) f9 [(cd ops ints strs rels)]=some (.bool (decide (ops.length≤60)&&(decide (ints.length≤60)&&(decide (strs.length≤60)&&decide (rels.length≤60))))):=by
 have c:∀ n:Nat,decide (n≤60)=decide ((n:Int)≤60):=fun n=>decide_eq_decide.2 (by omega)
 rw[c,c,c,c]
 cases h1:decide ((ops.length:Int)≤60) <;> cases h2:decide ((ints.length:Int)≤60) <;> cases h3:decide ((strs.length:Int)≤60) <;> cases h4:decide ((rels.length:Int)≤60)
 all_goals
  simp only[acall,macall,f9]
  simp only[go_sem,simprocAttr,h1,h2,h3,h4]
  try rfl
noncomputable def c9:=famP (α:=(List XOp) × (List Int) × (List ByteArray) × (List XRel)) (fun _=>True) (fun (ops,ints,strs,rels)=>[(cd ops ints strs rels)]) (fun (ops,ints,strs,rels)=> .bool (decide (ops.length≤60)&&(decide (ints.length≤60)&&(decide (strs.length≤60)&&decide (rels.length≤60)))))
theorem c9_eq:c9 [(cd ops ints strs rels)]=some (.bool (decide (ops.length≤60)&&(decide (ints.length≤60)&&(decide (strs.length≤60)&&decide (rels.length≤60))))):=fam_eq (fun X Y hp hp' h'=>by
 obtain⟨ops,ints,strs,rels⟩:=X;obtain⟨ops',ints',strs',rels'⟩:=Y;simp only[INJ] at h'
 obtain⟨rfl,rfl,rfl,rfl⟩:=h'
 rfl) (ops,ints,strs,rels) trivial
theorem snd9:Snd 9 c9:=fam_snd h9 rfl rfl fun (ops,ints,strs,rels) _=>rc h9 (fun A=>run9 ops ints strs rels A) (fun _=>[]) rfl rfl rfl (by kernel_rfl) trivial trivial
def opEq (x y:XOp):Bool:=x.op==y.op&&(x.d==y.d&&(x.a==y.a&&(x.b==y.b&&x.n==y.n)))
def relEq (x y:XRel):Bool:=x.kind==y.kind&&(x.at_==y.at_&&((x.str.toList==y.str.toList)&&(x.mem.toList==y.mem.toList)))
def sameF (c c':XCode):Bool:=
 if (c.ops.length==c'.ops.length&&(c.ints.length==c'.ints.length&&(c.strs.length==c'.strs.length&&c.rels.length==c'.rels.length)))=true then
  (if allF (fun i=>opEq (c.ops.getD i op0) (c'.ops.getD i op0)) 0 c.ops.length=true then (if allF (fun i=>c.ints.getD i 0==c'.ints.getD i 0) 0 c.ints.length=true then
    (if allF (fun i=>(c.strs.getD i ⟨#[]⟩).toList==(c'.strs.getD i ⟨#[]⟩).toList) 0 c.strs.length=true then allF (fun i=>relEq (c.rels.getD i ⟨0,0,⟨#[]⟩,⟨#[]⟩⟩) (c'.rels.getD i ⟨0,0,⟨#[]⟩,⟨#[]⟩⟩)) 0 c.rels.length else false) else false) else false)
 else false
theorem h13:Tryz.prog.funcs[13]? = some f13:=by kernel_rfl
def H13:Nat→Hint:=fun i=>if i=4 then ({ tm:=[2,3,5],ob:=[2,3],fin:=some ([2,3,4],[2,3]) }:Hint) else if i=9 then ({ tm:=[2,3,6],ob:=[2,3],fin:=some ([2,3,4],[2,3]) }:Hint) else if i=14 then ({ tm:=[2,3,7],ob:=[2,3],fin:=some ([2,3,4],[2,3]) }:Hint) else if i=19 then ({ tm:=[2,3,8],ob:=[2,3],fin:=some ([2,3,4],[2,3]) }:Hint) else { tm:=[],ob:=[] }
theorem H13_4:H13 4=({ tm:=[2,3,5],ob:=[2,3],fin:=some ([2,3,4],[2,3]) }:Hint):=by simp[H13]
theorem H13_9:H13 9=({ tm:=[2,3,6],ob:=[2,3],fin:=some ([2,3,4],[2,3]) }:Hint):=by simp[H13]
theorem H13_14:H13 14=({ tm:=[2,3,7],ob:=[2,3],fin:=some ([2,3,4],[2,3]) }:Hint):=by simp[H13]
theorem H13_19:H13 19=({ tm:=[2,3,8],ob:=[2,3],fin:=some ([2,3,4],[2,3]) }:Hint):=by simp[H13]
theorem loop13_4 (c z:XCode) (hl:(c.ops.length≤100000∧c.ints.length≤100000∧c.strs.length≤100000∧c.rels.length≤100000)∧(z.ops.length≤100000∧z.ints.length≤100000∧z.strs.length≤100000∧z.rels.length≤100000)) (he:c.ops.length=z.ops.length) (p:Nat→Bool) (hpp:∀ i,i < c.ops.length→p i=opEq (c.ops.getD i op0) (z.ops.getD i op0)) (A:Nat→Prop) (k:Nat):∀ (m i:Nat) (σ:St),i+m=c.ops.length→
 σ.keep (H13 4)=⟨[(2,.ptr 2 (.box 27) []),(3,.ptr 3 (.box 27) []),(5,.int .i64 i)],[(2,⟨.box 27,false,[(cd c.ops c.ints c.strs c.rels)]⟩),(3,⟨.box 27,false,[(cd z.ops z.ints z.strs z.rels)]⟩)]⟩→
 post (H13 4) (aloop ty (arun (env 115 20771801973475957295638050519384575 D0 [] [] A) H13 k (sub (f13.body.getD .skip) [1,1,0,1,0,0])) (H13 4) (m+1) σ) =
 some (if allF p i m=true then (.exit 0,⟨[(2,.ptr 2 (.box 27) []),(3,.ptr 3 (.box 27) [])],[(2,⟨.box 27,false,[(cd c.ops c.ints c.strs c.rels)]⟩),(3,⟨.box 27,false,[(cd z.ops z.ints z.strs z.rels)]⟩)]⟩) else (.ret,⟨[(2,.ptr 2 (.box 27) []),(3,.ptr 3 (.box 27) []),(4,.bool false)],[(2,⟨.box 27,false,[(cd c.ops c.ints c.strs c.rels)]⟩),(3,⟨.box 27,false,[(cd z.ops z.ints z.strs z.rels)]⟩)]⟩)):=by
 simp only[f13,sub,Option.getD_some,H13_4]
 intro m
 induction m with
 | zero=>
   intro i σ hi hσ
   have h1:¬ ((i:Int) < ((c.ops.length:Nat):Int)):=by omega
   rw[aloop,hσ]
   simp only[go_sem,simprocAttr,h1]
   simp[post,St.fin,keepL,aget,allF]
 | succ m ih=>
   intro i σ hi hσ
   have h1:(i:Int) < ((c.ops.length:Nat):Int):=by omega
   have hlt:i < c.ops.length:=by omega
   obtain⟨⟨l1,l2,l3,l4⟩,_⟩:=hl
   have hw:IntKind.i64.wrap ((i:Int)+1)=((i+1:Nat):Int):=wrap_nat (by omega)
   have hni:(0:Int)≤(i:Int):=Int.natCast_nonneg i
   have hget:=getD_get (d:=op0) hlt
   have hget2:=getD_get (d:=op0) (show i < z.ops.length by omega)
   have hpi:=hpp i hlt
   generalize c.ops.getD i op0=x at *
   generalize z.ops.getD i op0=y at *
   try simp only[opEq,relEq] at hpi
   rw[aloop,hσ]
   cases hq:p i
   all_goals
    rw[hq] at hpi
    have hpj:=hpi.symm
    skip
   all_goals
    simp only[go_sem,simprocAttr,h1,hni,hget,hget2,hw,hpj,hq]
    simp only[allF,hq,BL]
    first
    | (simp[post,St.fin,keepL,aget];done)
    | exact ih (i+1) _ (by omega) (by simp only[go_sem,simprocAttr])
theorem loop13_9 (c z:XCode) (hl:(c.ops.length≤100000∧c.ints.length≤100000∧c.strs.length≤100000∧c.rels.length≤100000)∧(z.ops.length≤100000∧z.ints.length≤100000∧z.strs.length≤100000∧z.rels.length≤100000)) (he:c.ints.length=z.ints.length) (p:Nat→Bool) (hpp:∀ i,i < c.ints.length→p i=(c.ints.getD i 0==z.ints.getD i 0)) (A:Nat→Prop) (k:Nat):∀ (m i:Nat) (σ:St),i+m=c.ints.length→
 σ.keep (H13 9)=⟨[(2,.ptr 2 (.box 27) []),(3,.ptr 3 (.box 27) []),(6,.int .i64 i)],[(2,⟨.box 27,false,[(cd c.ops c.ints c.strs c.rels)]⟩),(3,⟨.box 27,false,[(cd z.ops z.ints z.strs z.rels)]⟩)]⟩→
 post (H13 9) (aloop ty (arun (env 115 20771801973475957295638050519384575 D0 [] [] A) H13 k (sub (f13.body.getD .skip) [1,1,1,0,1,0,0])) (H13 9) (m+1) σ) =
 some (if allF p i m=true then (.exit 2,⟨[(2,.ptr 2 (.box 27) []),(3,.ptr 3 (.box 27) [])],[(2,⟨.box 27,false,[(cd c.ops c.ints c.strs c.rels)]⟩),(3,⟨.box 27,false,[(cd z.ops z.ints z.strs z.rels)]⟩)]⟩) else (.ret,⟨[(2,.ptr 2 (.box 27) []),(3,.ptr 3 (.box 27) []),(4,.bool false)],[(2,⟨.box 27,false,[(cd c.ops c.ints c.strs c.rels)]⟩),(3,⟨.box 27,false,[(cd z.ops z.ints z.strs z.rels)]⟩)]⟩)):=by
 simp only[f13,sub,Option.getD_some,H13_9]
 intro m
 induction m with
 | zero=>
   intro i σ hi hσ
   have h1:¬ ((i:Int) < ((c.ints.length:Nat):Int)):=by omega
   rw[aloop,hσ]
   simp only[go_sem,simprocAttr,h1]
   simp[post,St.fin,keepL,aget,allF]
 | succ m ih=>
   intro i σ hi hσ
   have h1:(i:Int) < ((c.ints.length:Nat):Int):=by omega
   have hlt:i < c.ints.length:=by omega
   obtain⟨⟨l1,l2,l3,l4⟩,_⟩:=hl
   have hw:IntKind.i64.wrap ((i:Int)+1)=((i+1:Nat):Int):=wrap_nat (by omega)
   have hni:(0:Int)≤(i:Int):=Int.natCast_nonneg i
   have hget:=getD_get (d:=(0:Int)) hlt
   have hget2:=getD_get (d:=(0:Int)) (show i < z.ints.length by omega)
   have hpi:=hpp i hlt
   generalize c.ints.getD i (0:Int)=x at *
   generalize z.ints.getD i (0:Int)=y at *
   try simp only[opEq,relEq] at hpi
   rw[aloop,hσ]
   cases hq:p i
   all_goals
    rw[hq] at hpi
    have hpj:=hpi.symm
    skip
   all_goals
    simp only[go_sem,simprocAttr,h1,hni,hget,hget2,hw,hpj,hq]
    simp only[allF,hq,BL]
    first
    | (simp[post,St.fin,keepL,aget];done)
    | exact ih (i+1) _ (by omega) (by simp only[go_sem,simprocAttr])
theorem loop13_14 (c z:XCode) (hl:(c.ops.length≤100000∧c.ints.length≤100000∧c.strs.length≤100000∧c.rels.length≤100000)∧(z.ops.length≤100000∧z.ints.length≤100000∧z.strs.length≤100000∧z.rels.length≤100000)) (he:c.strs.length=z.strs.length) (p:Nat→Bool) (hpp:∀ i,i < c.strs.length→p i=((c.strs.getD i ⟨#[]⟩).toList==(z.strs.getD i ⟨#[]⟩).toList)) (A:Nat→Prop) (k:Nat):∀ (m i:Nat) (σ:St),i+m=c.strs.length→
 σ.keep (H13 14)=⟨[(2,.ptr 2 (.box 27) []),(3,.ptr 3 (.box 27) []),(7,.int .i64 i)],[(2,⟨.box 27,false,[(cd c.ops c.ints c.strs c.rels)]⟩),(3,⟨.box 27,false,[(cd z.ops z.ints z.strs z.rels)]⟩)]⟩→
 post (H13 14) (aloop ty (arun (env 115 20771801973475957295638050519384575 D0 [] [] A) H13 k (sub (f13.body.getD .skip) [1,1,1,1,0,1,0,0])) (H13 14) (m+1) σ) =
 some (if allF p i m=true then (.exit 4,⟨[(2,.ptr 2 (.box 27) []),(3,.ptr 3 (.box 27) [])],[(2,⟨.box 27,false,[(cd c.ops c.ints c.strs c.rels)]⟩),(3,⟨.box 27,false,[(cd z.ops z.ints z.strs z.rels)]⟩)]⟩) else (.ret,⟨[(2,.ptr 2 (.box 27) []),(3,.ptr 3 (.box 27) []),(4,.bool false)],[(2,⟨.box 27,false,[(cd c.ops c.ints c.strs c.rels)]⟩),(3,⟨.box 27,false,[(cd z.ops z.ints z.strs z.rels)]⟩)]⟩)):=by
 simp only[f13,sub,Option.getD_some,H13_14]
 intro m
 induction m with
 | zero=>
   intro i σ hi hσ
   have h1:¬ ((i:Int) < ((c.strs.length:Nat):Int)):=by omega
   rw[aloop,hσ]
   simp only[go_sem,simprocAttr,h1]
   simp[post,St.fin,keepL,aget,allF]
 | succ m ih=>
   intro i σ hi hσ
   have h1:(i:Int) < ((c.strs.length:Nat):Int):=by omega
   have hlt:i < c.strs.length:=by omega
   obtain⟨⟨l1,l2,l3,l4⟩,_⟩:=hl
   have hw:IntKind.i64.wrap ((i:Int)+1)=((i+1:Nat):Int):=wrap_nat (by omega)
   have hni:(0:Int)≤(i:Int):=Int.natCast_nonneg i
   have hget:=getD_get (d:=(⟨#[]⟩:ByteArray)) hlt
   have hget2:=getD_get (d:=(⟨#[]⟩:ByteArray)) (show i < z.strs.length by omega)
   have hpi:=hpp i hlt
   generalize c.strs.getD i (⟨#[]⟩:ByteArray)=x at *
   generalize z.strs.getD i (⟨#[]⟩:ByteArray)=y at *
   try simp only[opEq,relEq] at hpi
   rw[aloop,hσ]
   cases hq:p i
   all_goals
    rw[hq] at hpi
    have hpj:=hpi.symm
    skip
   all_goals
    simp only[go_sem,simprocAttr,h1,hni,hget,hget2,hw,hpj,hq]
    simp only[allF,hq,BL]
    first
    | (simp[post,St.fin,keepL,aget];done)
    | exact ih (i+1) _ (by omega) (by simp only[go_sem,simprocAttr])
theorem loop13_19 (c z:XCode) (hl:(c.ops.length≤100000∧c.ints.length≤100000∧c.strs.length≤100000∧c.rels.length≤100000)∧(z.ops.length≤100000∧z.ints.length≤100000∧z.strs.length≤100000∧z.rels.length≤100000)) (he:c.rels.length=z.rels.length) (p:Nat→Bool) (hpp:∀ i,i < c.rels.length→p i=relEq (c.rels.getD i ⟨0,0,⟨#[]⟩,⟨#[]⟩⟩) (z.rels.getD i ⟨0,0,⟨#[]⟩,⟨#[]⟩⟩)) (A:Nat→Prop) (k:Nat):∀ (m i:Nat) (σ:St),i+m=c.rels.length→
 σ.keep (H13 19)=⟨[(2,.ptr 2 (.box 27) []),(3,.ptr 3 (.box 27) []),(8,.int .i64 i)],[(2,⟨.box 27,false,[(cd c.ops c.ints c.strs c.rels)]⟩),(3,⟨.box 27,false,[(cd z.ops z.ints z.strs z.rels)]⟩)]⟩→
 post (H13 19) (aloop ty (arun (env 115 20771801973475957295638050519384575 D0 [] [] A) H13 k (sub (f13.body.getD .skip) [1,1,1,1,1,0,1,0,0])) (H13 19) (m+1) σ) =
 some (if allF p i m=true then (.exit 6,⟨[(2,.ptr 2 (.box 27) []),(3,.ptr 3 (.box 27) [])],[(2,⟨.box 27,false,[(cd c.ops c.ints c.strs c.rels)]⟩),(3,⟨.box 27,false,[(cd z.ops z.ints z.strs z.rels)]⟩)]⟩) else (.ret,⟨[(2,.ptr 2 (.box 27) []),(3,.ptr 3 (.box 27) []),(4,.bool false)],[(2,⟨.box 27,false,[(cd c.ops c.ints c.strs c.rels)]⟩),(3,⟨.box 27,false,[(cd z.ops z.ints z.strs z.rels)]⟩)]⟩)):=by
 simp only[f13,sub,Option.getD_some,H13_19]
 intro m
 induction m with
 | zero=>
   intro i σ hi hσ
   have h1:¬ ((i:Int) < ((c.rels.length:Nat):Int)):=by omega
   rw[aloop,hσ]
   simp only[go_sem,simprocAttr,h1]
   simp[post,St.fin,keepL,aget,allF]
 | succ m ih=>
   intro i σ hi hσ
   have h1:(i:Int) < ((c.rels.length:Nat):Int):=by omega
   have hlt:i < c.rels.length:=by omega
   obtain⟨⟨l1,l2,l3,l4⟩,_⟩:=hl
   have hw:IntKind.i64.wrap ((i:Int)+1)=((i+1:Nat):Int):=wrap_nat (by omega)
   have hni:(0:Int)≤(i:Int):=Int.natCast_nonneg i
   have hget:=getD_get (d:=(⟨0,0,⟨#[]⟩,⟨#[]⟩⟩:XRel)) hlt
   have hget2:=getD_get (d:=(⟨0,0,⟨#[]⟩,⟨#[]⟩⟩:XRel)) (show i < z.rels.length by omega)
   have hpi:=hpp i hlt
   generalize c.rels.getD i (⟨0,0,⟨#[]⟩,⟨#[]⟩⟩:XRel)=x at *
   generalize z.rels.getD i (⟨0,0,⟨#[]⟩,⟨#[]⟩⟩:XRel)=y at *
   try simp only[opEq,relEq] at hpi
   rw[aloop,hσ]
   cases hq:p i
   all_goals
    rw[hq] at hpi
    have hpj:=hpi.symm
    skip
   all_goals
    simp only[go_sem,simprocAttr,h1,hni,hget,hget2,hw,hpj,hq]
    simp only[allF,hq,BL]
    first
    | (simp[post,St.fin,keepL,aget];done)
    | exact ih (i+1) _ (by omega) (by simp only[go_sem,simprocAttr])
theorem run13 (c z:XCode) (hp:(c.ops.length≤100000∧c.ints.length≤100000∧c.strs.length≤100000∧c.rels.length≤100000)∧(z.ops.length≤100000∧z.ints.length≤100000∧z.strs.length≤100000∧z.rels.length≤100000)) (A:Nat→Prop):acall (env 115 20771801973475957295638050519384575 D0 [] [] A) (H13) (100010) f13 [(cd c.ops c.ints c.strs c.rels),(cd z.ops z.ints z.strs z.rels)]=some (.bool (sameF c z)):=by
 obtain⟨⟨l1,l2,l3,l4⟩,_⟩:=id hp
 have cc:∀ a b:Nat,(a==b)=((a:Int)==(b:Int)):=fun a b=>by
  rw[Bool.eq_iff_iff];simp only[beq_iff_eq];omega
 cases d1:((c.ops.length:Int)==(z.ops.length:Int))
 ·simp only[sameF,cc,d1,BL]
  simp only[acall,macall,f13]
  simp only[go_sem,simprocAttr,d1,H13_4,H13_9,H13_14,H13_19]
  try rfl
 ·cases d2:((c.ints.length:Int)==(z.ints.length:Int))
  ·simp only[sameF,cc,d1,d2,BL]
   simp only[acall,macall,f13]
   simp only[go_sem,simprocAttr,d1,d2,H13_4,H13_9,H13_14,H13_19]
   try rfl
  ·cases d3:((c.strs.length:Int)==(z.strs.length:Int))
   ·simp only[sameF,cc,d1,d2,d3,BL]
    simp only[acall,macall,f13]
    simp only[go_sem,simprocAttr,d1,d2,d3,H13_4,H13_9,H13_14,H13_19]
    try rfl
   ·cases d4:((c.rels.length:Int)==(z.rels.length:Int))
    ·simp only[sameF,cc,d1,d2,d3,d4,BL]
     simp only[acall,macall,f13]
     simp only[go_sem,simprocAttr,d1,d2,d3,d4,H13_4,H13_9,H13_14,H13_19]
     try rfl
    ·have q1:c.ops.length=z.ops.length:=by simp only[beq_iff_eq] at d1;omega
     have q2:c.ints.length=z.ints.length:=by simp only[beq_iff_eq] at d2;omega
     have q3:c.strs.length=z.strs.length:=by simp only[beq_iff_eq] at d3;omega
     have q4:c.rels.length=z.rels.length:=by simp only[beq_iff_eq] at d4;omega
     simp only[acall,macall,f13]
     simp only[go_sem,simprocAttr,d1,d2,d3,d4,H13_4,H13_9,H13_14,H13_19]
     have hl4:=loop13_4 c z hp (by omega) (fun i=>opEq (c.ops.getD i op0) (z.ops.getD i op0)) (fun _ _=>rfl) A 100010 c.ops.length 0
     simp only[f13,sub,Option.getD_some,H13_4,H13_9,H13_14,H13_19] at hl4
     rw[post_le (hl4 _ (by simp) (by simp only[go_sem,simprocAttr])) (by omega)]
     cases hq4:allF (fun i=>opEq (c.ops.getD i op0) (z.ops.getD i op0)) 0 c.ops.length
     ·simp only[sameF,cc,d1,d2,d3,d4,hq4,BL]
      simp only[go_sem,simprocAttr,d1,d2,d3,d4,H13_4,H13_9,H13_14,H13_19]
      try rfl
     simp only[BL]
     simp only[go_sem,simprocAttr,d1,d2,d3,d4,H13_4,H13_9,H13_14,H13_19]
     have hl9:=loop13_9 c z hp (by omega) (fun i=>c.ints.getD i 0==z.ints.getD i 0) (fun _ _=>rfl) A 100010 c.ints.length 0
     simp only[f13,sub,Option.getD_some,H13_4,H13_9,H13_14,H13_19] at hl9
     rw[post_le (hl9 _ (by simp) (by simp only[go_sem,simprocAttr])) (by omega)]
     cases hq9:allF (fun i=>c.ints.getD i 0==z.ints.getD i 0) 0 c.ints.length
     ·simp only[sameF,cc,d1,d2,d3,d4,hq4,hq9,BL]
      simp only[go_sem,simprocAttr,d1,d2,d3,d4,H13_4,H13_9,H13_14,H13_19]
      try rfl
     simp only[BL]
     simp only[go_sem,simprocAttr,d1,d2,d3,d4,H13_4,H13_9,H13_14,H13_19]
     have hl14:=loop13_14 c z hp (by omega) (fun i=>(c.strs.getD i ⟨#[]⟩).toList==(z.strs.getD i ⟨#[]⟩).toList) (fun _ _=>rfl) A 100010 c.strs.length 0
     simp only[f13,sub,Option.getD_some,H13_4,H13_9,H13_14,H13_19] at hl14
     rw[post_le (hl14 _ (by simp) (by simp only[go_sem,simprocAttr])) (by omega)]
     cases hq14:allF (fun i=>(c.strs.getD i ⟨#[]⟩).toList==(z.strs.getD i ⟨#[]⟩).toList) 0 c.strs.length
     ·simp only[sameF,cc,d1,d2,d3,d4,hq4,hq9,hq14,BL]
      simp only[go_sem,simprocAttr,d1,d2,d3,d4,H13_4,H13_9,H13_14,H13_19]
      try rfl
     simp only[BL]
     simp only[go_sem,simprocAttr,d1,d2,d3,d4,H13_4,H13_9,H13_14,H13_19]
     have hl19:=loop13_19 c z hp (by omega) (fun i=>relEq (c.rels.getD i ⟨0,0,⟨#[]⟩,⟨#[]⟩⟩) (z.rels.getD i ⟨0,0,⟨#[]⟩,⟨#[]⟩⟩)) (fun _ _=>rfl) A 100010 c.rels.length 0
     simp only[f13,sub,Option.getD_some,H13_4,H13_9,H13_14,H13_19] at hl19
     rw[post_le (hl19 _ (by simp) (by simp only[go_sem,simprocAttr])) (by omega)]
     cases hq19:allF (fun i=>relEq (c.rels.getD i ⟨0,0,⟨#[]⟩,⟨#[]⟩⟩) (z.rels.getD i ⟨0,0,⟨#[]⟩,⟨#[]⟩⟩)) 0 c.rels.length
     all_goals
      simp only[sameF,cc,d1,d2,d3,d4,hq4,hq9,hq14,hq19,BL]
      simp only[go_sem,simprocAttr,d1,d2,d3,d4,H13_4,H13_9,H13_14,H13_19]
      try rfl
noncomputable def c13:=famP (α:=XCode × XCode) (fun (c,z)=>(c.ops.length≤100000∧c.ints.length≤100000∧c.strs.length≤100000∧c.rels.length≤100000)∧(z.ops.length≤100000∧z.ints.length≤100000∧z.strs.length≤100000∧z.rels.length≤100000)) (fun (c,z)=>[(cd c.ops c.ints c.strs c.rels),(cd z.ops z.ints z.strs z.rels)]) (fun (c,z)=> .bool (sameF c z))
theorem c13_eq (c z:XCode) (hp:(c.ops.length≤100000∧c.ints.length≤100000∧c.strs.length≤100000∧c.rels.length≤100000)∧(z.ops.length≤100000∧z.ints.length≤100000∧z.strs.length≤100000∧z.rels.length≤100000)):c13 [(cd c.ops c.ints c.strs c.rels),(cd z.ops z.ints z.strs z.rels)]=some (.bool (sameF c z)):=fam_eq (fun X Y hp hp' h'=>by
 obtain⟨c,z⟩:=X;obtain⟨c',z'⟩:=Y;simp only[INJ] at h'
 obtain⟨hi1,hi2,hi3,hi4,hi5,hi6,hi7,hi8⟩:=h'
 try dsimp only at hp hp' ⊢
 obtain rfl:c=c':=by cases c;cases c';simp only[XCode.mk.injEq];exact⟨hi1,hi2,hi3,hi4⟩
 obtain rfl:z=z':=by cases z;cases z';simp only[XCode.mk.injEq];exact⟨hi5,hi6,hi7,hi8⟩
 rfl) (c,z) hp
theorem snd13:Snd 13 c13:=fam_snd h13 rfl rfl fun (c,z) hp=>rc h13 (fun A=>run13 c z hp A) (fun i=>match i with | 6=>[0,1,0,7,15,0,32,0,224,480,1023] | 11=>[0,1,0,7,15,0,32,0,224,480,1023] | 16=>[0,1,0,7,15,0,32,0,224,480,1023] | 21=>[0,1,0,7,15,0,32,0,224,480,1023] | _=>[]) rfl rfl rfl (by kernel_rfl) trivial trivial
end Go.Proofs.Tryz
end
