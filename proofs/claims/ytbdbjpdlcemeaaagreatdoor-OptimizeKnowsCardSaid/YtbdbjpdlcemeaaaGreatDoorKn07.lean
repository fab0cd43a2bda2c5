/- Part of the proof of one statement of this seat: an abstract machine for the program, its contracts, and the statement (no condition of our own). -/
import Derived.RangeFuncIn
import Derived.RangeFuncCalls
import Derived.RangeFuncOwn
import Derived.RangeFuncSeq
import Derived.Test.YtbdbjpdlcemeaaaGreatDoorKn06
set_option linter.unusedSimpArgs false
set_option linter.unusedVariables false
section
set_option maxHeartbeats 4000000
set_option maxRecDepth 20000
namespace Go.Proofs.Tryz
open Go Go.Abs
variable (ops : List XOp) (ints : List Int) (strs : List ByteArray) (rels : List XRel)
theorem loop34_28 (v1 v10:AV) (o1 o23 o25:Abs.Obj) (C:AV) (f29:Bool) (n:Nat) (ks al:List Int) (hks:ks.length≤2) (hal:al.length=n) (hkn:∀ q ∈ ks,0≤q∧q.toNat < n) (A:Nat→Prop) (k:Nat):∀ (m j:Nat) (s:Int) (σ:St),j+m=ks.length→
 σ.keep (H34 28)=⟨[(1,v1),(4,.ptr 29 (.box 106) []),(10,v10),(11,.int .u8 s),(119,.sl 3 gT (ks.map eI)),(120,.int .i64 ks.length),(121,.int .i64 j)],[(1,o1),(23,o23),(25,o25),(27,⟨.row 109,true,al.map eU⟩),(29,⟨.box 106,f29,[.st 106 [C,.own 23 119 0 n,.own 25 4 0 n,.own 27 109 0 n]]⟩)]⟩→
 post (H34 28) (aloop ty (arun (env 171 171292023879903695822898525277610645158843576191 D34 [(56,c56),(57,c57),(58,c58),(59,c59),(60,c60),(61,c61)] [] A) H34 k (sub (f34.body.getD .skip) [1,1,1,1,1,0,1,0,0,1,0,0,1,0,1,0,0])) (H34 28) (m+1) σ)=some (.exit 8,⟨[(1,v1),(4,.ptr 29 (.box 106) []),(10,v10),(11,.int .u8 ((ks.drop j).foldl (orF al) s))],[(1,o1),(23,o23),(25,o25),(27,⟨.row 109,true,al.map eU⟩),(29,⟨.box 106,f29,[.st 106 [C,.own 23 119 0 n,.own 25 4 0 n,.own 27 109 0 n]]⟩)]⟩):=by
 simp only[f34,sub,Option.getD_some,H34_28]
 intro m
 induction m with
 | zero=>
   intro j s σ hj hσ
   have h1:¬ ((j:Int) < (ks.length:Int)):=by omega
   have h8:ks.drop j=[]:=List.drop_of_length_le (by omega)
   rw[aloop,hσ]
   simp only[go_sem,simprocAttr,h1]
   simp[post,St.fin,keepL,aget,h8]
 | succ m ih=>
   intro j s σ hj hσ
   have h1:(j:Int) < (ks.length:Int):=by omega
   have hlt:j < ks.length:=by omega
   have hni:(0:Int)≤(j:Int):=Int.natCast_nonneg j
   have hw:IntKind.i64.wrap ((j:Int)+1)=((j+1:Nat):Int):=wrap_nat (by omega)
   have hgk:ks[j]? = some (ks[j]'hlt):=List.getElem?_eq_getElem hlt
   have hd:ks.drop j=ks[j]'hlt::ks.drop (j+1):=List.drop_eq_getElem_cons hlt
   have hq:=hkn _ (List.getElem_mem hlt)
   rw[aloop,hσ,hd,List.foldl_cons]
   generalize ks[j]=q at *
   obtain⟨hq0,hqn⟩:=hq
   have hqi:q < (n:Int):=by omega
   have hga:=getD_get (d:=0) (show q.toNat < al.length by omega)
   simp only[orF]
   simp only[go_sem,simprocAttr,D34_2,D34_14,D34_18,h1,hni,hgk,hw,hq0,hqi,hga,hal]
   exact ih (j+1) _ _ (by omega) (by simp only[go_sem,simprocAttr])
theorem loop34_36 (v1 v10:AV) (o1 o23 o25:Abs.Obj) (C:AV) (f29:Bool) (n:Nat) (ks al:List Int) (hks:ks.length≤2) (hkn:∀ q ∈ ks,0≤q) (A:Nat→Prop) (k:Nat):∀ (m j:Nat) (s:Int) (σ:St),j+m=ks.length→
 σ.keep (H34 36)=⟨[(1,v1),(4,.ptr 29 (.box 106) []),(10,v10),(11,.int .u8 s),(153,.sl 3 gT (ks.map eI)),(154,.int .i64 ks.length),(155,.int .i64 j)],[(1,o1),(23,o23),(25,o25),(27,⟨.row 109,true,al.map eU⟩),(29,⟨.box 106,f29,[.st 106 [C,.own 23 119 0 n,.own 25 4 0 n,.own 27 109 0 n]]⟩)]⟩→
 post (H34 36) (aloop ty (arun (env 171 171292023879903695822898525277610645158843576191 D34 [(56,c56),(57,c57),(58,c58),(59,c59),(60,c60),(61,c61)] [] A) H34 k (sub (f34.body.getD .skip) [1,1,1,1,1,0,1,0,0,1,0,0,1,1,1,0,1,0,0])) (H34 36) (m+1) σ)=some (.exit 10,⟨[(1,v1),(4,.ptr 29 (.box 106) []),(10,v10),(11,.int .u8 ((ks.drop j).foldl (withF) s))],[(1,o1),(23,o23),(25,o25),(27,⟨.row 109,true,al.map eU⟩),(29,⟨.box 106,f29,[.st 106 [C,.own 23 119 0 n,.own 25 4 0 n,.own 27 109 0 n]]⟩)]⟩):=by
 simp only[f34,sub,Option.getD_some,H34_36]
 intro m
 induction m with
 | zero=>
   intro j s σ hj hσ
   have h1:¬ ((j:Int) < (ks.length:Int)):=by omega
   have h8:ks.drop j=[]:=List.drop_of_length_le (by omega)
   rw[aloop,hσ]
   simp only[go_sem,simprocAttr,h1]
   simp[post,St.fin,keepL,aget,h8]
 | succ m ih=>
   intro j s σ hj hσ
   have h1:(j:Int) < (ks.length:Int):=by omega
   have hlt:j < ks.length:=by omega
   have hni:(0:Int)≤(j:Int):=Int.natCast_nonneg j
   have hw:IntKind.i64.wrap ((j:Int)+1)=((j+1:Nat):Int):=wrap_nat (by omega)
   have hgk:ks[j]? = some (ks[j]'hlt):=List.getElem?_eq_getElem hlt
   have hd:ks.drop j=ks[j]'hlt::ks.drop (j+1):=List.drop_eq_getElem_cons hlt
   have hq:=hkn _ (List.getElem_mem hlt)
   rw[aloop,hσ,hd,List.foldl_cons]
   generalize ks[j]=q at *
   have e61:=c61_eq s q hq
   simp only[go_sem,simprocAttr,D34_2,D34_14,D34_18,h1,hni,hgk,hw,e61]
   exact ih (j+1) _ _ (by omega) (by simp only[go_sem,simprocAttr])
theorem loop34_24 (o23 o25:Abs.Obj) (hp:((ops.length≤100000∧ints.length≤100000∧strs.length≤100000∧rels.length≤100000)∧∀ r ∈ rels,r.str.size≤9223372036854775807∧r.mem.size≤9223372036854775807)∧checkF ops ints strs rels=true) (A:Nat→Prop) (k:Nat) (hk9:9≤k):∀ (m:Nat) (al:List Int) (σ:St),al.length=ops.length→m≤ops.length→
 σ.keep (H34 24)=⟨[(1,.ptr 1 (.box 27) []),(4,.ptr 29 (.box 106) []),(10,.int .i64 ((m:Int) - 1))],[(1,⟨.box 27,false,[(cd ops ints strs rels)]⟩),(23,o23),(25,o25),(27,⟨.row 109,true,(al).map eU⟩),(29,⟨.box 106,false,[.st 106 [(cd ops ints strs rels),.own 23 119 0 ops.length,.own 25 4 0 ops.length,.own 27 109 0 ops.length]]⟩)]⟩→
 post (H34 24) (aloop ty (arun (env 171 171292023879903695822898525277610645158843576191 D34 [(56,c56),(57,c57),(58,c58),(59,c59),(60,c60),(61,c61)] [] A) H34 k (sub (f34.body.getD .skip) [1,1,1,1,1,0,1,0,0])) (H34 24) (m+1) σ)=some (.exit 6,⟨[(1,.ptr 1 (.box 27) []),(4,.ptr 29 (.box 106) [])],[(1,⟨.box 27,false,[(cd ops ints strs rels)]⟩),(23,o23),(25,o25),(27,⟨.row 109,true,(livesF ops m al).map eU⟩),(29,⟨.box 106,false,[.st 106 [(cd ops ints strs rels),.own 23 119 0 ops.length,.own 25 4 0 ops.length,.own 27 109 0 ops.length]]⟩)]⟩):=by
 simp only[f34,sub,Option.getD_some,H34_24]
 have hg:=check_good hp.2
 have hlim:=hp.1.1
 intro m
 induction m with
 | zero=>
   intro al σ hal hm hσ
   have h1:decide ((0:Int)≤((0:Nat):Int) - 1)=false:=by decide
   rw[aloop,hσ]
   simp only[go_sem,simprocAttr,h1]
   simp[post,St.fin,keepL,aget,livesF]
 | succ m ih=>
   intro al σ hal hm hσ
   have hm1:((m+1:Nat):Int) - 1=(m:Int):=by omega
   rw[hm1] at hσ
   have h1:decide ((0:Int)≤(m:Int))=true:=by simp
   have hlt:m < ops.length:=by omega
   have hni:(0:Int)≤(m:Int):=Int.natCast_nonneg m
   have hmi:(m:Int) < (ops.length:Int):=by omega
   have hw:IntKind.i64.wrap ((m:Int) - 1)=(m:Int) - 1:=wrap_i64 (by omega) (by omega)
   have hok:=right_ok (hg.right m hlt)
   have hun:=uses_nonneg hok
   have e57:=c57_eq ops ints strs rels m hp.1
   have hin:(decide (0≤(m:Int))&&decide ((m:Int)≤(ops.length:Int) - 1))=true:=by simp;omega
   simp only[nextEF,hp.2,hin,Int.toNat_natCast,BL] at e57
   have hnl:=next_ok hg m hlt
   have hgo:=getD_get (d:=op0) hlt
   have hga:=getD_get (d:=0) (show m < al.length by omega)
   rw[aloop,hσ]
   simp only[livesF,liveAt]
   simp only[Int.toNat_natCast] at hok hun
   generalize ops.getD m op0=x at *
   have hks:(nextF ops m).length≤2:=by
    unfold nextF
    dsimp only
    split
    ·simp
    split
    ·simp
    split
    ·split <;> simp
    simp
   have hkn:∀ q ∈ nextF ops m,0≤q∧q.toNat < ops.length:=fun q hq=>by have:=hnl q hq;omega
   have hus:(usesF x.op x.a x.b).length≤2:=by
    unfold usesF
    split <;> split <;> simp
   have e58:=c58_eq x.op x.d x.a x.b x.n
   have e60:=c60_eq x.op x.d x.a x.b x.n
   generalize nextF ops m=ks at *
   generalize usesF x.op x.a x.b=us at *
   have hl:=loop34_28 (.ptr 1 (.box 27) []) (.int .i64 m) ⟨.box 27,false,[(cd ops ints strs rels)]⟩ o23 o25 ((cd ops ints strs rels)) false ops.length ks al hks hal hkn A k ks.length 0 0
   have hl2:=fun s=>loop34_36 (.ptr 1 (.box 27) []) (.int .i64 m) ⟨.box 27,false,[(cd ops ints strs rels)]⟩ o23 o25 ((cd ops ints strs rels)) false ops.length us al hus hun A k us.length 0 s
   simp only[f34,sub,Option.getD_some,H34_28,H34_36,List.drop_zero] at hl hl2
   have hsa:∀ v,(List.map eU al).set m (.int .u8 v)=List.map eU (al.set m v):=fun v=>set_map eU al m v
   simp only[go_sem,simprocAttr,D34_2,D34_14,D34_18,h1,hni,hmi,hw,e57,e58,e60,hgo,hga,hal,hsa,H34_28,H34_36]
   rw[post_le (hl _ (by simp) (by simp only[go_sem,simprocAttr])) (by omega)]
   simp only[go_sem,simprocAttr,D34_2,D34_14,D34_18,h1,hni,hmi,hw,e57,e58,e60,hgo,hga,hal,hsa,H34_28,H34_36]
   generalize ks.foldl (orF al) 0=s0 at *
   cases hd:(formF x.op).d
   ·rw[hd] at e58
    simp only[BL] at e58 ⊢
    simp only[go_sem,simprocAttr,D34_2,D34_14,D34_18,h1,hni,hmi,hw,e57,e58,e60,hgo,hga,hal,hsa,H34_28,H34_36]
    rw[post_le (hl2 s0 _ (by simp) (by simp only[go_sem,simprocAttr])) (by omega)]
    simp only[go_sem,simprocAttr,D34_2,D34_14,D34_18,h1,hni,hmi,hw,e57,e58,e60,hgo,hga,hal,hsa,H34_28,H34_36]
    exact ih _ _ (by simpa using hal) (by omega) (by simp only[go_sem,simprocAttr])
   ·rw[hd] at e58
    simp only[BL] at e58 ⊢
    have e59:=c59_eq s0 x.d hok.d.1
    simp only[go_sem,simprocAttr,D34_2,D34_14,D34_18,h1,hni,hmi,hw,e57,e58,e60,hgo,hga,hal,hsa,H34_28,H34_36,e59]
    rw[post_le (hl2 (withoutF s0 x.d) _ (by simp) (by simp only[go_sem,simprocAttr])) (by omega)]
    simp only[go_sem,simprocAttr,D34_2,D34_14,D34_18,h1,hni,hmi,hw,e57,e58,e60,hgo,hga,hal,hsa,H34_28,H34_36]
    exact ih _ _ (by simpa using hal) (by omega) (by simp only[go_sem,simprocAttr])
def start0 (n:Nat):List (List XFact) × List Bool:=(List.replicate n (List.replicate 8 z0),(List.replicate n false).set 0 true)
def workS (ops:List XOp) (ints:List Int) (rels:List XRel):List (List XFact) × List Bool:=flowFrom ops ints rels ops.length 0 (start0 ops.length)
def workL (ops:List XOp):List Int:=livesF ops ops.length (List.replicate ops.length 0)
theorem shape0 (n:Nat):Shape n (start0 n):=⟨by simp[start0],by simp[start0],fun f hf=>by simp[start0] at hf;rw[hf.2];rfl⟩
theorem shape_stepAt {ops:List XOp} {ints:List Int} {li ls:Nat} {rels rels':List XRel} (hg:Good ops li ls rels') {i:Nat} (hi:i < ops.length) {s:List (List XFact) × List Bool} (h:Shape ops.length s):Shape ops.length (stepAt ops ints rels i s):=by
 unfold stepAt
 split
 ·exact shape_fold (behind_len (h.get hi)) _ _ h fun k hk=>(next_ok hg i hi k hk).2
 ·exact h
theorem shape_flow {ops:List XOp} {ints:List Int} {li ls:Nat} {rels rels':List XRel} (hg:Good ops li ls rels'):∀ (m i:Nat) (s:List (List XFact) × List Bool),i+m≤ops.length→Shape ops.length s→Shape ops.length (flowFrom ops ints rels m i s)
 | 0,_,s,_,h=>h
 | m+1,i,s,hi,h=>shape_flow hg m (i+1) _ (by omega) (shape_stepAt hg (by omega) h)
theorem shape_work {ops:List XOp} {ints:List Int} {li ls:Nat} {rels rels':List XRel} (hg:Good ops li ls rels'):Shape ops.length (workS ops ints rels):=shape_flow hg _ _ _ (by omega) (shape0 _)
theorem lives_len (ops:List XOp):∀ (m:Nat) (al:List Int),(livesF ops m al).length=al.length
 | 0,al=>rfl
 | m+1,al=>by rw[livesF,lives_len ops m];simp
theorem workL_len (ops:List XOp):(workL ops).length=ops.length:=by simp[workL,lives_len]
theorem rep_map {α:Type} (f:α→AV) (n:Nat) (x:α):List.replicate n (f x)=(List.replicate n x).map f:=by simp
theorem litAll_rep {α:Type} (x:α) (n:Nat):litAll x n=List.replicate n x:=by
 induction n with
 | zero=>rfl
 | succ n ih=>simp only[litAll,ih,List.replicate_succ]
theorem run34 (hp:((ops.length≤100000∧ints.length≤100000∧strs.length≤100000∧rels.length≤100000)∧∀ r ∈ rels,r.str.size≤9223372036854775807∧r.mem.size≤9223372036854775807)∧checkF ops ints strs rels=true) (A:Nat→Prop):acall (env 171 171292023879903695822898525277610645158843576191 D34 [(56,c56),(57,c57),(58,c58),(59,c59),(60,c60),(61,c61)] [] A) (H34) (600) f34 [(cd ops ints strs rels)]=some (.ro false 106 (.st 106 [(cd ops ints strs rels),.sl 119 gT ((workS ops ints rels).1.map eFacts),.sl 4 gT ((workS ops ints rels).2.map eB),.sl 109 gT ((workL ops).map eU)])):=by
 have hg:=check_good hp.2
 have hpos:=hg.pos
 have hlen:=hg.len
 have h1:decide ((0:Int) < (ops.length:Int))=true:=by simp;omega
 have hpos0:(0:Int) < (ops.length:Int):=by omega
 have hwl:IntKind.i64.wrap ((ops.length:Int) - 1)=(ops.length:Int) - 1:=wrap_i64 (by omega) (by omega)
 have hroom1:((ops.length:Int) * 128≤140737488355328)=True:=by simp;omega
 have hroom2:((ops.length:Int) * 1≤140737488355328)=True:=by simp;omega
 have hroom3:=hroom2
 have he8:eFacts (List.replicate 8 z0) = .ar 119 [.st 117 [.int .i64 0,.int .i64 0],.st 117 [.int .i64 0,.int .i64 0],.st 117 [.int .i64 0,.int .i64 0],.st 117 [.int .i64 0,.int .i64 0],.st 117 [.int .i64 0,.int .i64 0],.st 117 [.int .i64 0,.int .i64 0],.st 117 [.int .i64 0,.int .i64 0],.st 117 [.int .i64 0,.int .i64 0]]:=rfl
 have hrep1:(List.replicate ops.length (.ar 119 [.st 117 [.int .i64 0,.int .i64 0],.st 117 [.int .i64 0,.int .i64 0],.st 117 [.int .i64 0,.int .i64 0],.st 117 [.int .i64 0,.int .i64 0],.st 117 [.int .i64 0,.int .i64 0],.st 117 [.int .i64 0,.int .i64 0],.st 117 [.int .i64 0,.int .i64 0],.st 117 [.int .i64 0,.int .i64 0]]):List AV)=(List.replicate ops.length (List.replicate 8 z0)).map eFacts:=by rw[← he8];exact rep_map eFacts _ _
 have hrep2:(List.replicate ops.length (.bool false):List AV)=(List.replicate ops.length false).map eB:=rep_map eB _ _
 have hrep3:(List.replicate ops.length (.int .u8 0):List AV)=(List.replicate ops.length (0:Int)).map eU:=rep_map eU _ _
 have hset0:((List.replicate ops.length false).map eB).set 0 (.bool true)=((List.replicate ops.length false).set 0 true).map eB:=set_map eB _ 0 true
 have hget0:(List.map eB (List.replicate ops.length false))[0]? = some (AV.bool false):=by
  rw[List.getElem?_map,List.getElem?_replicate,if_pos (by omega)];rfl
 have hl6:=loop34_6 ops ints strs rels (List.replicate ops.length 0) hp A 600 (by omega) ops.length 0 (start0 ops.length).1 (start0 ops.length).2
 have hl24:=loop34_24 ops ints strs rels ⟨.row 119,true,(workS ops ints rels).1.map eFacts⟩ ⟨.row 4,true,(workS ops ints rels).2.map eB⟩ hp A 600 (by omega) ops.length (List.replicate ops.length 0)
 simp only[f34,sub,Option.getD_some,H34_6,H34_24] at hl6 hl24
 simp only[acall,macall,f34]
 simp only[go_sem,simprocAttr,D34_2,D34_14,D34_18,h1,hroom1,hroom2,hroom3,hrep1,hrep2,hrep3,hset0,hget0,hpos0,List.length_replicate,H34_6,H34_24,hwl]
 rw[post_le (hl6 _ (shape0 _) (by simp) (by omega) (by simp only[go_sem,simprocAttr,start0])) (by omega)]
 simp only[go_sem,simprocAttr,D34_2,D34_14,D34_18,h1,hroom1,hroom2,hroom3,hrep1,hrep2,hrep3,hset0,hget0,hpos0,List.length_replicate,H34_6,H34_24,hwl]
 have hwS:flowFrom ops ints rels ops.length 0 ((start0 ops.length).1,(start0 ops.length).2)=workS ops ints rels:=rfl
 rw[hwS]
 have hsh:=shape_work (ints:=ints) (rels:=rels) hg
 have hs1:(workS ops ints rels).1.length=ops.length:=hsh.1
 have hs2:(workS ops ints rels).2.length=ops.length:=hsh.2.1
 have hs3:=workL_len ops
 rw[post_le (hl24 _ (by simp) (Nat.le_refl _) (by simp only[go_sem,simprocAttr,start0])) (by omega)]
 have hwL:livesF ops ops.length (List.replicate ops.length 0)=workL ops:=rfl
 rw[hwL]
 simp only[go_sem,simprocAttr,D34_2,D34_14,D34_18,h1,hroom1,hroom2,hroom3,hrep1,hrep2,hrep3,hset0,hget0,hpos0,List.length_replicate,H34_6,H34_24,hwl,hs1,hs2,hs3]
 try rfl
noncomputable def c34:=famP (α:=(List XOp) × (List Int) × (List ByteArray) × (List XRel)) (fun (ops,ints,strs,rels)=>((ops.length≤100000∧ints.length≤100000∧strs.length≤100000∧rels.length≤100000)∧∀ r ∈ rels,r.str.size≤9223372036854775807∧r.mem.size≤9223372036854775807)∧checkF ops ints strs rels=true) (fun (ops,ints,strs,rels)=>[(cd ops ints strs rels)]) (fun (ops,ints,strs,rels)=> .ro false 106 (.st 106 [(cd ops ints strs rels),.sl 119 gT ((workS ops ints rels).1.map eFacts),.sl 4 gT ((workS ops ints rels).2.map eB),.sl 109 gT ((workL ops).map eU)]))
theorem c34_eq (hp:((ops.length≤100000∧ints.length≤100000∧strs.length≤100000∧rels.length≤100000)∧∀ r ∈ rels,r.str.size≤9223372036854775807∧r.mem.size≤9223372036854775807)∧checkF ops ints strs rels=true):c34 [(cd ops ints strs rels)]=some (.ro false 106 (.st 106 [(cd ops ints strs rels),.sl 119 gT ((workS ops ints rels).1.map eFacts),.sl 4 gT ((workS ops ints rels).2.map eB),.sl 109 gT ((workL ops).map eU)])):=fam_eq (fun X Y hp hp' h'=>by
 obtain⟨ops,ints,strs,rels⟩:=X;obtain⟨ops',ints',strs',rels'⟩:=Y;simp only[INJ] at h'
 obtain⟨rfl,rfl,rfl,rfl⟩:=h'
 rfl) (ops,ints,strs,rels) hp
theorem snd34:Snd 34 c34:=fam_snd h34 rfl rfl fun (ops,ints,strs,rels) hp=>rc h34 (fun A=>run34 ops ints strs rels hp A) (fun i=>match i with | 2=>[0,0,2,0,8,0,32,127,255,511] | 14=>[0,1,3,7,0,0,32,96,224,0,0,511,2559,8191,16383] | 18=>[0,1,3,7,0,0,31,127,255,0,512,1536,4095] | _=>[]) rfl rfl rfl (by kernel_rfl) ⟨snd56,snd57,snd58,snd59,snd60,snd61,trivial⟩ trivial
theorem work_fact_len {ops:List XOp} {ints:List Int} {li ls:Nat} {rels rels':List XRel} (hg:Good ops li ls rels') {i:Nat} (hi:i < ops.length):((workS ops ints rels).1.getD i []).length=8:=(shape_work hg).get hi
def fillL {α:Type} (f:Nat→α) (d:α) (n i:Nat):List α:=(List.range n).map fun j=>if j < i then f j else d
theorem fill_len {α:Type} (f:Nat→α) (d:α) (n i:Nat):(fillL f d n i).length=n:=by simp[fillL]
theorem fill_zero {α:Type} (f:Nat→α) (d:α) (n:Nat):fillL f d n 0=List.replicate n d:=by
 simp only[fillL,Nat.not_lt_zero,BL]
 apply List.ext_getElem <;> simp
theorem fill_get {α:Type} (f:Nat→α) (d:α) (n i:Nat) (h:i < n):(fillL f d n i)[i]? = some d:=by simp[fillL,h]
theorem fill_set {α:Type} (f:Nat→α) (d:α) (n i:Nat):(fillL f d n i).set i (f i)=fillL f d n (i+1):=by
 apply List.ext_getElem?
 intro j
 rw[List.getElem?_set]
 by_cases hj:i=j
 ·subst hj
  by_cases hn:i < n <;> simp[fillL,hn]
 ·have:(j < i↔j < i+1):=by omega
  by_cases hn:j < n <;> simp[fillL,hj,this,hn]
theorem fill_same {α:Type} (f:Nat→α) (d:α) (n i:Nat) (h:f i=d):fillL f d n i=fillL f d n (i+1):=by
 apply List.ext_getElem?
 intro j
 by_cases hj:j=i
 ·subst hj
  by_cases hn:j < n <;> simp[fillL,hn,h]
 ·have:(j < i↔j < i+1):=by omega
  by_cases hn:j < n <;> simp[fillL,this,hn]
theorem fill_end {α:Type} (f:Nat→α) (d:α) (n i:Nat) (h:n≤i):fillL f d n i=(List.range n).map f:=by
 unfold fillL
 apply List.map_congr_left
 intro j hj
 have:=List.mem_range.1 hj
 rw[if_pos (by omega)]
def reachedEF (ok:Bool) (ops:List XOp) (ints:List Int) (rels:List XRel):List Bool × Int:=if ok=true then ((workS ops ints rels).2,0) else ([],150)
theorem h26:Tryz.prog.funcs[26]? = some f26:=by kernel_rfl
theorem run26 (hp:(ops.length≤100000∧ints.length≤100000∧strs.length≤100000∧rels.length≤100000)∧∀ r ∈ rels,r.str.size≤9223372036854775807∧r.mem.size≤9223372036854775807) :∃ r,wk r (.tup [.sl 4 gF ((reachedEF (checkF ops ints strs rels) ops ints rels).1.map eB),.int .i64 (reachedEF (checkF ops ints strs rels) ops ints rels).2])∧∀ A,acall (env 15 287 D0 [(33,c33),(34,c34)] [] A) (fun _=>{ tm:=[],ob:=[] }) (5) f26 [(cd ops ints strs rels)]=some r:=by
 have e33:=c33_eq ops ints strs rels hp
 cases hc:checkF ops ints strs rels
 ·rw[hc] at e33
  simp only[reachedEF,errF,BL] at e33 ⊢
  have e34:=trivial
  apply wkI
  ·intro A
   simp only[acall,macall,f26]
   simp only[go_sem,simprocAttr,e33,e34]
   rfl
  ·(simp[WK,eOut,eCode] <;> first | rfl | exact⟨rfl,rfl⟩)
 ·have e34:=c34_eq ops ints strs rels ⟨hp,hc⟩
  rw[hc] at e33
  simp only[reachedEF,errF,BL] at e33 ⊢
  apply wkI
  ·intro A
   simp only[acall,macall,f26]
   simp only[go_sem,simprocAttr,e33,e34]
   rfl
  ·(simp[WK,eOut,eCode] <;> first | rfl | exact⟨rfl,rfl⟩)
noncomputable def c26:=famP (α:=(List XOp) × (List Int) × (List ByteArray) × (List XRel)) (fun (ops,ints,strs,rels)=>(ops.length≤100000∧ints.length≤100000∧strs.length≤100000∧rels.length≤100000)∧∀ r ∈ rels,r.str.size≤9223372036854775807∧r.mem.size≤9223372036854775807) (fun (ops,ints,strs,rels)=>[(cd ops ints strs rels)]) (fun (ops,ints,strs,rels)=> .tup [.sl 4 gF ((reachedEF (checkF ops ints strs rels) ops ints rels).1.map eB),.int .i64 (reachedEF (checkF ops ints strs rels) ops ints rels).2])
theorem c26_eq (hp:(ops.length≤100000∧ints.length≤100000∧strs.length≤100000∧rels.length≤100000)∧∀ r ∈ rels,r.str.size≤9223372036854775807∧r.mem.size≤9223372036854775807):c26 [(cd ops ints strs rels)]=some (.tup [.sl 4 gF ((reachedEF (checkF ops ints strs rels) ops ints rels).1.map eB),.int .i64 (reachedEF (checkF ops ints strs rels) ops ints rels).2]):=fam_eq (fun X Y hp hp' h'=>by
 obtain⟨ops,ints,strs,rels⟩:=X;obtain⟨ops',ints',strs',rels'⟩:=Y;simp only[INJ] at h'
 obtain⟨rfl,rfl,rfl,rfl⟩:=h'
 rfl) (ops,ints,strs,rels) hp
theorem snd26:Snd 26 c26:=fam_snd h26 rfl rfl fun (ops,ints,strs,rels) hp=>let ⟨_,hw,hr⟩:=run26 ops ints strs rels hp;(rc h26 hr (fun _=>[]) rfl rfl rfl (by kernel_rfl) ⟨snd33,snd34,trivial⟩ trivial).weak hw
def knownAt (ops:List XOp) (ints:List Int) (rels:List XRel) (q:Int) (r:Nat):Bool:=(factAt (workS ops ints rels).1 q r).sort==1&&(workS ops ints rels).2.getD q.toNat false
def knownN (ops:List XOp) (ints:List Int) (rels:List XRel) (q:Int) (r:Nat):Int:=if knownAt ops ints rels q r=true then (factAt (workS ops ints rels).1 q r).n else 0
def knownEF (ok:Bool) (ops:List XOp) (ints:List Int) (rels:List XRel) (q:Int):List Int × List Bool × Int:=
 if ok=true then (if (decide (q < 0) || decide ((ops.length:Int)≤q))=true then ([],[],1) else ((List.range 8).map (knownN ops ints rels q),(List.range 8).map (knownAt ops ints rels q),0)) else ([],[],150)
theorem h27:Tryz.prog.funcs[27]? = some f27:=by kernel_rfl
def H27:Nat→Hint:=fun i=>if i=10 then ({ tm:=[1,8,9,10,33,34],ob:=[30,31],fin:=some ([9,10],[30,31]) }:Hint) else { tm:=[],ob:=[] }
theorem H27_10:H27 10=({ tm:=[1,8,9,10,33,34],ob:=[30,31],fin:=some ([9,10],[30,31]) }:Hint):=by simp[H27]
theorem loop27_10 (q:Int) (hp:((ops.length≤100000∧ints.length≤100000∧strs.length≤100000∧rels.length≤100000)∧∀ r ∈ rels,r.str.size≤9223372036854775807∧r.mem.size≤9223372036854775807)∧checkF ops ints strs rels=true) (h0:0≤q) (hq:q.toNat < ops.length) (A:Nat→Prop) (k:Nat):∀ (m i:Nat) (σ:St),i+m=8→
 σ.keep (H27 10)=⟨[(1,.int .i64 q),(8,.ro false 106 (.st 106 [(cd ops ints strs rels),.sl 119 gT ((workS ops ints rels).1.map eFacts),.sl 4 gT ((workS ops ints rels).2.map eB),.sl 109 gT ((workL ops).map eU)])),(9,.own 30 2 0 8),(10,.own 31 4 0 8),(33,.int .i64 8),(34,.int .i64 i)],[(30,⟨.row 2,true,(fillL (knownN ops ints rels q) 0 8 i).map eI⟩),(31,⟨.row 4,true,(fillL (knownAt ops ints rels q) false 8 i).map eB⟩)]⟩→
 post (H27 10) (aloop ty (arun (env 64 9007259518648311 D0 [(33,c33),(34,c34),(47,c47)] [] A) H27 k (sub (f27.body.getD .skip) [1,1,1,1,1,1,0,1,0,0])) (H27 10) (m+1) σ)=some (.exit 0,⟨[(9,.own 30 2 0 8),(10,.own 31 4 0 8)],[(30,⟨.row 2,true,(fillL (knownN ops ints rels q) 0 8 8).map eI⟩),(31,⟨.row 4,true,(fillL (knownAt ops ints rels q) false 8 8).map eB⟩)]⟩):=by
 simp only[f27,sub,Option.getD_some,H27_10]
 intro m
 induction m with
 | zero=>
   intro i σ hi hσ
   have h1:¬ ((i:Int) < (8:Int)):=by omega
   have h8a:fillL (knownN ops ints rels q) 0 8 i=fillL (knownN ops ints rels q) 0 8 8:=by rw[show i=8 by omega]
   have h8b:fillL (knownAt ops ints rels q) false 8 i=fillL (knownAt ops ints rels q) false 8 8:=by rw[show i=8 by omega]
   rw[aloop,hσ]
   simp only[go_sem,simprocAttr,h1]
   simp[post,St.fin,keepL,aget,h8a,h8b]
 | succ m ih=>
   intro i σ hi hσ
   have h1:(i:Int) < (8:Int):=by omega
   have hlt:i < 8:=by omega
   have hni:(0:Int)≤(i:Int):=Int.natCast_nonneg i
   have hw:IntKind.i64.wrap ((i:Int)+1)=((i+1:Nat):Int):=wrap_nat (by omega)
   have h1c:(i:Int) < (8:Int):=h1
   have hg:=check_good hp.2
   have hsh:=shape_work (ints:=ints) (rels:=rels) hg
   have hl2:(workS ops ints rels).2.length=ops.length:=hsh.2.1
   have hl1:(workS ops ints rels).1.length=ops.length:=hsh.1
   have hql:q < (ops.length:Int):=by omega
   have e47:=c47_eq ops ints strs rels (workS ops ints rels).1 (workS ops ints rels).2 (workL ops) q i ⟨by omega,h0,hni,by rw[work_fact_len hg hq];simpa using hlt⟩
   have hgr:=getD_get (d:=false) (show q.toNat < (workS ops ints rels).2.length by omega)
   have hg1:=fill_get (knownN ops ints rels q) 0 8 i hlt
   have hg2:=fill_get (knownAt ops ints rels q) false 8 i hlt
   have hs1:List.set ((fillL (knownN ops ints rels q) 0 8 i).map eI) i (.int .i64 (knownN ops ints rels q i))=(fillL (knownN ops ints rels q) 0 8 (i+1)).map eI:=by rw[← fill_set];exact set_map eI _ _ _
   have hs2:List.set ((fillL (knownAt ops ints rels q) false 8 i).map eB) i (.bool (knownAt ops ints rels q i))=(fillL (knownAt ops ints rels q) false 8 (i+1)).map eB:=by rw[← fill_set];exact set_map eB _ _ _
   have hf1:=fill_same (knownN ops ints rels q) 0 8 i
   have hf2:=fill_same (knownAt ops ints rels q) false 8 i
   have hN:knownN ops ints rels q i=if knownAt ops ints rels q i=true then (factAt (workS ops ints rels).1 q i).n else 0:=rfl
   have hA:knownAt ops ints rels q i=((factAt (workS ops ints rels).1 q i).sort==1&&(workS ops ints rels).2.getD q.toNat false):=rfl
   rw[aloop,hσ]
   generalize (workS ops ints rels).2.getD q.toNat false=rg at *
   cases hk:((factAt (workS ops ints rels).1 q i).sort==1) <;> cases rg
   all_goals
    rw[hk] at hA
    simp only[BL] at hA
    rw[hA] at hN hs2 hf2
    simp only[BL] at hN
    rw[hN] at hs1 hf1
    try simp only[forall_const,eq_self,true_implies] at hf1
    try simp only[forall_const,eq_self,true_implies] at hf2
    simp only[go_sem,simprocAttr,h1,h1c,hni,hw,hg1,hg2,e47,hs1,hs2,h0,hql,hgr,hk,fill_len,hl2]
    exact ih (i+1) _ (by omega) (by first | (simp only[go_sem,simprocAttr,hs1,hs2];done) | (rw[← hf1,← hf2];simp only[go_sem,simprocAttr];done))
theorem run27 (q:Int) (hp:(ops.length≤100000∧ints.length≤100000∧strs.length≤100000∧rels.length≤100000)∧∀ r ∈ rels,r.str.size≤9223372036854775807∧r.mem.size≤9223372036854775807) :∃ r,wk r (.tup [.sl 2 gT ((knownEF (checkF ops ints strs rels) ops ints rels q).1.map eI),.sl 4 gT ((knownEF (checkF ops ints strs rels) ops ints rels q).2.1.map eB),.int .i64 (knownEF (checkF ops ints strs rels) ops ints rels q).2.2])∧∀ A,acall (env 64 9007259518648311 D0 [(33,c33),(34,c34),(47,c47)] [] A) (H27) (20) f27 [(cd ops ints strs rels),.int .i64 q]=some r:=by
 have e33:=c33_eq ops ints strs rels hp
 cases hc:checkF ops ints strs rels
 ·rw[hc] at e33
  simp only[knownEF,errF,BL] at e33 ⊢
  have e34:=trivial
  have hq0:=trivial
  have hq1:=trivial
  apply wkI
  ·intro A
   simp only[acall,macall,f27]
   simp only[go_sem,simprocAttr,e33,e34,hq0,hq1,H27_10]
   rfl
  ·(simp[WK,eOut,eCode] <;> first | rfl | exact⟨rfl,rfl⟩)
 ·have e34:=c34_eq ops ints strs rels ⟨hp,hc⟩
  rw[hc] at e33
  simp only[knownEF,errF,BL] at e33 ⊢
  cases hq0:decide (q < 0) <;> cases hq1:decide ((ops.length:Int)≤q)
  all_goals simp only[BL]
  rotate_left
  all_goals first
   | (
      apply wkI
      ·intro A
       simp only[acall,macall,f27]
       simp only[go_sem,simprocAttr,e33,e34,hq0,hq1,H27_10]
       rfl
      ·(simp[WK,eOut,eCode] <;> first | rfl | exact⟨rfl,rfl⟩)
      done)
   | skip
  have hl10:=fun A=>loop27_10 ops ints strs rels q ⟨hp,hc⟩ (by simpa using hq0) (by simp at hq0 hq1;omega) A 20 8 0
  simp only[f27,sub,Option.getD_some,H27_10] at hl10
  have hr1:(List.replicate 8 (.int .i64 0):List AV)=(fillL (knownN ops ints rels q) 0 8 0).map eI:=by rw[fill_zero];rfl
  have hr2:(List.replicate 8 (.bool false):List AV)=(fillL (knownAt ops ints rels q) false 8 0).map eB:=by rw[fill_zero];rfl
  have hc8:(8:Int)=8:=rfl
  have hrm8:((8:Int) * (8:Int)≤140737488355328)=True:=by decide
  have hrm1:((8:Int) * ((1:Nat):Int)≤140737488355328)=True:=by decide
  have he1:=fill_end (knownN ops ints rels q) 0 8 8 (Nat.le_refl _)
  have he2:=fill_end (knownAt ops ints rels q) false 8 8 (Nat.le_refl _)
  apply wkI
  ·intro A
   simp only[acall,macall,f27]
   simp only[go_sem,simprocAttr,e33,e34,hq0,hq1,H27_10,hr1,hr2,hrm8,hrm1]
   rw[post_le (hl10 A _ (by first | trivial | omega) (by simp only[go_sem,simprocAttr,hr1,hr2,hc8])) (by omega)]
   rw[he1,he2]
   simp only[go_sem,simprocAttr,e33,e34,hq0,hq1,H27_10]
   rfl
  ·(simp[WK,eOut,eCode] <;> first | rfl | exact⟨rfl,rfl⟩)
noncomputable def c27:=famP (α:=(List XOp) × (List Int) × (List ByteArray) × (List XRel) × Int) (fun (ops,ints,strs,rels,q)=>(ops.length≤100000∧ints.length≤100000∧strs.length≤100000∧rels.length≤100000)∧∀ r ∈ rels,r.str.size≤9223372036854775807∧r.mem.size≤9223372036854775807) (fun (ops,ints,strs,rels,q)=>[(cd ops ints strs rels),.int .i64 q]) (fun (ops,ints,strs,rels,q)=> .tup [.sl 2 gT ((knownEF (checkF ops ints strs rels) ops ints rels q).1.map eI),.sl 4 gT ((knownEF (checkF ops ints strs rels) ops ints rels q).2.1.map eB),.int .i64 (knownEF (checkF ops ints strs rels) ops ints rels q).2.2])
theorem c27_eq (q:Int) (hp:(ops.length≤100000∧ints.length≤100000∧strs.length≤100000∧rels.length≤100000)∧∀ r ∈ rels,r.str.size≤9223372036854775807∧r.mem.size≤9223372036854775807):c27 [(cd ops ints strs rels),.int .i64 q]=some (.tup [.sl 2 gT ((knownEF (checkF ops ints strs rels) ops ints rels q).1.map eI),.sl 4 gT ((knownEF (checkF ops ints strs rels) ops ints rels q).2.1.map eB),.int .i64 (knownEF (checkF ops ints strs rels) ops ints rels q).2.2]):=fam_eq (fun X Y hp hp' h'=>by
 obtain⟨ops,ints,strs,rels,q⟩:=X;obtain⟨ops',ints',strs',rels',q'⟩:=Y;simp only[INJ] at h'
 obtain⟨rfl,rfl,rfl,rfl,rfl⟩:=h'
 rfl) (ops,ints,strs,rels,q) hp
theorem snd27:Snd 27 c27:=fam_snd h27 rfl rfl fun (ops,ints,strs,rels,q) hp=>let ⟨_,hw,hr⟩:=run27 ops ints strs rels q hp;(rc h27 hr (fun _=>[]) rfl rfl rfl (by kernel_rfl) ⟨snd33,snd34,snd47,trivial⟩ trivial).weak hw
def liveAtF (ops:List XOp) (q:Int) (r:Nat):Bool:=hasF ((workL ops).getD q.toNat 0) r
def liveEF (ok:Bool) (ops:List XOp) (q:Int):List Bool × Int:=
 if ok=true then (if (decide (q < 0) || decide ((ops.length:Int)≤q))=true then ([],1) else ((List.range 8).map (liveAtF ops q),0)) else ([],150)
theorem h28:Tryz.prog.funcs[28]? = some f28:=by kernel_rfl
def H28:Nat→Hint:=fun i=>if i=9 then ({ tm:=[7,8,34,35],ob:=[32],fin:=some ([8],[32]) }:Hint) else { tm:=[],ob:=[] }
theorem H28_9:H28 9=({ tm:=[7,8,34,35],ob:=[32],fin:=some ([8],[32]) }:Hint):=by simp[H28]
theorem loop28_9 (a:Int) (A:Nat→Prop) (k:Nat):∀ (m i:Nat) (σ:St),i+m=8→
 σ.keep (H28 9)=⟨[(7,.int .u8 a),(8,.own 32 4 0 8),(34,.int .i64 8),(35,.int .i64 i)],[(32,⟨.row 4,true,(fillL (fun r=>hasF a r) false 8 i).map eB⟩)]⟩→
 post (H28 9) (aloop ty (arun (env 46 120267482103 D0 [(33,c33),(34,c34),(48,c48)] [] A) H28 k (sub (f28.body.getD .skip) [1,1,1,1,1,0,1,0,0])) (H28 9) (m+1) σ)=some (.exit 0,⟨[(8,.own 32 4 0 8)],[(32,⟨.row 4,true,(fillL (fun r=>hasF a r) false 8 8).map eB⟩)]⟩):=by
 simp only[f28,sub,Option.getD_some,H28_9]
 intro m
 induction m with
 | zero=>
   intro i σ hi hσ
   have h1:¬ ((i:Int) < (8:Int)):=by omega
   have h8b:fillL (fun r=>hasF a r) false 8 i=fillL (fun r=>hasF a r) false 8 8:=by rw[show i=8 by omega]
   rw[aloop,hσ]
   simp only[go_sem,simprocAttr,h1]
   simp[post,St.fin,keepL,aget,h8b]
 | succ m ih=>
   intro i σ hi hσ
   have h1:(i:Int) < (8:Int):=by omega
   have hlt:i < 8:=by omega
   have hni:(0:Int)≤(i:Int):=Int.natCast_nonneg i
   have hw:IntKind.i64.wrap ((i:Int)+1)=((i+1:Nat):Int):=wrap_nat (by omega)
   have h1c:(i:Int) < (8:Int):=h1
   have e48:=c48_eq a i hni
   have hg2:=fill_get (fun r=>hasF a r) false 8 i hlt
   have hs2:List.set ((fillL (fun r=>hasF a r) false 8 i).map eB) i (.bool (hasF a i))=(fillL (fun r=>hasF a r) false 8 (i+1)).map eB:=by rw[← fill_set];exact set_map eB _ _ _
   rw[aloop,hσ]
   simp only[go_sem,simprocAttr,h1,h1c,hni,hw,hg2,e48,hs2,fill_len]
   exact ih (i+1) _ (by omega) (by simp only[go_sem,simprocAttr,hs2])
theorem run28 (q:Int) (hp:(ops.length≤100000∧ints.length≤100000∧strs.length≤100000∧rels.length≤100000)∧∀ r ∈ rels,r.str.size≤9223372036854775807∧r.mem.size≤9223372036854775807) :∃ r,wk r (.tup [.sl 4 gT ((liveEF (checkF ops ints strs rels) ops q).1.map eB),.int .i64 (liveEF (checkF ops ints strs rels) ops q).2])∧∀ A,acall (env 46 120267482103 D0 [(33,c33),(34,c34),(48,c48)] [] A) (H28) (20) f28 [(cd ops ints strs rels),.int .i64 q]=some r:=by
 have e33:=c33_eq ops ints strs rels hp
 have hlL:=workL_len ops
 cases hc:checkF ops ints strs rels
 ·rw[hc] at e33
  simp only[liveEF,errF,BL] at e33 ⊢
  have e34:=trivial
  have hq0:=trivial
  have hq1:=trivial
  have hqn:=trivial
  have hql:=trivial
  have hga:=trivial
  apply wkI
  ·intro A
   simp only[acall,macall,f28]
   simp only[go_sem,simprocAttr,e33,e34,hq0,hq1,hqn,hql,hga,hlL,H28_9]
   rfl
  ·(simp[WK,eOut,eCode] <;> first | rfl | exact⟨rfl,rfl⟩)
 ·have e34:=c34_eq ops ints strs rels ⟨hp,hc⟩
  rw[hc] at e33
  simp only[liveEF,errF,BL] at e33 ⊢
  cases hq0:decide (q < 0) <;> cases hq1:decide ((ops.length:Int)≤q)
  all_goals simp only[BL]
  rotate_left
  all_goals first
   | (have hqn:=trivial
      have hql:=trivial
      have hga:=trivial
      apply wkI
      ·intro A
       simp only[acall,macall,f28]
       simp only[go_sem,simprocAttr,e33,e34,hq0,hq1,hqn,hql,hga,hlL,H28_9]
       rfl
      ·(simp[WK,eOut,eCode] <;> first | rfl | exact⟨rfl,rfl⟩)
      done)
   | skip
  have hqn:0≤q:=by simpa using hq0
  have hql:q < (ops.length:Int):=by simpa using hq1
  have hga:=getD_get (d:=(0:Int)) (show q.toNat < (workL ops).length by omega)
  unfold liveAtF
  generalize (workL ops).getD q.toNat 0=a at *
  have hl9:=fun A=>loop28_9 a A 20 8 0
  simp only[f28,sub,Option.getD_some,H28_9] at hl9
  have hr2:(List.replicate 8 (.bool false):List AV)=(fillL (fun r=>hasF a r) false 8 0).map eB:=by rw[fill_zero];rfl
  have hc8:(8:Int)=8:=rfl
  have hrm1:((8:Int) * ((1:Nat):Int)≤140737488355328)=True:=by decide
  have he2:=fill_end (fun r=>hasF a r) false 8 8 (Nat.le_refl _)
  apply wkI
  ·intro A
   simp only[acall,macall,f28]
   simp only[go_sem,simprocAttr,e33,e34,hq0,hq1,hqn,hql,hga,hlL,H28_9,hr2,hrm1]
   rw[post_le (hl9 A _ (by first | trivial | omega) (by simp only[go_sem,simprocAttr,hr2,hc8])) (by omega)]
   rw[he2]
   simp only[go_sem,simprocAttr,e33,e34,hq0,hq1,hqn,hql,hga,hlL,H28_9]
   rfl
  ·(simp[WK,eOut,eCode] <;> first | rfl | exact⟨rfl,rfl⟩)
noncomputable def c28:=famP (α:=(List XOp) × (List Int) × (List ByteArray) × (List XRel) × Int) (fun (ops,ints,strs,rels,q)=>(ops.length≤100000∧ints.length≤100000∧strs.length≤100000∧rels.length≤100000)∧∀ r ∈ rels,r.str.size≤9223372036854775807∧r.mem.size≤9223372036854775807) (fun (ops,ints,strs,rels,q)=>[(cd ops ints strs rels),.int .i64 q]) (fun (ops,ints,strs,rels,q)=> .tup [.sl 4 gT ((liveEF (checkF ops ints strs rels) ops q).1.map eB),.int .i64 (liveEF (checkF ops ints strs rels) ops q).2])
theorem c28_eq (q:Int) (hp:(ops.length≤100000∧ints.length≤100000∧strs.length≤100000∧rels.length≤100000)∧∀ r ∈ rels,r.str.size≤9223372036854775807∧r.mem.size≤9223372036854775807):c28 [(cd ops ints strs rels),.int .i64 q]=some (.tup [.sl 4 gT ((liveEF (checkF ops ints strs rels) ops q).1.map eB),.int .i64 (liveEF (checkF ops ints strs rels) ops q).2]):=fam_eq (fun X Y hp hp' h'=>by
 obtain⟨ops,ints,strs,rels,q⟩:=X;obtain⟨ops',ints',strs',rels',q'⟩:=Y;simp only[INJ] at h'
 obtain⟨rfl,rfl,rfl,rfl,rfl⟩:=h'
 rfl) (ops,ints,strs,rels,q) hp
theorem snd28:Snd 28 c28:=fam_snd h28 rfl rfl fun (ops,ints,strs,rels,q) hp=>let ⟨_,hw,hr⟩:=run28 ops ints strs rels q hp;(rc h28 hr (fun _=>[]) rfl rfl rfl (by kernel_rfl) ⟨snd33,snd34,snd48,trivial⟩ trivial).weak hw
def stepF (ops:List XOp) (ints:List Int) (strs:List ByteArray) (rels:List XRel) (before:List (List XFact)) (reached:List Bool) (alive:List Int) (rule q:Int):Option XCode:=
 if (rule==1)=true then foldF ops ints strs rels before reached q else if (rule==2)=true then copiesF ops ints strs rels before reached q else if (rule==3)=true then deadF ops ints strs rels alive q
 else if (rule==4)=true then threadF ops ints strs rels q else if (rule==5)=true then reachF ops ints strs rels reached q else if (rule==6)=true then wrapRF ops ints strs rels before reached q
 else if (rule==7)=true then identF ops ints strs rels before reached q else if (rule==8)=true then poolF ops ints strs rels q else none
def placesF (ops:List XOp) (ints:List Int) (strs:List ByteArray) (rule:Int):Int:=if rule=8 then (ints.length+strs.length:Int) else ops.length
def checkC (c:XCode):Bool:=checkF c.ops c.ints c.strs c.rels
def applyF (ops:List XOp) (ints:List Int) (strs:List ByteArray) (rels:List XRel) (before:List (List XFact)) (reached:List Bool) (alive:List Int) (rule q:Int):Option XCode:=
 if (ruleFn rule).isSome=true then
  if (decide (q < 0))=true then none else if (decide (placesF ops ints strs rule≤q))=true then none
  else (stepF ops ints strs rels before reached alive rule q).bind fun c=>if checkC c=true then some c else none
 else none
structure Keeps (ops:List XOp) (ints:List Int) (strs:List ByteArray) (rels:List XRel) (c:XCode):Prop where
 o:c.ops.length≤ops.length
 i:c.ints.length≤ints.length+1
 s:c.strs.length≤strs.length
 r:c.rels.length≤rels.length
 n:∀ r ∈ c.rels,∃ r0 ∈ rels,r.str=r0.str∧r.mem=r0.mem
theorem Keeps.same {ops ops':List XOp} {ints ints':List Int} {strs strs':List ByteArray} {rels:List XRel} (h1:ops'.length≤ops.length) (h2:ints'.length≤ints.length+1) (h3:strs'.length≤strs.length):Keeps ops ints strs rels ⟨ops',ints',strs',rels⟩:=
 ⟨h1,h2,h3,Nat.le_refl _,fun r hr=>⟨r,hr,rfl,rfl⟩⟩
theorem keeps_removed (q:Int):Keeps ops ints strs rels (removedF ops ints strs rels q):=by
 refine⟨?_,Nat.le_succ _,Nat.le_refl _,?_,fun r hr=>?_⟩
 ·simp only[removedF,List.length_map];exact List.length_eraseIdx_le _ _
 ·simp only[removedF,List.length_map,fltF];exact List.length_filter_le _ _
 ·simp only[removedF,List.mem_map,fltF] at hr
  obtain⟨r0,h1,rfl⟩:=hr
  refine⟨r0,(List.mem_filter.1 h1).1,?_⟩
  unfold shRel
  split <;> exact⟨rfl,rfl⟩
theorem keeps_set {ops:List XOp} {ints:List Int} {strs:List ByteArray} {rels:List XRel} {k:Nat} {o:XOp} {c:XCode} (h:some (⟨ops.set k o,ints,strs,rels⟩:XCode)=some c):Keeps ops ints strs rels c:=by
 injection h with h;subst h;exact .same (by simp) (by simp) (Nat.le_refl _)
theorem keeps_rem {ops:List XOp} {ints:List Int} {strs:List ByteArray} {rels:List XRel} {q:Int} {c:XCode} (h:some (removedF ops ints strs rels q)=some c):Keeps ops ints strs rels c:=by
 injection h with h;subst h;exact keeps_removed ..
theorem keep_ite {c:Prop} [Decidable c] {a b:Option XCode} {x:XCode} {K:Prop} (ha:a=some x→K) (hb:b=some x→K):(if c then a else b)=some x→K:=by
 split
 ·exact ha
 ·exact hb
theorem step_keeps {ops:List XOp} {ints:List Int} {strs:List ByteArray} {rels:List XRel} {before:List (List XFact)} {reached:List Bool} {alive:List Int} {rule q:Int} {c:XCode} (h:stepF ops ints strs rels before reached alive rule q=some c):Keeps ops ints strs rels c:=by
 revert h
 unfold stepF
 refine keep_ite ?_ (keep_ite ?_ (keep_ite ?_ (keep_ite ?_ (keep_ite ?_ (keep_ite ?_ (keep_ite ?_ (keep_ite ?_ (fun h=>by cases h))))))))
 ·unfold foldF foldK;dsimp only
  repeat' refine keep_ite ?_ ?_
  all_goals intro h
  all_goals first | (cases h;done) | exact keeps_set h | (injection h with h;subst h;exact .same (by simp) (by simp) (Nat.le_refl _))
 ·unfold copiesF;dsimp only
  repeat' refine keep_ite ?_ ?_
  all_goals intro h
  all_goals first | (cases h;done) | exact keeps_set h
 ·unfold deadF;dsimp only
  repeat' refine keep_ite ?_ ?_
  all_goals intro h
  all_goals first | (cases h;done) | exact keeps_rem h
 ·unfold threadF;dsimp only
  repeat' refine keep_ite ?_ ?_
  all_goals intro h
  all_goals first | (cases h;done) | exact keeps_set h | exact keeps_rem h
 ·unfold reachF
  repeat' refine keep_ite ?_ ?_
  all_goals intro h
  all_goals first | (cases h;done) | exact keeps_rem h
 ·unfold wrapRF;dsimp only
  repeat' refine keep_ite ?_ ?_
  all_goals intro h
  all_goals first | (cases h;done) | exact keeps_set h
 ·unfold identF moveTo;dsimp only
  repeat' refine keep_ite ?_ ?_
  all_goals intro h
  all_goals first | (cases h;done) | exact keeps_set h | (injection h with h;subst h;exact .same (by simp) (by simp) (Nat.le_refl _))
 ·unfold poolF
  repeat' refine keep_ite ?_ ?_
  all_goals intro h
  all_goals first | (cases h;done) | (injection h with h;subst h;exact .same (by simp) (by first | (exact Nat.le_succ_of_le (List.length_eraseIdx_le _ _)) | simp) (by first | exact List.length_eraseIdx_le _ _ | exact Nat.le_refl _))
structure XA (ops:List XOp) (ints:List Int) (strs:List ByteArray) (rels:List XRel) (before:List (List XFact)) (reached:List Bool) (alive:List Int):Prop extends XW ops ints strs rels before reached alive where
 str:∀ r ∈ rels,r.str.size≤9223372036854775807∧r.mem.size≤9223372036854775807
theorem XA.pre33 {ops:List XOp} {ints:List Int} {strs:List ByteArray} {rels:List XRel} {before:List (List XFact)} {reached:List Bool} {alive:List Int} (h:XA ops ints strs rels before reached alive) {c:XCode} (hk:Keeps ops ints strs rels c) :
 (c.ops.length≤100000∧c.ints.length≤100000∧c.strs.length≤100000∧c.rels.length≤100000)∧∀ r ∈ c.rels,r.str.size≤9223372036854775807∧r.mem.size≤9223372036854775807:=by
 obtain⟨l1,l2,l3,l4⟩:=h.lim
 have:=h.i200
 refine⟨⟨by have:=hk.o;omega,by have:=hk.i;omega,by have:=hk.s;omega,by have:=hk.r;omega⟩,fun r hr=>?_⟩
 obtain⟨r0,h1,h2,h3⟩:=hk.n r hr
 rw[h2,h3];exact h.str r0 h1
theorem XW.pre {ops:List XOp} {ints:List Int} {strs:List ByteArray} {rels:List XRel} {before:List (List XFact)} {reached:List Bool} {alive:List Int} (h:XW ops ints strs rels before reached alive) {q:Int} (h0:0≤q) (hq:q.toNat < ops.length) :
 (ops.length≤100000∧ints.length≤100000∧strs.length≤100000∧rels.length≤100000)∧0≤q∧q.toNat < ops.length∧(∀ o ∈ ops,o.n < 9223372036854775808)∧(∀ r ∈ rels,r.at_ < 9223372036854775808):=
 ⟨h.lim,h0,hq,fun o ho=>by have:=h.opn o ho;unfold InR at this;omega,fun r hr=>by have:=h.rel r hr;have:=h.lim.1;omega⟩
theorem XW.dpos {ops:List XOp} {ints:List Int} {strs:List ByteArray} {rels:List XRel} {before:List (List XFact)} {reached:List Bool} {alive:List Int} (h:XW ops ints strs rels before reached alive):∀ o ∈ ops,0≤o.d:=fun o ho=>by
 obtain⟨i,hi,e⟩:=List.getElem_of_mem ho
 have:=(h.op i hi).2.2.1
 rw[List.getD_eq_getElem?_getD,List.getElem?_eq_getElem hi,e] at this
 exact this
theorem h35:Tryz.prog.funcs[35]? = some f35:=by kernel_rfl
theorem run35 (before:List (List XFact)) (reached:List Bool) (alive:List Int) (rule q:Int) (hp:XA ops ints strs rels before reached alive) :∃ r,wk r (eOut (applyF ops ints strs rels before reached alive rule q))∧∀ A,acall (env 50 140739635839483 D0 [(62,c62),(63,c63),(33,c33),(89,c89),(90,c90),(91,c91),(92,c92),(93,c93),(94,c94),(95,c95),(96,c96)] [] A) (fun _=>{ tm:=[],ob:=[] }) (5) f35 [.ro false 106 (.st 106 [(cd ops ints strs rels),.sl 119 gT (before.map eFacts),.sl 4 gT (reached.map eB),.sl 109 gT (alive.map eU)]),.st 29 [.int .i64 rule,.int .i64 q]]=some r:=by
 have hw:=hp.toXW
 have e63:=c63_eq ops ints strs rels before reached alive rule ⟨hw.lim.2.1,hw.lim.2.2.1⟩
 unfold applyF
 cases hrf:ruleFn rule
 ·simp only[Option.isSome_some,Option.isSome_none,Option.bind_some,Option.bind_none,BL]
  apply wkI
  ·intro A
   simp only[acall,macall,f35]
   simp only[go_sem,simprocAttr,hrf,c62_eq,lkp124,e63,Option.isSome_some,Option.isSome_none]
   rfl
  ·simp[WK,eOut,eCode]
 rename_i fn
 simp only[Option.isSome_some,Option.isSome_none,Option.bind_some,Option.bind_none,BL]
 have hpl:placesF ops ints strs rule=if rule=8 then (ints.length+strs.length:Int) else ops.length:=rfl
 rw[← hpl] at e63
 cases hq0:decide (q < 0)
 rotate_left
 ·simp only[Option.isSome_some,Option.isSome_none,Option.bind_some,Option.bind_none,BL]
  apply wkI
  ·intro A
   simp only[acall,macall,f35]
   simp only[go_sem,simprocAttr,hrf,hq0,c62_eq,lkp124,e63,Option.isSome_some,Option.isSome_none]
   rfl
  ·simp[WK,eOut,eCode]
 cases hq1:decide (placesF ops ints strs rule≤q)
 rotate_left
 ·simp only[Option.isSome_some,Option.isSome_none,Option.bind_some,Option.bind_none,BL]
  apply wkI
  ·intro A
   simp only[acall,macall,f35]
   simp only[go_sem,simprocAttr,hrf,hq0,hq1,c62_eq,lkp124,e63,Option.isSome_some,Option.isSome_none]
   rfl
  ·simp[WK,eOut,eCode]
 simp only[Option.isSome_some,Option.isSome_none,Option.bind_some,Option.bind_none,BL]
 have h0:0≤q:=by simpa using hq0
 have hq2:q < placesF ops ints strs rule:=by simpa using hq1
 have hsk:=fun c=>step_keeps (ops:=ops) (ints:=ints) (strs:=strs) (rels:=rels) (before:=before) (reached:=reached) (alive:=alive) (rule:=rule) (q:=q) (c:=c)
 have e33:=fun (c:XCode) (h:Keeps ops ints strs rels c)=>c33_eq c.ops c.ints c.strs c.rels (hp.pre33 h)
 have hrc:(rule=1∧fn=89)∨(rule=2∧fn=90)∨(rule=3∧fn=91)∨(rule=4∧fn=92)∨(rule=5∧fn=93)∨(rule=6∧fn=94)∨(rule=7∧fn=95)∨(rule=8∧fn=96):=by
  unfold ruleFn at hrf
  repeat' split at hrf
  all_goals first | (cases hrf;done) | (injection hrf with hrf;subst hrf;rename_i h;simp only[beq_iff_eq] at h;subst h;simp)
 rcases hrc with ⟨rfl,rfl⟩ | ⟨rfl,rfl⟩ | ⟨rfl,rfl⟩ | ⟨rfl,rfl⟩ | ⟨rfl,rfl⟩ | ⟨rfl,rfl⟩ | ⟨rfl,rfl⟩ | ⟨rfl,rfl⟩
 ·skip
  have hlt:q.toNat < ops.length:=by simp[placesF] at hq2;omega
  have hst:stepF ops ints strs rels before reached alive 1 q=foldF ops ints strs rels before reached q:=rfl
  rw[hst] at hsk ⊢
  have ef:=c89_eq ops ints strs rels before reached alive q ⟨hw,h0,hlt⟩
  generalize foldF ops ints strs rels before reached q=st at *
  cases st
  ·simp only[eOut,eCode] at ef
   simp only[Option.isSome_some,Option.isSome_none,Option.bind_some,Option.bind_none,BL]
   apply wkI
   ·intro A
    simp only[acall,macall,f35]
    simp only[go_sem,simprocAttr,hrf,hq0,hq1,ef,c62_eq,lkp124,e63,Option.isSome_some,Option.isSome_none]
    rfl
   ·simp[WK,eOut,eCode]
  ·rename_i c
   have ec:=e33 c (hsk c rfl)
   simp only[eOut,eCode] at ef
   simp only[Option.bind_some]
   have hcc:checkC c=checkF c.ops c.ints c.strs c.rels:=rfl
   rw[← hcc] at ec
   generalize checkC c=ck at *
   cases ck
   ·simp only[errF,BL] at ec ⊢
    apply wkI
    ·intro A
     simp only[acall,macall,f35]
     simp only[go_sem,simprocAttr,hrf,hq0,hq1,ef,ec,c62_eq,lkp124,e63,Option.isSome_some,Option.isSome_none]
     rfl
    ·simp[WK,eOut,eCode]
   ·simp only[errF,BL] at ec ⊢
    apply wkI
    ·intro A
     simp only[acall,macall,f35]
     simp only[go_sem,simprocAttr,hrf,hq0,hq1,ef,ec,c62_eq,lkp124,e63,Option.isSome_some,Option.isSome_none]
     rfl
    ·simp[WK,eOut,eCode]
 ·skip
  have hlt:q.toNat < ops.length:=by simp[placesF] at hq2;omega
  have hst:stepF ops ints strs rels before reached alive 2 q=copiesF ops ints strs rels before reached q:=rfl
  rw[hst] at hsk ⊢
  have ef:=c90_eq ops ints strs rels before reached alive q ⟨hw,h0,hlt⟩
  generalize copiesF ops ints strs rels before reached q=st at *
  cases st
  ·simp only[eOut,eCode] at ef
   simp only[Option.isSome_some,Option.isSome_none,Option.bind_some,Option.bind_none,BL]
   apply wkI
   ·intro A
    simp only[acall,macall,f35]
    simp only[go_sem,simprocAttr,hrf,hq0,hq1,ef,c62_eq,lkp124,e63,Option.isSome_some,Option.isSome_none]
    rfl
   ·simp[WK,eOut,eCode]
  ·rename_i c
   have ec:=e33 c (hsk c rfl)
   simp only[eOut,eCode] at ef
   simp only[Option.bind_some]
   have hcc:checkC c=checkF c.ops c.ints c.strs c.rels:=rfl
   rw[← hcc] at ec
   generalize checkC c=ck at *
   cases ck
   ·simp only[errF,BL] at ec ⊢
    apply wkI
    ·intro A
     simp only[acall,macall,f35]
     simp only[go_sem,simprocAttr,hrf,hq0,hq1,ef,ec,c62_eq,lkp124,e63,Option.isSome_some,Option.isSome_none]
     rfl
    ·simp[WK,eOut,eCode]
   ·simp only[errF,BL] at ec ⊢
    apply wkI
    ·intro A
     simp only[acall,macall,f35]
     simp only[go_sem,simprocAttr,hrf,hq0,hq1,ef,ec,c62_eq,lkp124,e63,Option.isSome_some,Option.isSome_none]
     rfl
    ·simp[WK,eOut,eCode]
 ·skip
  have hlt:q.toNat < ops.length:=by simp[placesF] at hq2;omega
  have hst:stepF ops ints strs rels before reached alive 3 q=deadF ops ints strs rels alive q:=rfl
  rw[hst] at hsk ⊢
  have ef:=c91_eq ops ints strs rels before reached alive q ⟨hw.pre h0 hlt,hw.al,hw.dpos⟩
  generalize deadF ops ints strs rels alive q=st at *
  cases st
  ·simp only[eOut,eCode] at ef
   simp only[Option.isSome_some,Option.isSome_none,Option.bind_some,Option.bind_none,BL]
   apply wkI
   ·intro A
    simp only[acall,macall,f35]
    simp only[go_sem,simprocAttr,hrf,hq0,hq1,ef,c62_eq,lkp124,e63,Option.isSome_some,Option.isSome_none]
    rfl
   ·simp[WK,eOut,eCode]
  ·rename_i c
   have ec:=e33 c (hsk c rfl)
   simp only[eOut,eCode] at ef
   simp only[Option.bind_some]
   have hcc:checkC c=checkF c.ops c.ints c.strs c.rels:=rfl
   rw[← hcc] at ec
   generalize checkC c=ck at *
   cases ck
   ·simp only[errF,BL] at ec ⊢
    apply wkI
    ·intro A
     simp only[acall,macall,f35]
     simp only[go_sem,simprocAttr,hrf,hq0,hq1,ef,ec,c62_eq,lkp124,e63,Option.isSome_some,Option.isSome_none]
     rfl
    ·simp[WK,eOut,eCode]
   ·simp only[errF,BL] at ec ⊢
    apply wkI
    ·intro A
     simp only[acall,macall,f35]
     simp only[go_sem,simprocAttr,hrf,hq0,hq1,ef,ec,c62_eq,lkp124,e63,Option.isSome_some,Option.isSome_none]
     rfl
    ·simp[WK,eOut,eCode]
 ·skip
  have hlt:q.toNat < ops.length:=by simp[placesF] at hq2;omega
  have hst:stepF ops ints strs rels before reached alive 4 q=threadF ops ints strs rels q:=rfl
  rw[hst] at hsk ⊢
  have ef:=c92_eq ops ints strs rels before reached alive q ⟨hw.pre h0 hlt,hw.jmp⟩
  generalize threadF ops ints strs rels q=st at *
  cases st
  ·simp only[eOut,eCode] at ef
   simp only[Option.isSome_some,Option.isSome_none,Option.bind_some,Option.bind_none,BL]
   apply wkI
   ·intro A
    simp only[acall,macall,f35]
    simp only[go_sem,simprocAttr,hrf,hq0,hq1,ef,c62_eq,lkp124,e63,Option.isSome_some,Option.isSome_none]
    rfl
   ·simp[WK,eOut,eCode]
  ·rename_i c
   have ec:=e33 c (hsk c rfl)
   simp only[eOut,eCode] at ef
   simp only[Option.bind_some]
   have hcc:checkC c=checkF c.ops c.ints c.strs c.rels:=rfl
   rw[← hcc] at ec
   generalize checkC c=ck at *
   cases ck
   ·simp only[errF,BL] at ec ⊢
    apply wkI
    ·intro A
     simp only[acall,macall,f35]
     simp only[go_sem,simprocAttr,hrf,hq0,hq1,ef,ec,c62_eq,lkp124,e63,Option.isSome_some,Option.isSome_none]
     rfl
    ·simp[WK,eOut,eCode]
   ·simp only[errF,BL] at ec ⊢
    apply wkI
    ·intro A
     simp only[acall,macall,f35]
     simp only[go_sem,simprocAttr,hrf,hq0,hq1,ef,ec,c62_eq,lkp124,e63,Option.isSome_some,Option.isSome_none]
     rfl
    ·simp[WK,eOut,eCode]
 ·skip
  have hlt:q.toNat < ops.length:=by simp[placesF] at hq2;omega
  have hst:stepF ops ints strs rels before reached alive 5 q=reachF ops ints strs rels reached q:=rfl
  rw[hst] at hsk ⊢
  have ef:=c93_eq ops ints strs rels before reached alive q ⟨hw.pre h0 hlt,by have:=hw.rl;omega⟩
  generalize reachF ops ints strs rels reached q=st at *
  cases st
  ·simp only[eOut,eCode] at ef
   simp only[Option.isSome_some,Option.isSome_none,Option.bind_some,Option.bind_none,BL]
   apply wkI
   ·intro A
    simp only[acall,macall,f35]
    simp only[go_sem,simprocAttr,hrf,hq0,hq1,ef,c62_eq,lkp124,e63,Option.isSome_some,Option.isSome_none]
    rfl
   ·simp[WK,eOut,eCode]
  ·rename_i c
   have ec:=e33 c (hsk c rfl)
   simp only[eOut,eCode] at ef
   simp only[Option.bind_some]
   have hcc:checkC c=checkF c.ops c.ints c.strs c.rels:=rfl
   rw[← hcc] at ec
   generalize checkC c=ck at *
   cases ck
   ·simp only[errF,BL] at ec ⊢
    apply wkI
    ·intro A
     simp only[acall,macall,f35]
     simp only[go_sem,simprocAttr,hrf,hq0,hq1,ef,ec,c62_eq,lkp124,e63,Option.isSome_some,Option.isSome_none]
     rfl
    ·simp[WK,eOut,eCode]
   ·simp only[errF,BL] at ec ⊢
    apply wkI
    ·intro A
     simp only[acall,macall,f35]
     simp only[go_sem,simprocAttr,hrf,hq0,hq1,ef,ec,c62_eq,lkp124,e63,Option.isSome_some,Option.isSome_none]
     rfl
    ·simp[WK,eOut,eCode]
 ·skip
  have hlt:q.toNat < ops.length:=by simp[placesF] at hq2;omega
  have hst:stepF ops ints strs rels before reached alive 6 q=wrapRF ops ints strs rels before reached q:=rfl
  rw[hst] at hsk ⊢
  have ef:=c94_eq ops ints strs rels before reached alive q ⟨hw,h0,hlt⟩
  generalize wrapRF ops ints strs rels before reached q=st at *
  cases st
  ·simp only[eOut,eCode] at ef
   simp only[Option.isSome_some,Option.isSome_none,Option.bind_some,Option.bind_none,BL]
   apply wkI
   ·intro A
    simp only[acall,macall,f35]
    simp only[go_sem,simprocAttr,hrf,hq0,hq1,ef,c62_eq,lkp124,e63,Option.isSome_some,Option.isSome_none]
    rfl
   ·simp[WK,eOut,eCode]
  ·rename_i c
   have ec:=e33 c (hsk c rfl)
   simp only[eOut,eCode] at ef
   simp only[Option.bind_some]
   have hcc:checkC c=checkF c.ops c.ints c.strs c.rels:=rfl
   rw[← hcc] at ec
   generalize checkC c=ck at *
   cases ck
   ·simp only[errF,BL] at ec ⊢
    apply wkI
    ·intro A
     simp only[acall,macall,f35]
     simp only[go_sem,simprocAttr,hrf,hq0,hq1,ef,ec,c62_eq,lkp124,e63,Option.isSome_some,Option.isSome_none]
     rfl
    ·simp[WK,eOut,eCode]
   ·simp only[errF,BL] at ec ⊢
    apply wkI
    ·intro A
     simp only[acall,macall,f35]
     simp only[go_sem,simprocAttr,hrf,hq0,hq1,ef,ec,c62_eq,lkp124,e63,Option.isSome_some,Option.isSome_none]
     rfl
    ·simp[WK,eOut,eCode]
 ·skip
  have hlt:q.toNat < ops.length:=by simp[placesF] at hq2;omega
  have hst:stepF ops ints strs rels before reached alive 7 q=identF ops ints strs rels before reached q:=rfl
  rw[hst] at hsk ⊢
  have ef:=c95_eq ops ints strs rels before reached alive q ⟨hw,h0,hlt⟩
  generalize identF ops ints strs rels before reached q=st at *
  cases st
  ·simp only[eOut,eCode] at ef
   simp only[Option.isSome_some,Option.isSome_none,Option.bind_some,Option.bind_none,BL]
   apply wkI
   ·intro A
    simp only[acall,macall,f35]
    simp only[go_sem,simprocAttr,hrf,hq0,hq1,ef,c62_eq,lkp124,e63,Option.isSome_some,Option.isSome_none]
    rfl
   ·simp[WK,eOut,eCode]
  ·rename_i c
   have ec:=e33 c (hsk c rfl)
   simp only[eOut,eCode] at ef
   simp only[Option.bind_some]
   have hcc:checkC c=checkF c.ops c.ints c.strs c.rels:=rfl
   rw[← hcc] at ec
   generalize checkC c=ck at *
   cases ck
   ·simp only[errF,BL] at ec ⊢
    apply wkI
    ·intro A
     simp only[acall,macall,f35]
     simp only[go_sem,simprocAttr,hrf,hq0,hq1,ef,ec,c62_eq,lkp124,e63,Option.isSome_some,Option.isSome_none]
     rfl
    ·simp[WK,eOut,eCode]
   ·simp only[errF,BL] at ec ⊢
    apply wkI
    ·intro A
     simp only[acall,macall,f35]
     simp only[go_sem,simprocAttr,hrf,hq0,hq1,ef,ec,c62_eq,lkp124,e63,Option.isSome_some,Option.isSome_none]
     rfl
    ·simp[WK,eOut,eCode]
 ·skip
  have hlt:q.toNat < ints.length+strs.length:=by simp[placesF] at hq2;omega
  have hst:stepF ops ints strs rels before reached alive 8 q=poolF ops ints strs rels q:=rfl
  rw[hst] at hsk ⊢
  have ef:=c96_eq ops ints strs rels before reached alive q ⟨hw,h0,hlt⟩
  generalize poolF ops ints strs rels q=st at *
  cases st
  ·simp only[eOut,eCode] at ef
   simp only[Option.isSome_some,Option.isSome_none,Option.bind_some,Option.bind_none,BL]
   apply wkI
   ·intro A
    simp only[acall,macall,f35]
    simp only[go_sem,simprocAttr,hrf,hq0,hq1,ef,c62_eq,lkp124,e63,Option.isSome_some,Option.isSome_none]
    rfl
   ·simp[WK,eOut,eCode]
  ·rename_i c
   have ec:=e33 c (hsk c rfl)
   simp only[eOut,eCode] at ef
   simp only[Option.bind_some]
   have hcc:checkC c=checkF c.ops c.ints c.strs c.rels:=rfl
   rw[← hcc] at ec
   generalize checkC c=ck at *
   cases ck
   ·simp only[errF,BL] at ec ⊢
    apply wkI
    ·intro A
     simp only[acall,macall,f35]
     simp only[go_sem,simprocAttr,hrf,hq0,hq1,ef,ec,c62_eq,lkp124,e63,Option.isSome_some,Option.isSome_none]
     rfl
    ·simp[WK,eOut,eCode]
   ·simp only[errF,BL] at ec ⊢
    apply wkI
    ·intro A
     simp only[acall,macall,f35]
     simp only[go_sem,simprocAttr,hrf,hq0,hq1,ef,ec,c62_eq,lkp124,e63,Option.isSome_some,Option.isSome_none]
     rfl
    ·simp[WK,eOut,eCode]
noncomputable def c35:=famP (α:=(List XOp) × (List Int) × (List ByteArray) × (List XRel) × (List (List XFact)) × (List Bool) × (List Int) × Int × Int) (fun (ops,ints,strs,rels,before,reached,alive,rule,q)=>XA ops ints strs rels before reached alive) (fun (ops,ints,strs,rels,before,reached,alive,rule,q)=>[.ro false 106 (.st 106 [(cd ops ints strs rels),.sl 119 gT (before.map eFacts),.sl 4 gT (reached.map eB),.sl 109 gT (alive.map eU)]),.st 29 [.int .i64 rule,.int .i64 q]]) (fun (ops,ints,strs,rels,before,reached,alive,rule,q)=>eOut (applyF ops ints strs rels before reached alive rule q))
theorem c35_eq (before:List (List XFact)) (reached:List Bool) (alive:List Int) (rule q:Int) (hp:XA ops ints strs rels before reached alive):c35 [.ro false 106 (.st 106 [(cd ops ints strs rels),.sl 119 gT (before.map eFacts),.sl 4 gT (reached.map eB),.sl 109 gT (alive.map eU)]),.st 29 [.int .i64 rule,.int .i64 q]]=some (eOut (applyF ops ints strs rels before reached alive rule q)):=fam_eq (fun X Y hp hp' h'=>by
 obtain⟨ops,ints,strs,rels,before,reached,alive,rule,q⟩:=X;obtain⟨ops',ints',strs',rels',before',reached',alive',rule',q'⟩:=Y;simp only[INJ] at h'
 obtain⟨rfl,rfl,rfl,rfl,rfl,rfl,rfl,rfl,rfl⟩:=h'
 rfl) (ops,ints,strs,rels,before,reached,alive,rule,q) hp
theorem snd35:Snd 35 c35:=fam_snd h35 rfl rfl fun (ops,ints,strs,rels,before,reached,alive,rule,q) hp=>let ⟨_,hw,hr⟩:=run35 ops ints strs rels before reached alive rule q hp;(rc h35 hr (fun i=>match i with | 1=>[0,0,2,7,15,31,31,63,255] | 2=>[0,1,3,7,15,31,63,127,255,511,255,255,2303,7423,16383,32767] | _=>[]) rfl rfl rfl (by kernel_rfl) ⟨snd62,snd63,snd33,snd89,snd90,snd91,snd92,snd93,snd94,snd95,snd96,trivial⟩ trivial).weak hw
end Go.Proofs.Tryz
end
section
namespace Go.Proofs.Tryz
open Go Go.Abs
theorem inr_wrap (x:Int):InR (IntKind.i64.wrap x):=by
 have e:IntKind.i64.wrap x=if (IntKind.i64.signed&&decide (x % (2 ^ 64:Int) ≥ (2 ^ 63:Int)))=true then x % (2 ^ 64:Int) - (2 ^ 64:Int) else x % (2 ^ 64:Int):=rfl
 have hs:IntKind.i64.signed=true:=rfl
 rw[e]
 simp only[hs,Bool.true_and,decide_eq_true_eq,ge_iff_le]
 unfold InR
 split <;> omega
theorem inr_bits (op:BinOp) (x y:Int):InR (bits2 op .i64 x y):=inr_wrap _
theorem inr_shl (x y:Int):InR (shl2 .i64 x y):=inr_wrap _
theorem inr_tmod {a:Int} (h:InR a) (b:Int):InR (a.tmod b):=by
 unfold InR at *
 have h1:=Int.natAbs_tmod a b
 have h2:=Nat.mod_le a.natAbs b.natAbs
 rcases Int.le_total 0 a with ha | ha
 ·have:=Int.tmod_nonneg b ha;omega
 ·have h3:(-a).tmod b = -(a.tmod b):=Int.neg_tmod a b
  have h4:=Int.tmod_nonneg b (show 0≤ -a by omega)
  omega
theorem inr_shr {a:Int} (h:InR a) (y:Int):InR (shr2 .i64 a y):=by
 unfold InR shr2 at *
 have hp:(0:Int) < 2 ^ (min y.toNat IntKind.i64.bits):=Int.pow_pos (by decide)
 generalize (2:Int) ^ (min y.toNat IntKind.i64.bits)=d at *
 rw[Int.fdiv_eq_ediv_of_nonneg _ (Int.le_of_lt hp)]
 constructor
 ·refine (Int.le_ediv_iff_mul_le hp).2 ?_
  omega
 ·refine Int.ediv_le_of_le_mul hp ?_
  omega
theorem inr_wrapK {f:FuncId} {v:Int} (h:InR v):InR (wrapK f v):=by
 unfold wrapK
 repeat' split
 all_goals first | exact inr_wrap _ | exact h | (unfold InR;omega)
theorem inr_alu {o a b:Int} (ha:InR a):InR (aluF o a b).1:=by
 have h0:InR 0:=by unfold InR;omega
 have h1:InR 1:=by unfold InR;omega
 have hi:∀ (c:Prop) [Decidable c] (x y:Int),InR x→InR y→InR (if c then x else y):=fun c _ x y hx hy=>by split <;> assumption
 have hd:InR (divF o a b):=hi _ _ _ (inr_wrap _) (hi _ _ _ (inr_wrap _) (hi _ _ _ (inr_wrap _) (inr_tmod ha b)))
 have hk:∀ (c:Prop) [Decidable c] (x y:Int × Int),InR x.1→InR y.1→InR (if c then x else y).1:=fun c _ x y hx hy=>by split <;> assumption
 unfold aluF
 refine hk _ _ _ (inr_wrap _) (hk _ _ _ (inr_wrap _) (hk _ _ _ (inr_wrap _) ?_))
 refine hk _ _ _ (hk _ _ _ h0 hd) (hk _ _ _ (hk _ _ _ h0 hd) (hk _ _ _ (hk _ _ _ h0 hd) (hk _ _ _ (hk _ _ _ h0 hd) ?_)))
 refine hk _ _ _ (inr_bits .and a b) (hk _ _ _ (inr_bits .or a b) (hk _ _ _ (inr_bits .xor a b) ?_))
 refine hk _ _ _ (inr_shl a _) (hk _ _ _ (inr_wrap _) (hk _ _ _ (inr_shr ha _) ?_))
 refine hk _ _ _ (inr_wrap _) (hk _ _ _ (inr_bits .xor (-1) a) (hk _ _ _ ?_ ?_))
 ·split
  ·exact h0
  ·exact hi _ _ _ (inr_wrapK ha) h0
 exact hk _ _ _ (hi _ _ _ h1 h0) (hk _ _ _ (hi _ _ _ h1 h0) (hk _ _ _ (hi _ _ _ h1 h0) h0))
structure XIn (ops:List XOp) (ints:List Int) (strs:List ByteArray) (rels:List XRel):Prop where
 lim:ops.length≤100000∧ints.length≤100000∧strs.length≤100000∧rels.length≤100000
 str:∀ r ∈ rels,r.str.size≤9223372036854775807∧r.mem.size≤9223372036854775807
 opn:∀ o ∈ ops,InR o.n
 int:∀ x ∈ ints,InR x
theorem XIn.getI {ops:List XOp} {ints:List Int} {strs:List ByteArray} {rels:List XRel} (h:XIn ops ints strs rels) (i:Nat):InR (ints.getD i 0):=by
 rcases Nat.lt_or_ge i ints.length with hi | hi
 ·exact h.int _ (getD_memG hi)
 ·rw[List.getD_eq_getElem?_getD,List.getElem?_eq_none hi];unfold InR;simp
theorem XIn.getO {ops:List XOp} {ints:List Int} {strs:List ByteArray} {rels:List XRel} (h:XIn ops ints strs rels) (i:Nat):InR (ops.getD i op0).n:=by
 rcases Nat.lt_or_ge i ops.length with hi | hi
 ·exact h.opn _ (getD_memG hi)
 ·rw[List.getD_eq_getElem?_getD,List.getElem?_eq_none hi];unfold InR;simp[op0]
def FR (f:List XFact):Prop:=∀ x ∈ f,InR x.n
theorem FR.set {f:List XFact} (h:FR f) {i:Nat} {s n:Int} (hn:InR n):FR (f.set i ⟨s,n⟩):=fun x hx=>by
 rcases List.mem_or_eq_of_mem_set hx with h1 | h1
 ·exact h x h1
 ·subst h1;exact hn
theorem inr0:InR 0:=by unfold InR;omega
theorem FR.getD {f:List XFact} (h:FR f) (i:Nat):InR (f.getD i ⟨0,0⟩).n:=by
 rcases Nat.lt_or_ge i f.length with hi | hi
 ·exact h _ (getD_memF hi)
 ·rw[List.getD_eq_getElem?_getD,List.getElem?_eq_none hi];exact inr0
theorem behind_FR {ops:List XOp} {ints:List Int} {strs:List ByteArray} {rels:List XRel} (hin:XIn ops ints strs rels) {f:List XFact} (h:FR f) {q:Int} (hq:0≤(ops.getD q.toNat op0).a∧(ops.getD q.toNat op0).a.toNat < 8):FR (behindF ops ints rels f q):=by
 have hon:=hin.getO q.toNat
 have hc:FR ((f.map (clrF (ops.getD q.toNat op0).d)).set (ops.getD q.toNat op0).d.toNat ⟨0,0⟩):=by
  refine FR.set (fun x hx=>?_) inr0
  obtain⟨y,h1,rfl⟩:=List.mem_map.1 hx
  unfold clrF
  split
  ·exact inr0
  ·exact h y h1
 unfold behindF
 dsimp only
 generalize ops.getD q.toNat op0=o at *
 have hm:InR (movedF (f.getD o.a.toNat ⟨0,0⟩).sort (f.getD o.a.toNat ⟨0,0⟩).n o.d o.a).2:=by
  have hg:=h.getD o.a.toNat
  unfold movedF
  repeat' split
  all_goals first | exact hg | exact inr0 | (unfold InR;dsimp only;omega)
 have h8:InR 8:=by unfold InR;omega
 have h8':InR (-8):=by unfold InR;omega
 repeat' split
 all_goals first | exact h | exact hc | exact hc.set hon | exact hc.set h8 | exact hc.set h8' | exact hc.set hm | exact hc.set (hin.getI _)
theorem join_FR {a b:List XFact} (h:FR a):FR (joinF a b):=by
 intro x hx
 unfold joinF at hx
 obtain⟨i,hi,rfl⟩:=List.getElem_of_mem hx
 rw[List.getElem_zipWith]
 unfold join1
 split
 ·exact inr0
 ·exact h _ (List.getElem_mem _)
def SR (s:List (List XFact) × List Bool):Prop:=∀ f ∈ s.1,FR f
theorem SR.getD {s:List (List XFact) × List Bool} (h:SR s) (i:Nat):FR (s.1.getD i []):=by
 rcases Nat.lt_or_ge i s.1.length with hi | hi
 ·exact h _ (getD_memG hi)
 ·rw[List.getD_eq_getElem?_getD,List.getElem?_eq_none hi];intro x hx;simp at hx
theorem SR.set {s:List (List XFact) × List Bool} (h:SR s) {i:Nat} {f:List XFact} (hf:FR f) (r:List Bool):SR (s.1.set i f,r):=fun g hg=>by
 rcases List.mem_or_eq_of_mem_set hg with h1 | h1
 ·exact h g h1
 ·subst h1;exact hf
theorem fold_SR {out:List XFact} (ho:FR out):∀ (l:List Int) (s:List (List XFact) × List Bool),SR s→SR (l.foldl (step1 out) s)
 | [],s,h=>h
 | k::l,s,h=>by
   rw[List.foldl_cons]
   refine fold_SR ho l _ ?_
   unfold step1
   split
   ·exact h.set (join_FR (h.getD _)) _
   ·exact h.set ho _
theorem flow_SR {ops:List XOp} {ints:List Int} {strs:List ByteArray} {rels:List XRel} (hin:XIn ops ints strs rels) (hop:∀ i,i < ops.length→0≤(ops.getD i op0).a∧(ops.getD i op0).a.toNat < 8):∀ (m i:Nat) (s:List (List XFact) × List Bool),i+m≤ops.length→SR s→SR (flowFrom ops ints rels m i s)
 | 0,_,s,_,h=>h
 | m+1,i,s,hi,h=>by
   rw[flowFrom]
   refine flow_SR hin hop m (i+1) _ (by omega) ?_
   unfold stepAt
   split
   ·exact fold_SR (behind_FR hin (h.getD _) (by rw[Int.toNat_natCast];exact hop i (by omega))) _ _ h
   ·exact h
theorem start_SR (n:Nat):SR (start0 n):=fun f hf=>by
 simp only[start0,List.mem_replicate] at hf
 rw[hf.2]
 intro x hx
 rw[(List.mem_replicate.1 hx).2]
 exact inr0
theorem check_i200 {ops:List XOp} {ints:List Int} {strs:List ByteArray} {rels:List XRel} (h:checkF ops ints strs rels=true):ints.length≤200∧strs.length≤200∧rels.length≤500:=by
 unfold checkF at h
 split at h
 ·split at h
  ·cases h
  ·rename_i h2
   split at h
   ·cases h
   ·rename_i h3
    split at h
    ·cases h
    ·rename_i h4
     simp only[decide_eq_true_eq] at h2 h3 h4
     omega
 ·cases h
theorem work_xa {ops:List XOp} {ints:List Int} {strs:List ByteArray} {rels:List XRel} (hin:XIn ops ints strs rels) (hc:checkF ops ints strs rels=true) :
 XA ops ints strs rels (workS ops ints rels).1 (workS ops ints rels).2 (workL ops):=by
 have hg:=check_good hc
 have hsh:=shape_work (ints:=ints) (rels:=rels) hg
 have hi:=check_i200 hc
 have hok:∀ i,i < ops.length→OpOk ops.length ints.length strs.length (i:Int) (ops.getD i op0):=fun i h=>by
  have:=right_ok (hg.right i h)
  rwa [Int.toNat_natCast] at this
 have hsr:SR (workS ops ints rels):=flow_SR hin (fun i h=>(hok i h).a) _ _ _ (by omega) (start_SR _)
 exact {
  lim:=hin.lim,i200:=hi.1,bl:=hsh.1,rl:=hsh.2.1,al:=workL_len ops
  b8:=fun i h=>hsh.get h
  op:=fun i h=>⟨(hok i h).a,(hok i h).b,(hok i h).d⟩
  opn:=hin.opn
  fn:=fun i h=>hsr.getD i
  rel:=fun r hr=>by
   obtain⟨i,hi,e⟩:=List.getElem_of_mem hr
   have h1:=hg.rel i hi
   unfold relOkF at h1
   dsimp only at h1
   rw[Int.toNat_natCast,List.getD_eq_getElem?_getD,List.getElem?_eq_getElem hi,e] at h1
   simp only[Option.getD_some] at h1
   split at h1
   ·cases h1
   ·rename_i h2
    simp only[Bool.or_eq_true,Bool.not_eq_true',Bool.and_eq_false_iff,decide_eq_false_iff_not,not_or] at h2
    have:=hg.pos
    omega
  jmp:=fun o ho hj=>by
   obtain⟨i,hi,e⟩:=List.getElem_of_mem ho
   have h1:=hok i hi
   rw[List.getD_eq_getElem?_getD,List.getElem?_eq_getElem hi,e] at h1
   simp only[Option.getD_some] at h1
   have:=fits_jump h1.fit (by simpa using hj)
   omega
  str:=hin.str }
structure Rng (c:XCode):Prop where
 o:∀ o ∈ c.ops,InR o.n
 i:∀ x ∈ c.ints,InR x
section
variable {ops:List XOp} {ints:List Int} {strs:List ByteArray} {rels:List XRel} {before:List (List XFact)} {reached:List Bool} {alive:List Int} {q:Int} {c:XCode}
theorem rng_set (hin:XIn ops ints strs rels) {k:Nat} {o:XOp} (ho:InR o.n) (h:some (⟨ops.set k o,ints,strs,rels⟩:XCode)=some c):Rng c:=by
 injection h with h;subst h
 refine⟨fun x hx=>?_,hin.int⟩
 rcases List.mem_or_eq_of_mem_set hx with h1 | h1
 ·exact hin.opn x h1
 ·subst h1;exact ho
theorem rng_rem (hin:XIn ops ints strs rels) (hq:0≤q) (h:some (removedF ops ints strs rels q)=some c):Rng c:=by
 injection h with h;subst h
 refine⟨fun x hx=>?_,hin.int⟩
 simp only[removedF,List.mem_map] at hx
 obtain⟨y,h1,rfl⟩:=hx
 have hy:=hin.opn y (List.mem_of_mem_eraseIdx h1)
 unfold shOp
 split
 ·rename_i h2
  simp only[Bool.and_eq_true,decide_eq_true_eq] at h2
  unfold InR at *
  dsimp only
  omega
 ·exact hy
theorem rng_put (hin:XIn ops ints strs rels) {d n:Int} (hn:InR n) (h:puttingF ops ints strs rels q d n=some c):Rng c:=by
 have hl:=hin.lim
 have hf:=firstF_le (putP ops ints rels n) ints.length 0
 have hi:∀ (k:Nat),k≤100000→InR (k:Int):=fun k hk=>by unfold InR;omega
 unfold puttingF at h
 split at h
 ·split at h
  ·cases h
  ·injection h with h;subst h
   refine⟨fun x hx=>?_,fun x hx=>?_⟩
   ·rcases List.mem_or_eq_of_mem_set hx with h1 | h1
    ·exact hin.opn x h1
    ·subst h1;exact hi _ hl.2.1
   ·rcases List.mem_append.1 hx with h1 | h1
    ·exact hin.int x h1
    ·simp only[List.mem_singleton] at h1;subst h1;exact hn
 ·exact rng_set hin (hi _ (by omega)) h
theorem rng_pl (hin:XIn ops ints strs rels) {p i s:Int} (hi:0≤i) (hs:InR s) {ints':List Int} {strs':List ByteArray} (hi':∀ x ∈ ints',InR x) (h:some (⟨ops.map (plOp p i s),ints',strs',rels⟩:XCode)=some c):Rng c:=by
 injection h with h;subst h
 refine⟨fun x hx=>?_,hi'⟩
 obtain⟨y,h1,rfl⟩:=List.mem_map.1 hx
 have hy:=hin.opn y h1
 unfold plOp
 split
 ·split
  ·exact hs
  ·split
   ·rename_i h2
    simp only[decide_eq_true_eq] at h2
    unfold InR at *
    dsimp only
    omega
   ·exact hy
 ·exact hy
theorem sameR_rng (p:Nat→Bool) (i:Nat) (hi:i≤100000) (s:Int):InR (sameR p i s):=by
 unfold sameR InR
 split
 ·omega
 ·split <;> omega
theorem idxAt_rng {α:Type} (p:α→Bool) (l:List α) (hl:l.length≤100000):InR (idxAt p l 0):=by
 rcases idxAt_spec p l 0 with ⟨h,_⟩ | ⟨k,h1,h,_⟩ <;> rw[h] <;> unfold InR <;> omega
theorem step_rng (hw:XA ops ints strs rels before reached alive) (hin:XIn ops ints strs rels) {rule:Int} (h0:0≤q) (hq:q < placesF ops ints strs rule) (h:stepF ops ints strs rels before reached alive rule q=some c):Rng c:=by
 have hl:=hin.lim
 have hpl:placesF ops ints strs rule≤200000:=by unfold placesF;split <;> omega
 have hq1:InR (q+1):=by unfold InR;omega
 have h0':InR 0:=inr0
 have hops:(rule==8)=false→q.toNat < ops.length:=fun h8=>by
  have:rule ≠ 8:=by simpa using h8
  unfold placesF at hq;rw[if_neg this] at hq;omega
 have hO:=hin.getO
 have hfa:(rule==8)=false→InR (factAt before q (ops.getD q.toNat op0).a).n∧InR (factAt before q (ops.getD q.toNat op0).b).n:=fun h8=>by
  have:=hw.op _ (hops h8)
  exact⟨hw.fact (hops h8) this.1.2,hw.fact (hops h8) this.2.1.2⟩
 have hO':=hO q.toNat
 have hint:=hin.int
 have hint':∀ x ∈ ints.eraseIdx q.toNat,InR x:=fun x hx=>hint x (List.mem_of_mem_eraseIdx hx)
 revert h
 unfold stepF
 by_cases h8:(rule==8)=true
 ·have hr:rule=8:=by simpa using h8
  subst hr
  rw[if_neg (by decide),if_neg (by decide),if_neg (by decide),if_neg (by decide),if_neg (by decide),if_neg (by decide),if_neg (by decide),if_pos (by decide)]
  unfold poolF
  have hp8:q < (ints.length+strs.length:Int):=hq
  by_cases hqi:decide (q < (ints.length:Int))=true
  ·rw[if_pos hqi]
   refine keep_ite (fun h=>by cases h) fun h=>rng_pl hin h0 ?_ hint' h
   unfold sameI
   split
   ·unfold InR;omega
   ·refine sameR_rng _ _ ?_ _
    simp at hqi;omega
  ·rw[if_neg hqi]
   simp only[decide_eq_true_eq] at hqi
   refine keep_ite (fun h=>by cases h) fun h=>rng_pl hin (by omega) ?_ hint h
   exact idxAt_rng _ _ (by rw[List.length_take];omega)
 ·have h8':(rule==8)=false:=by simpa using h8
  obtain⟨ha,hb⟩:=hfa h8'
  have hmv:∀ d a:Int,InR (⟨3,d,a,0,0⟩:XOp).n:=fun _ _=>h0'
  simp only[h8',Bool.false_eq_true,if_false]
  refine keep_ite ?_ (keep_ite ?_ (keep_ite ?_ (keep_ite ?_ (keep_ite ?_ (keep_ite ?_ (keep_ite ?_ (fun h=>by cases h)))))))
  ·unfold foldF
   dsimp only
   have hput:∀ (o b:Int) (known:Bool) (x:XOp),foldK ops ints strs rels q x (factAt before q (ops.getD q.toNat op0).a).n b known=some c→Rng c:=fun o b known x h=>by
    unfold foldK at h
    split at h
    ·split at h
     ·exact rng_put hin (inr_alu ha) h
     ·cases h
    ·cases h
   split
   ·split
    ·intro h;cases h
    ·split
     ·split
      ·refine rng_set hin ?_
       dsimp only
       split
       ·exact hq1
       ·exact hO'
      ·intro h;cases h
     ·split
      ·exact hput 0 _ _ _
      ·split
       ·exact hput 0 _ _ _
       ·split
        ·exact hput 0 _ _ _
        ·split
         ·exact hput 0 _ _ _
         ·intro h;cases h
   ·intro h;cases h
  ·unfold copiesF
   dsimp only
   split
   ·split
    ·exact rng_set hin hO'
    ·intro h;cases h
   ·intro h;cases h
  ·unfold deadF
   dsimp only
   split
   ·intro h;cases h
   ·exact rng_rem hin h0
  ·unfold threadF
   dsimp only
   split
   ·split
    ·exact rng_set hin (hO _)
    ·split
     ·exact rng_rem hin h0
     ·intro h;cases h
   ·intro h;cases h
  ·unfold reachF
   split
   ·intro h;cases h
   ·exact rng_rem hin h0
  ·unfold wrapRF
   dsimp only
   split
   ·split
    ·intro h;cases h
    ·exact rng_set hin h0'
   ·intro h;cases h
  ·have hi:∀ (p:Prop) [Decidable p] (a b:Option XCode),(a=some c→Rng c)→(b=some c→Rng c)→(if p then a else b)=some c→Rng c:=fun p _ a b h1 h2=>keep_ite h1 h2
   have hm:∀ d a:Int,moveTo ops ints strs rels q d a=some c→Rng c:=fun d a h=>rng_set hin (hmv d a) h
   have hp:∀ d:Int,puttingF ops ints strs rels q d 0=some c→Rng c:=fun d h=>rng_put hin h0' h
   have hn:(none:Option XCode)=some c→Rng c:=fun h=>by cases h
   unfold identF
   dsimp only
   exact hi _ _ _ (hi _ _ _ hn (hi _ _ _ hn (hi _ _ _ (hm _ _) (hi _ _ _ (hm _ _) (hi _ _ _ (hm _ _) (hi _ _ _ (hm _ _) (hi _ _ _ (hm _ _) (hi _ _ _ (hm _ _) (hi _ _ _ (hp _) (hi _ _ _ (hp _) (hi _ _ _ (hp _) (hi _ _ _ (hi _ _ _ (hp _) hn) hn)))))))))))) hn
theorem step_in (hw:XA ops ints strs rels before reached alive) (hin:XIn ops ints strs rels) {rule:Int} (h0:0≤q) (hq:q < placesF ops ints strs rule) (h:stepF ops ints strs rels before reached alive rule q=some c):XIn c.ops c.ints c.strs c.rels:=by
 have hk:=step_keeps h
 have hr:=step_rng hw hin h0 hq h
 have hp:=hw.pre33 hk
 exact⟨hp.1,hp.2,hr.o,hr.i⟩
theorem apply_in (hw:XA ops ints strs rels before reached alive) (hin:XIn ops ints strs rels) {rule:Int} (h:applyF ops ints strs rels before reached alive rule q=some c):XIn c.ops c.ints c.strs c.rels∧checkC c=true:=by
 unfold applyF at h
 split at h
 ·split at h
  ·cases h
  ·rename_i h1
   split at h
   ·cases h
   ·rename_i h2
    simp only[decide_eq_true_eq] at h1 h2
    cases hs:stepF ops ints strs rels before reached alive rule q with
    | none=>rw[hs] at h;cases h
    | some c'=>
      rw[hs] at h
      simp only[Option.bind_some] at h
      split at h
      ·rename_i hc
       injection h with h;subst h
       exact⟨step_in hw hin (by omega) (by omega) hs,hc⟩
      ·cases h
 ·cases h
end
end Go.Proofs.Tryz
end
section
set_option maxHeartbeats 4000000
set_option maxRecDepth 20000
namespace Go.Proofs.Tryz
open Go Go.Abs
variable (ops : List XOp) (ints : List Int) (strs : List ByteArray) (rels : List XRel)
def applyW (ops:List XOp) (ints:List Int) (strs:List ByteArray) (rels:List XRel) (rule q:Int):Option XCode:=applyF ops ints strs rels (workS ops ints rels).1 (workS ops ints rels).2 (workL ops) rule q
def applyE (ops:List XOp) (ints:List Int) (strs:List ByteArray) (rels:List XRel) (rule q:Int):Option XCode × Int:=
 if checkF ops ints strs rels=true then (match applyW ops ints strs rels rule q with | some c=>(some c,0) | none=>(none,170)) else (none,150)
def eOutE (r:Option XCode × Int):AV:= .tup [eCode (r.1.getD ⟨[],[],[],[]⟩),.int .i64 r.2]
theorem h11:Tryz.prog.funcs[11]? = some f11:=by kernel_rfl
def D11:Nat→Option (List DH × List Nat):=fun i=>match i with | 4=>some ([⟨[7],[],[7]⟩,⟨[7],[],[7]⟩,⟨[7],[],[7]⟩,⟨[7],[],[7]⟩,⟨[7],[],[7]⟩,⟨[7],[],[7]⟩,⟨[7],[],[7]⟩,⟨[],[7],[]⟩,⟨[],[7],[]⟩,⟨[],[],[]⟩],[7]) | _=>none
theorem D11_4:D11 4=some ([⟨[7],[],[7]⟩,⟨[7],[],[7]⟩,⟨[7],[],[7]⟩,⟨[7],[],[7]⟩,⟨[7],[],[7]⟩,⟨[7],[],[7]⟩,⟨[7],[],[7]⟩,⟨[],[7],[]⟩,⟨[],[7],[]⟩,⟨[],[],[]⟩],[7]):=rfl
theorem run11 (rule q:Int) (hp:XIn ops ints strs rels) :∃ r,wk r (eOutE (applyE ops ints strs rels rule q))∧∀ A,acall (env 26 8393215 D11 [(33,c33),(34,c34),(35,c35)] [] A) (fun _=>{ tm:=[],ob:=[] }) (5) f11 [(cd ops ints strs rels),.st 29 [.int .i64 rule,.int .i64 q]]=some r:=by
 have e33:=c33_eq ops ints strs rels ⟨hp.lim,hp.str⟩
 unfold applyE
 cases hc:checkF ops ints strs rels
 ·rw[hc] at e33
  simp only[errF,BL] at e33 ⊢
  have e34:=trivial
  have e35:=trivial
  apply wkI
  ·intro A
   simp only[acall,macall,f11]
   simp only[go_sem,simprocAttr,D11_4,e33,e34,e35]
   rfl
  ·simp[WK,eOut,eCode,eOutE]
 ·have e34:=c34_eq ops ints strs rels ⟨⟨hp.lim,hp.str⟩,hc⟩
  have e35:=c35_eq ops ints strs rels (workS ops ints rels).1 (workS ops ints rels).2 (workL ops) rule q (work_xa hp hc)
  rw[hc] at e33
  simp only[errF,BL] at e33 ⊢
  have hw:applyW ops ints strs rels rule q=applyF ops ints strs rels (workS ops ints rels).1 (workS ops ints rels).2 (workL ops) rule q:=rfl
  rw[← hw] at e35
  generalize applyW ops ints strs rels rule q=ap at *
  cases ap
  all_goals
   simp only[eOut,eCode] at e35
   apply wkI
   ·intro A
    simp only[acall,macall,f11]
    simp only[go_sem,simprocAttr,D11_4,e33,e34,e35]
    rfl
   ·simp[WK,eOut,eCode,eOutE]
noncomputable def c11:=famP (α:=(List XOp) × (List Int) × (List ByteArray) × (List XRel) × Int × Int) (fun (ops,ints,strs,rels,rule,q)=>XIn ops ints strs rels) (fun (ops,ints,strs,rels,rule,q)=>[(cd ops ints strs rels),.st 29 [.int .i64 rule,.int .i64 q]]) (fun (ops,ints,strs,rels,rule,q)=>eOutE (applyE ops ints strs rels rule q))
theorem c11_eq (rule q:Int) (hp:XIn ops ints strs rels):c11 [(cd ops ints strs rels),.st 29 [.int .i64 rule,.int .i64 q]]=some (eOutE (applyE ops ints strs rels rule q)):=fam_eq (fun X Y hp hp' h'=>by
 obtain⟨ops,ints,strs,rels,rule,q⟩:=X;obtain⟨ops',ints',strs',rels',rule',q'⟩:=Y;simp only[INJ] at h'
 obtain⟨rfl,rfl,rfl,rfl,rfl,rfl⟩:=h'
 rfl) (ops,ints,strs,rels,rule,q) hp
theorem snd11:Snd 11 c11:=fam_snd h11 rfl rfl fun (ops,ints,strs,rels,rule,q) hp=>let ⟨_,hw,hr⟩:=run11 ops ints strs rels rule q hp;(rc h11 hr (fun i=>match i with | 4=>[0,1,0,7,15,31,31,0,191,511] | _=>[]) rfl rfl rfl (by kernel_rfl) ⟨snd33,snd34,snd35,trivial⟩ trivial).weak hw
theorem h14:Tryz.prog.funcs[14]? = some f14:=by kernel_rfl
theorem run14 (rule q:Int) (hp:XIn ops ints strs rels) (A:Nat→Prop):acall (env 14 95 D0 [(11,c11)] [] A) (fun _=>{ tm:=[],ob:=[] }) (5) f14 [(cd ops ints strs rels),.st 29 [.int .i64 rule,.int .i64 q]]=some (.int .i64 (applyE ops ints strs rels rule q).2):=by
 have e11:=c11_eq ops ints strs rels rule q hp
 simp only[eOutE,eCode] at e11
 generalize applyE ops ints strs rels rule q=ap at *
 generalize ap.1.getD ⟨[],[],[],[]⟩=cc at *
 simp only[acall,macall,f14]
 simp only[go_sem,simprocAttr,e11]
noncomputable def c14:=famP (α:=(List XOp) × (List Int) × (List ByteArray) × (List XRel) × Int × Int) (fun (ops,ints,strs,rels,rule,q)=>XIn ops ints strs rels) (fun (ops,ints,strs,rels,rule,q)=>[(cd ops ints strs rels),.st 29 [.int .i64 rule,.int .i64 q]]) (fun (ops,ints,strs,rels,rule,q)=> .int .i64 (applyE ops ints strs rels rule q).2)
theorem c14_eq (rule q:Int) (hp:XIn ops ints strs rels):c14 [(cd ops ints strs rels),.st 29 [.int .i64 rule,.int .i64 q]]=some (.int .i64 (applyE ops ints strs rels rule q).2):=fam_eq (fun X Y hp hp' h'=>by
 obtain⟨ops,ints,strs,rels,rule,q⟩:=X;obtain⟨ops',ints',strs',rels',rule',q'⟩:=Y;simp only[INJ] at h'
 obtain⟨rfl,rfl,rfl,rfl,rfl,rfl⟩:=h'
 rfl) (ops,ints,strs,rels,rule,q) hp
theorem snd14:Snd 14 c14:=fam_snd h14 rfl rfl fun (ops,ints,strs,rels,rule,q) hp=>rc h14 (fun A=>run14 ops ints strs rels rule q hp A) (fun _=>[]) rfl rfl rfl (by kernel_rfl) ⟨snd11,trivial⟩ trivial
end Go.Proofs.Tryz
end
section
namespace Go.Abs
open Go Go.RowKit
section
variable {P:Program} {E:Env} {w0 w:World} {σ:St} {a:Act} {β:Nat→Option Nat} {o:Oper}
theorem rowsIn_wide {n:Nat} {row:String} {args:Array Value} {R:Value→World→Prop} (h:Rows P row args w R):RowsIn Fence.wide n P row args w R:=
 fun c cs _=>let ⟨v,w',r,s⟩:=h c cs;⟨v,w',r,stepsIn_wide.2 s⟩
theorem upon_round {o:Oper} {next:Act→World→Prop} {Q:Exit→Act→World→Prop} {l n:Nat} {r:Result Next} (h:o.upon P a next Q r):o.uponIn (Fence.wide.inRound l) n P a next Q r:=by
 cases r with
 | ok x w'=>
   cases x with
   | value v=>exact h
   | skip=>exact h
   | defer d=>exact h
   | enter f args=>exact⟨fun hd=>by simp[Fence.wide] at hd,CallsIn.inRound l (callsIn_wide.2 h)⟩
   | row row args=>exact⟨fun hd=>by simp[Fence.wide] at hd,rowsIn_wide h⟩
   | _=>exact h.elim
 | halt s w'=>cases s <;> first | exact h | exact h.elim
theorem wp_round {o:Oper} {next:Act→World→Prop} {Q:Exit→Act→World→Prop} {l n:Nat} (hd:∀ c,o.op ≠ .defer c) (h:o.wp P a w next Q):o.wpIn (Fence.wide.inRound l) n P a w next Q:=by
 refine⟨fun _ _=>trivial,?_⟩
 rw[Fence.inRound_round,Oper.semAt_eq _ _ _ hd]
 exact upon_round h
theorem upon_wide {o:Oper} {next:Act→World→Prop} {Q:Exit→Act→World→Prop} {n:Nat} {r:Result Next} (h:o.upon P a next Q r):o.uponIn Fence.wide n P a next Q r:=by
 cases r with
 | ok x w'=>
   cases x with
   | value v=>exact h
   | skip=>exact h
   | defer d=>exact h
   | enter f args=>exact⟨fun hd=>by simp[Fence.wide] at hd,callsIn_wide.2 h⟩
   | row row args=>exact⟨fun hd=>by simp[Fence.wide] at hd,rowsIn_wide h⟩
   | _=>exact h.elim
 | halt s w'=>cases s <;> first | exact h | exact h.elim
def Easy (P:Program) (F:Fence) (n:Nat):Prop:=(∀ f,F.fn f)∧∀ (o:Oper) (a:Act) (w:World) (next:Act→World→Prop) (Q:Exit→Act→World→Prop),(∀ c,o.op ≠ .defer c)→o.wp P a w next Q→o.wpIn F n P a w next Q
theorem easy_round (l n:Nat):Easy P (Fence.wide.inRound l) n:=⟨fun _=>trivial,fun _ _ _ _ _ hd h=>wp_round hd h⟩
theorem easy_wide (n:Nat):Easy P Fence.wide n:=⟨fun _=>trivial,fun _ _ _ _ _ _ h=>⟨fun _ _=>trivial,upon_wide h⟩⟩
def noDefer:Op→Bool
 | .defer _=>false
 | _=>true
def straight (S:List Nat):Code→Bool
 | .skip=>true
 | .exit _=>true
 | .ret=>true
 | .cond _ x y=>straight S x&&straight S y
 | .region _ ops false=>ops.toList.all fun o=>noDefer o.op&&(match o.dst with | some t=> !S.contains t | none=>true)
 | .seq x y=>straight S x&&straight S y
 | .block _ c=>straight S c
 | _=>false
def Kept (S:List Nat) (a a':Act):Prop:=(∀ t ∈ S,a'.tmps.getD t undef=a.tmps.getD t undef)∧a'.defers=a.defers
theorem Kept.refl (S:List Nat) (a:Act):Kept S a a:=⟨fun _ _=>rfl,rfl⟩
theorem Kept.trans {S:List Nat} {a b c:Act} (h:Kept S a b) (k:Kept S b c):Kept S a c:=⟨fun t ht=>(k.1 t ht).trans (h.1 t ht),k.2.trans h.2⟩
theorem Kept.put {S:List Nat} {a:Act} {d:Option Nat} {v:Value} (hd:(match d with | some t=> !S.contains t | none=>true)=true):Kept S a (a.put d v):=by
 refine⟨fun t ht=>?_,by cases d <;> rfl⟩
 cases d with
 | none=>rfl
 | some u=>
   have hne:u ≠ t:=by
    rintro rfl
    simp only[Bool.not_eq_true',List.contains_eq_mem,decide_eq_false_iff_not] at hd
    exact hd ht
   simp only[Act.put,Array.getD_eq_getD_getElem?]
   rw[Array.getElem?_setIfInBounds_ne hne]
theorem aopM_kept {S:List Nat} (hdst:(match o.dst with | some t=> !S.contains t | none=>true)=true) (hT:Tabs P E.ty) (hC:CSound P E) (h:Sim E w0 σ a w β) (hG:GlobOk E w0) {ops:Array Oper} {σ':St} (hr:aopM E ops.toList o σ=some σ') {K:Act→World→Prop} {Q:Exit→Act→World→Prop}
 (hK:∀ a' w' β',Sim E w0 σ' a' w' β'→Kept S a a'→K a' w') :
 if Region.wanted o (yielded ops a.tmps) then o.wp P a w K Q else K (a.put o.dst undef) w:=by
 have run:obind (aresM E (o.dst.getD 0) σ o.op) (setRes E σ o.dst)=some σ'→o.wp P a w K Q:=fun hr=>by
  obtain⟨⟨x,ob⟩,h1,h2⟩:=obind_eq hr
  refine aresM_goes hT hC h hG h1 K Q fun v w' β' hS hV=>?_
  unfold setRes at h2
  split at h2
  ·rename_i t ht
   split at h2
   ·rename_i hlt
    injection h2 with h2;subst h2
    rw[ht]
    exact hK _ _ _ (hS.put hlt hV) (by rw[← ht];exact Kept.put hdst)
   ·cases h2
  ·rename_i ht
   injection h2 with h2;subst h2
   rw[ht]
   exact hK _ _ _ hS (by rw[← ht];exact Kept.put hdst)
 unfold aopM at hr
 split at hr
 ·rename_i hg
  rw[if_pos (by simp[Region.wanted,hg])]
  exact run hr
 ·rename_i j b hg
  split at hr
  ·rename_i t ht
   split at hr
   ·rename_i q hq
    have hy:yielded ops a.tmps j=some q:=by
     obtain⟨h1,h2⟩:=h.tms t _ hq
     have h3:=VR.bool_inv h2
     have h4:a.tmps[t]? = some (.bool q):=by
      have:t < a.tmps.size:=by rw[h.size];exact h1
      rw[Array.getD_eq_getD_getElem?] at h3
      rw[Array.getElem?_eq_getElem this] at h3 ⊢
      simpa using h3
     have h5:(ops[j]?).bind (·.dst)=some t:=by
      unfold dstOf at ht
      rw[Array.getElem?_toList] at ht
      split at ht
      ·rename_i o' ho';rw[ho'];exact ht
      ·cases ht
     simp[yielded,h5,h4]
    have hw:Region.wanted o (yielded ops a.tmps)=(q==b):=by
     simp[Region.wanted,hg,hy]
    rw[hw]
    split at hr
    ·rename_i e;subst e
     rw[if_pos (by simp)]
     exact run hr
    ·rename_i e
     rw[if_neg (by simpa using e)]
     unfold setRes at hr
     split at hr
     ·rename_i t' ht'
      split at hr
      ·rename_i hlt
       injection hr with hr;subst hr
       rw[ht']
       exact hK _ _ _ (h.put hlt ⟨#[],rfl,rfl,fun i x v hx=>by simp at hx⟩) (by rw[← ht'];exact Kept.put hdst)
      ·cases hr
     ·rename_i ht'
      injection hr with hr;subst hr
      rw[ht']
      exact hK _ _ _ h (by rw[← ht'];exact Kept.put hdst)
   ·rename_i hq
    have hy:yielded ops a.tmps j=none:=by
     obtain⟨h1,h2⟩:=h.tms t _ hq
     obtain⟨vs,h3,h3'⟩:=h2
     have h4:a.tmps[t]? = some (.tuple vs):=by
      have:t < a.tmps.size:=by rw[h.size];exact h1
      rw[Array.getD_eq_getD_getElem?] at h3
      rw[Array.getElem?_eq_getElem this] at h3 ⊢
      simpa using h3
     have h5:(ops[j]?).bind (·.dst)=some t:=by
      unfold dstOf at ht
      rw[Array.getElem?_toList] at ht
      split at ht
      ·rename_i o' ho';rw[ho'];exact ht
      ·cases ht
     simp[yielded,h5,h4]
    have hw:Region.wanted o (yielded ops a.tmps)=false:=by
     simp[Region.wanted,hg,hy]
    rw[hw,if_neg (by simp)]
    unfold setRes at hr
    split at hr
    ·rename_i t' ht'
     split at hr
     ·rename_i hlt
      injection hr with hr;subst hr
      rw[ht']
      exact hK _ _ _ (h.put hlt ⟨#[],rfl,rfl,fun i x v hx=>by simp at hx⟩) (by rw[← ht'];exact Kept.put hdst)
     ·cases hr
    ·rename_i ht'
     injection hr with hr;subst hr
     rw[ht']
     exact hK _ _ _ h (by rw[← ht'];exact Kept.put hdst)
   ·cases hr
  ·cases hr
theorem round_ops (hT:Tabs P E.ty) (hC:CSound P E) (hG:GlobOk E w0) {ops:Array Oper} {Q:Exit→Act→World→Prop} {σ':St} {S:List Nat} {F:Fence} {n:Nat} (hF:Easy P F n) {a0:Act} {tail:List Nat}:∀ (rest:List Oper) (k:Nat) (σ:St) (a:Act) (w:World) (β:Nat→Option Nat),
 (∀ j,j < rest.length→rest[j]? = ops[k+j]?)→(rest.all fun o=>noDefer o.op&&(match o.dst with | some t=> !S.contains t | none=>true))=true→
 aopsM E ops.toList rest σ=some σ'→Sim E w0 σ a w β→Kept S a0 a→(∀ a' w' β',Sim E w0 σ' a' w' β'→Kept S a0 a'→wpOpsIn F n P ops Q tail a' w')→wpOpsIn F n P ops Q (List.range' k rest.length++tail) a w
 | [],k,σ,a,w,β,_,_,hr,h,hs,hQ=>by
   simp[aopsM] at hr;subst hr
   simpa using hQ _ _ _ h hs
 | o::rest,k,σ,a,w,β,hl,hall,hr,h,hs,hQ=>by
   simp only[aopsM] at hr
   obtain⟨σ1,h1,h2⟩:=obind_eq hr
   simp only[List.all_cons,Bool.and_eq_true] at hall
   obtain⟨⟨hd,hdst⟩,hrest⟩:=hall
   have h0:ops[k]? = some o:=by have:=hl 0 (by simp);simpa using this.symm
   simp only[List.length_cons,List.range'_succ,List.cons_append,wpOpsIn,h0]
   have key:=aopM_kept (Q:=Q) hdst hT hC h hG (ops:=ops) h1 (K:=wpOpsIn F n P ops Q (List.range' (k+1) rest.length++tail)) fun a' w' β' hS hk=>
    round_ops hT hC hG hF rest (k+1) σ1 a' w' β' (fun j hj=>by have:=hl (j+1) (by simp;omega);rw[List.getElem?_cons_succ] at this;rw[this];congr 1;omega) hrest h2 hS (hs.trans hk) hQ
   have hnd:∀ c,o.op ≠ .defer c:=fun c hc=>by rw[hc] at hd;cases hd
   split
   ·rename_i hw;rw[if_pos hw] at key;exact hF.2 _ _ _ _ _ hnd key
   ·rename_i hw;rw[if_neg hw] at key
    exact⟨fun f _=>hF.1 f,key⟩
def RPost (E:Env) (w0:World) (e:AX) (σ':St) (S:List Nat) (a0:Act):Exit→Act→World→Prop:=fun ex a' w'=>ex=exOf e∧(∃ β',Sim E w0 σ' a' w' β')∧Kept S a0 a'
theorem round_sound (hZ:∀ id,E.Z id=[]) (hT:Tabs P E.ty) (hC:CSound P E) (hG:GlobOk E w0) {H:Nat→Hint} {k n:Nat} {S:List Nat} {F:Fence} (hF:Easy P F n):∀ (c:Code) (σ σ':St) (e:AX),straight S c=true→arun E H k c σ=some (e,σ')→
 ∀ (a:Act) (w:World) (β:Nat→Option Nat),Sim E w0 σ a w β→c.wpIn F n P (RPost E w0 e σ' S a) a w:=by
 intro c
 induction c with
 | skip=>
   intro σ σ' e _ hr a w β h
   simp only[arun] at hr;injection hr with hr;injection hr with h1 h2;subst h1;subst h2
   exact wpIn_skip ⟨rfl,⟨β,h⟩,.refl _ _⟩
 | exit id=>
   intro σ σ' e _ hr a w β h
   simp only[arun] at hr;injection hr with hr;injection hr with h1 h2;subst h1;subst h2
   exact wpIn_exit ⟨rfl,⟨β,h⟩,.refl _ _⟩
 | ret=>
   intro σ σ' e _ hr a w β h
   simp only[arun] at hr;injection hr with hr;injection hr with h1 h2;subst h1;subst h2
   exact wpIn_ret ⟨rfl,⟨β,h⟩,.refl _ _⟩
 | cond cc c1 c2 ih1 ih2=>
   intro σ σ' e hs hr a w β h
   simp only[straight,Bool.and_eq_true] at hs
   simp only[arun] at hr
   obtain⟨q,h1,h2⟩:=obind_eq hr
   have hq:=val_sound h hG h1
   split at h2
   ·rename_i b
    refine wpIn_cond (VR.bool_inv hq) ?_
    split at h2
    ·rename_i e1;subst e1;exact ih1 σ σ' e hs.1 h2 a w β h
    ·rename_i e1
     have:b=false:=by simpa using e1
     subst this;exact ih2 σ σ' e hs.2 h2 a w β h
   ·cases h2
 | region id ops dr=>
   intro σ σ' e hs hr a w β h
   cases dr with
   | true=>cases hs
   | false=>
     simp only[arun] at hr
     obtain⟨σ1,h1,h2⟩:=obind_eq hr
     injection h2 with h2;injection h2 with h2 h3;subst h2;subst h3
     rw[hZ id] at h1
     refine wpIn_region ?_
     rw[List.range_eq_range']
     have:=round_ops (Q:=RPost E w0 .norm (endRegion E σ1) S a) (tail:=[]) hT hC hG hF (ops:=ops) ops.toList 0 _ a w β (fun j _=>by simp) hs h1 (by simpa[St.freeze] using h) (.refl S a) fun a' w' β' hS hk=>
      ⟨rfl,⟨β',hS.less (fun t x hx=>(kept_get _ _ t x (fun _ _ _=>trivial) hx).2) (fun o b hb=>hb)⟩,hk⟩
     simpa using this
 | seq c1 c2 ih1 ih2=>
   intro σ σ' e hs hr a w β h
   simp only[straight,Bool.and_eq_true] at hs
   simp only[arun] at hr
   refine wpIn_seq ?_
   rcases then_eq hr with ⟨σ1,h1,h2⟩ | ⟨h1,h2⟩
   ·refine wpIn_mono (ih1 σ σ1 .norm hs.1 h1 a w β h) fun e' a' w' hp=>?_
    obtain⟨he,⟨β',hS⟩,hk⟩:=hp
    subst he
    exact wpIn_mono (ih2 σ1 σ' e hs.2 h2 a' w' β' hS) fun e2 a2 w2 hp2=>⟨hp2.1,hp2.2.1,hk.trans hp2.2.2⟩
   ·refine wpIn_mono (ih1 σ σ' e hs.1 h1 a w β h) fun e' a' w' hp=>?_
    obtain⟨he,hS,hk⟩:=hp
    subst he
    cases e with
    | norm=>exact absurd rfl h2
    | exit i=>exact⟨rfl,hS,hk⟩
    | ret=>exact⟨rfl,hS,hk⟩
 | block id c ih=>
   intro σ σ' e hs hr a w β h
   simp only[arun] at hr
   refine wpIn_block ?_
   unfold inBlock at hr
   split at hr
   ·rename_i i σ1 h1
    refine wpIn_mono (ih σ σ1 (.exit i) hs h1 a w β h) fun e' a' w' hp=>?_
    obtain⟨he,hS,hk⟩:=hp
    subst he
    simp only[exOf,Exit.inBlock]
    split at hr
    ·rename_i e1
     injection hr with hr;injection hr with h2 h3;subst h2;subst h3
     rw[if_pos e1];exact⟨rfl,hS,hk⟩
    ·rename_i e1
     injection hr with hr;injection hr with h2 h3;subst h2;subst h3
     rw[if_neg e1];exact⟨rfl,hS,hk⟩
   ·rename_i hne
    refine wpIn_mono (ih σ σ' e hs hr a w β h) fun e' a' w' hp=>?_
    obtain⟨he,hS,hk⟩:=hp
    subst he
    cases e with
    | norm=>exact⟨rfl,hS,hk⟩
    | exit i=>exact absurd hr (hne i σ')
    | ret=>exact⟨rfl,hS,hk⟩
 | _=>intro σ σ' e hs;cases hs
theorem Sim.ctx {E E':Env} {w0 w0' w:World} {σ σ2:St} {a a2:Act} {β:Nat→Option Nat} (h:Sim E w0 σ a w β) (m:Mono0 (cxOf E w0 σ w β) (cxOf E' w0' σ2 w β)) (hob:σ2.ob=σ.ob) (hn:E'.n=E.n)
 (hnew:∀ o b k,aget o σ.ob=some b→β o=some k→(cxOf E w0 σ w β).new k→(cxOf E' w0' σ2 w β).new k) (hbelow:BelowL (lentOf E') w0'.heap.size w0' w) (hsz:a2.tmps.size=a.tmps.size)
 (hd:Marks w0'.heap.size a2.defers w) (htm:∀ t x,aget t σ2.tm=some x→aget t σ.tm=some x∧a2.tmps.getD t undef=a.tmps.getD t undef):Sim E' w0' σ2 a2 w β where
 below:=hbelow
 size:=by rw[hsz,h.size,hn]
 defers:=hd
 tms:=fun t x hx=>by
  obtain⟨h1,h2⟩:=htm t x hx
  obtain⟨h3,h4⟩:=h.tms t x h1
  exact⟨by rw[hn];exact h3,by rw[h2];exact m.vr h4 fun _ _=>rfl⟩
 obs:=fun o b ho=>by
  rw[hob] at ho
  obtain⟨h1,h2⟩:=h.obs o b ho
  refine⟨by rw[m.ty];exact h1,?_⟩
  show match β o with | none=>_ | some k=>_
  have h2':match β o with | none=>_ | some k=>_:=h2
  split
  ·rename_i hn;rw[hn] at h2';exact h2'
  ·rename_i k hk
   rw[hk] at h2'
   obtain⟨q,arr,e,h3,h4⟩:=h2'
   refine⟨hnew o b k ho hk q,arr,e,h3,fun j x hx=>?_⟩
   obtain⟨v,h5,h6⟩:=h4 j x hx
   exact⟨v,h5,m.cellR h6 fun _ _ _=>rfl⟩
 inj:=fun o o' b b' k h1 h2=>by rw[hob] at h1 h2;exact h.inj o o' b b' k h1 h2
def ownB (σ:St) (β:Nat→Option Nat) (k:Nat):Prop:=∃ o b,aget o σ.ob=some b∧β o=some k
def reE (E:Env) (w0:World) (σ:St) (w:World) (β:Nat→Option Nat):Env:={ E with okA:=fun k=>¬ (cxOf E w0 σ w β).mu k,lent:=ownB σ β,lo:=some w0.heap.size }
theorem own_cells {E:Env} {w0 w:World} {σ:St} {a:Act} {β:Nat→Option Nat} (h:Sim E w0 σ a w β) {k:Nat} (hk:ownB σ β k):∃ arr e,w.heap[k]? = some (.cells arr e (0,0))∧(w0.heap.size≤k∨(E.lent k∧¬ E.okA k)):=by
 obtain⟨o,b,h1,h2⟩:=hk
 have:=(h.obs o b h1).blk
 simp only[cxOf,h2] at this
 obtain⟨q,arr,e,h3,_⟩:=this
 exact⟨arr,e,h3,q⟩
theorem Sim.rebase {E:Env} {w0 w:World} {σ:St} {a:Act} {β:Nat→Option Nat} (h:Sim E w0 σ a w β) (hlo:E.lo=none) {tm:Array Value} (htm:tm=a.tmps):Sim (reE E w0 σ w β) w σ { tmps:=tm,defers:=[] } w β:=by
 subst htm
 have hs:=h.below.size
 refine h.ctx ⟨rfl,?_,Nat.le_refl _,fun b hb _=>⟨fun hmu=>?_,rfl⟩,fun b arr e hb=>⟨arr,hb,rfl⟩⟩ rfl rfl (fun o b k h1 h2 _=> .inr ⟨⟨o,b,h1,h2⟩,fun hok=>hok (.inr ⟨o,b,h1,h2⟩)⟩) (.refl _ _ _) rfl (.nil _ _) fun t x hx=>⟨hx,rfl⟩
 ·show lowOf (some w0.heap.size) w.heap.size=lowOf E.lo w0.heap.size
  rw[hlo];simp[lowOf];omega
 ·rcases hmu with ⟨_,h2⟩ | h2
  ·exact h2 hb
  ·exact hb (.inr h2)
theorem keepL_in {α:Type} (l:List (Nat × α)):∀ (ts:List Nat) (t:Nat) (v:α),aget t (keepL l ts)=some v→t ∈ ts
 | [],t,v,h=>by simp[keepL,aget] at h
 | u::r,t,v,h=>by
   simp only[keepL] at h
   split at h
   ·simp only[aget] at h
    split at h
    ·rename_i e;rw[e];exact List.mem_cons_self ..
    ·exact List.mem_cons_of_mem _ (keepL_in l r t v h)
   ·exact List.mem_cons_of_mem _ (keepL_in l r t v h)
theorem Sim.back {E:Env} {w0 w w':World} {σ σ':St} {a a':Act} {β β':Nat→Option Nat} (h:Sim E w0 σ a w β) (hlo:E.lo=none) (hL:∀ k,¬ E.lent k) (h':Sim (reE E w0 σ w β) w σ' a' w' β')
 {S:List Nat} (hS:keepL σ'.tm S=keepL σ.tm S) (hk:∀ t ∈ S,a'.tmps.getD t undef=a.tmps.getD t undef):Sim E w0 ⟨keepL σ.tm S,σ'.ob⟩ a w' β':=by
 have hs:=h.below.size
 have hno:∀ k,k < w0.heap.size→¬ ownB σ β k:=fun k hlt hown=>by
  obtain⟨_,_,_,h1⟩:=own_cells h hown
  rcases h1 with h1 | h1
  ·omega
  ·exact hL k h1.1
 have hbl:∀ k,k < w.heap.size→¬ ownB σ β k→w'.heap[k]? = w.heap[k]?:=fun k h1 h2=>h'.below.block k h1 fun hl=>h2 hl.1
 refine h'.ctx ⟨rfl,?_,Nat.le_refl _,fun b hb hlt=>⟨fun hmu=>?_,rfl⟩,fun b arr e hb=>⟨arr,hb,rfl⟩⟩ rfl rfl (fun o b k h1 h2 hn=>?_) ?_ ?_ ?_ fun t x hx=>?_
 ·show lowOf E.lo w0.heap.size=lowOf (some w0.heap.size) w.heap.size
  rw[hlo];simp[lowOf];omega
 ·rcases hmu with ⟨h1,h2⟩ | h2
  ·exact hb (.inl ⟨by omega,fun hok=>hok (.inl ⟨h1,h2⟩)⟩)
  ·exact hb (.inr h2)
 ·rcases hn with h3 | h3
  ·exact .inl (by omega)
  ·obtain⟨_,_,_,h4⟩:=own_cells h h3.1
   exact h4
 ·exact⟨h'.below.os.trans h.below.os,h'.below.tape.trans h.below.tape,h'.below.output.trans h.below.output,Nat.le_trans hs h'.below.size,
   fun k h1 h2=>(hbl k (by omega) (hno k h1)).trans (h.below.block k h1 h2),
   fun b arr e hb=>by
    obtain⟨arr1,q1,q2⟩:=h.below.rows b arr e hb
    obtain⟨arr2,q3,q4⟩:=h'.below.rows b arr1 e q1
    exact⟨arr2,q3,q4.trans q2⟩⟩
 ·rw[h.size,h'.size];rfl
 ·exact h.defers.to fun k hk=>by
   rw[hbl k (Array.getElem?_eq_some_iff.1 hk).1 fun hown=>by obtain⟨_,_,h3,_⟩:=own_cells h hown;rw[hk] at h3;cases h3]
   exact hk
 ·have hx':aget t (keepL σ.tm S)=some x:=hx
  have h1:=keepL_in _ _ _ _ hx'
  have hx2:aget t (keepL σ'.tm S)=some x:=by rw[hS];exact hx'
  exact⟨keepL_get _ _ t x hx2,(hk t h1).symm⟩
end
end Go.Abs
end
section
namespace Go.Abs
open Go Go.RowKit
structure Alike (T:Nat→Prop) (w w':World):Prop where
 os:w'.os=w.os
 tape:w'.tape=w.tape
 output:w'.output=w.output
 size:w.heap.size≤w'.heap.size
 same:∀ (k:Nat) (o:Go.Obj),w.heap[k]? = some o→¬ T k→bookO o=false→w'.heap[k]? = some o
def Iter (P:Program) (ty:Tys) (G:Globs) (gf:Nat) (caps:List AV) (ys:List (List AV)):Prop:=
 ∀ (okA:Nat→Prop) (W0:World) (vs:List Value),F2 (CR1 ty W0 fun _=>okA) caps vs→(∀ g t x,G g=some (t,x)→LR ty W0 okA (.ro false t x) (.pointer (some ⟨g,0,none⟩)))→
 ∀ (l:Nat) (J:Nat→(Nat→Prop)→World→Prop) (Jx:World→Prop) (T0:Nat→Prop),(∀ k,okA k→¬ T0 k)→(∀ k,T0 k→k < W0.heap.size)→
   (∀ i T W W',J i T W→Below W.heap.size W W'→J i T W')→(∀ W W',Jx W→Below W.heap.size W W'→Jx W')→J 0 T0 W0→
   (∀ i y T W ws,ys[i]? = some y→J i T W→F2 (CR1 ty W fun _ b=>(okA b∨W0.heap.size≤b)∧¬ T b) y ws→
     YieldAt Fence.wide 0 P l ws.toArray W fun e W'=>
      (e = .returned (.bool true)∧∃ T',J (i+1) T' W'∧(∀ k,T' k→(T k∨W.heap.size≤k)∧k < W'.heap.size)∧Alike T W W')∨(e = .returned (.bool false)∧Jx W'∧Alike T W W'))→
   CallsIn Fence.wide 0 P gf (#[.func (.yield l) #[] #[]]++vs.toArray) W0 fun e W'=>(∃ v,e = .returned v)∧((∃ T,J ys.length T W')∨Jx W')
section
variable {E:Env} {w0 w:World} {σ:St} {a:Act} {β:Nat→Option Nat}
theorem Sim.reobj (h:Sim E w0 σ a w β) {p:Nat} {b b':Obj} (hp:aget p σ.ob=some b) (hO:ObR (cxOf E w0 σ w β) p b'):Sim E w0 ⟨σ.tm,aput p b' σ.ob⟩ a w β:=by
 have hcx:cxOf E w0 ⟨σ.tm,aput p b' σ.ob⟩ w β=cxOf E w0 σ w β:=by
  unfold cxOf
  congr 1
  funext k
  refine propext ⟨fun hk=>hk.imp id fun⟨o,x,h1,h2⟩=>?_,fun hk=>hk.imp id fun⟨o,x,h1,h2⟩=>?_⟩
  ·simp only[aget_aput] at h1
   split at h1
   ·rename_i e;subst e;exact⟨p,b,hp,h2⟩
   ·exact⟨o,x,h1,h2⟩
  ·by_cases e:p=o
   ·subst e;exact⟨p,b',by simp[aget_aput],h2⟩
   ·exact⟨o,x,by simp[aget_aput,e,h1],h2⟩
 exact {
  below:=h.below
  size:=h.size
  defers:=h.defers
  tms:=fun t x hx=>by rw[hcx];exact h.tms t x hx
  obs:=fun o x hx=>by
   rw[hcx]
   simp only[aget_aput] at hx
   split at hx
   ·rename_i e;subst e;injection hx with hx;subst hx;exact hO
   ·exact h.obs o x hx
  inj:=fun o o' x x' k h1 h2 k1 k2=>by
   have get:∀ q y,aget q (aput p b' σ.ob)=some y→∃ y',aget q σ.ob=some y':=fun q y hq=>by
    simp only[aget_aput] at hq
    split at hq
    ·rename_i e;subst e;exact⟨b,hp⟩
    ·exact⟨y,hq⟩
   obtain⟨y,g1⟩:=get o x h1
   obtain⟨y',g2⟩:=get o' x' h2
   exact h.inj o o' y y' k g1 g2 k1 k2 }
theorem Sim.boxmove (h:Sim E w0 σ a w β) {p o c:Nat} {u v t:TypeId} {frb fr:Bool} {n:Nat} {es:List AV} (hp:aget p σ.ob=some ⟨.box u,frb,[.own o t 0 n]⟩) (ho:aget o σ.ob=some ⟨.row v,fr,es⟩) (hf:σ.free c=true) (hoc:o ≠ c) (hpo:p ≠ o) (hpc:p ≠ c) :
 ∃ β',Sim E w0 ⟨σ.tm,aput p ⟨.box u,frb,[.own c t 0 n]⟩ (aput c ⟨.row v,fr,es⟩ (adel o σ.ob))⟩ a w β'∧∀ k,ownB ⟨σ.tm,aput p ⟨.box u,frb,[.own c t 0 n]⟩ (aput c ⟨.row v,fr,es⟩ (adel o σ.ob))⟩ β' k→ownB σ β k:=by
 have hM:=h.move (d:=c) (o:=o) hf (b:=⟨.row v,fr,es⟩) (t:=v) rfl ho hoc
 have hpM:aget p (aput c ⟨.row v,fr,es⟩ (adel o σ.ob))=some ⟨.box u,frb,[.own o t 0 n]⟩:=by
  rw[aget_aput,if_neg (Ne.symm hpc),aget_adel,if_neg (Ne.symm hpo)];exact hp
 obtain⟨hconf,hblk⟩:=hM.obs p _ hpM
 refine⟨_,hM.reobj hpM ⟨?_,?_⟩,fun k hk=>?_⟩
 ·obtain⟨x,hx,hc⟩:=hconf
  injection hx with hx;subst hx
  cases hc with
  | leaf h1 h2 h3 h4=>exact⟨_,rfl,.leaf h1 h2 h3 rfl⟩
 ·split
  ·rename_i hn
   rw[hn] at hblk
   obtain⟨⟨_,q⟩,_⟩:=hblk
   cases q
  ·rename_i k hk
   rw[hk] at hblk
   obtain⟨q1,arr,e,q2,q3⟩:=hblk
   refine⟨q1,arr,e,q2,fun j x hx=>?_⟩
   have hj:j=0:=by
    have hlt:j < (leavesL [AV.own c t 0 n]).length:=(List.getElem?_eq_some_iff.1 hx).1
    simp[leavesL,leaves] at hlt
    omega
   subst hj
   have hx':AV.own c t 0 n=x:=by simpa[leavesL,leaves] using hx
   subst hx'
   obtain⟨z,r1,r2⟩:=q3 0 (.own o t 0 n) (by simp[leavesL,leaves])
   refine⟨z,r1,?_⟩
   show OR _ _ _
   have r2:OR _ (.own o t 0 n) z:=r2
   cases r2 with
   | cl h1=>cases h1
   | ownN o t g=>
     refine .ownN c t ?_
     have g:(if o=c then β o else β o)=none:=g
     show (if c=c then β o else β c)=none
     simpa using g
   | own o t off n k2 cp arr2 e2 g1 g2 g3 g4=>
     refine .own c t 0 n k2 cp arr2 e2 ?_ g2 g3 g4
     have g1:(if o=c then β o else β o)=some k2:=g1
     show (if c=c then β o else β c)=some k2
     simpa using g1
 ·obtain⟨q,b,h1,h2⟩:=hk
  simp only[aget_aput,aget_adel] at h1
  simp only at h2
  split at h1
  ·rename_i e;subst e
   rw[if_neg hpc] at h2
   exact⟨p,_,hp,h2⟩
  ·split at h1
   ·rename_i e;subst e
    rw[if_pos rfl] at h2
    exact⟨o,_,ho,h2⟩
   ·rename_i e1 e2
    rw[if_neg (Ne.symm e2)] at h2
    split at h1
    ·cases h1
    ·exact⟨q,b,h1,h2⟩
end
def aputT (ps:List Nat) (y:List AV) (tm:List (Nat × AV)):List (Nat × AV):=(ps.zip y).foldl (fun l q=>aput q.1 q.2 l) tm
def RenOk (E:Env) (w0:World) (tm:List (Nat × AV)) (ob ob2:List (Nat × Obj)):Prop:=
 ∀ (a:Act) (w:World) (β:Nat→Option Nat),Sim E w0 ⟨tm,ob⟩ a w β→∃ β',Sim E w0 ⟨tm,ob2⟩ a w β'∧∀ k,ownB ⟨tm,ob2⟩ β' k→ownB ⟨tm,ob⟩ β k
theorem RenOk.refl (E:Env) (w0:World) (tm:List (Nat × AV)) (ob:List (Nat × Obj)):RenOk E w0 tm ob ob:=fun _ _ β h=>⟨β,h,fun _ hk=>hk⟩
inductive Rounds (ren:List (Nat × Obj)→List (Nat × Obj)→Prop) (run:Code→St→AX × St→Prop) (ps:List Nat) (assign body:Code) (S:List Nat) (tm:List (Nat × AV)):List (List AV)→List (Nat × Obj)→AX→List (Nat × Obj)→Prop
 | done (ob:List (Nat × Obj)):Rounds ren run ps assign body S tm [] ob .norm ob
 | goes {y:List AV} {r:List (List AV)} {ob ob2 ob':List (Nat × Obj)} {σ2 σ3:St} {e:AX}:y.length=ps.length→(∀ x ∈ y,oldV x=true)→run assign ⟨aputT ps y tm,ob⟩ (.norm,σ2)→run body σ2 (.norm,σ3)→keepL σ3.tm S=tm→ren σ3.ob ob2→
    Rounds ren run ps assign body S tm r ob2 e ob'→Rounds ren run ps assign body S tm (y::r) ob e ob'
 | stops {y:List AV} {r:List (List AV)} {ob:List (Nat × Obj)} {σ2 σ3:St} {i:Nat}:y.length=ps.length→(∀ x ∈ y,oldV x=true)→run assign ⟨aputT ps y tm,ob⟩ (.norm,σ2)→run body σ2 (.exit i,σ3)→keepL σ3.tm S=tm→
    Rounds ren run ps assign body S tm (y::r) ob (.exit i) σ3.ob
section
variable {P:Program} {E:Env} {w0 w:World} {σ:St} {a:Act} {β:Nat→Option Nat}
theorem fn_inv {c:Cx} {f:FuncId} {cs:List AV} {v:Value} (h:VR c (.fn f cs) v) (hc:closed.closedL cs=true):∃ us:Array Value,v = .func (.func f) #[] us∧us.size=cs.length∧∀ (i:Nat) (x:AV),cs[i]? = some x→LR c.ty c.w (fun b=>¬ c.mu b) x (us.getD i undef):=by
 have h':OR c (.fn f cs) v:=h
 cases h' with
 | cl h1=>
   cases h1 with
   | fn f cs us q1 q2=>exact⟨us,rfl,q1,fun i x hx=>(q2 i x hx).mono fun b hb hl=>⟨hb.1,hl,rfl⟩⟩
 | fn f cs us q1 q2=>exact⟨us,rfl,q1,fun i x hx=>((q2 i x hx).lr (closedL_mem hc x (List.mem_of_getElem? hx)) (fr:=false) (fun e=>by cases e)).mono fun b hb hl=>⟨hb.1,hl,rfl⟩⟩
theorem old_vr {c:Cx} {okb:Nat→Prop} {x:AV} {v:Value} (hx1:CR1 c.ty c.w (fun _=>okb) x v) (hold:oldV x=true) (hm:∀ k,okb k→k < c.w.heap.size→¬ c.mu k):VR c x v:=by
 refine VR_one ?_
 cases x with
 | st u fs=>obtain⟨us,e,hc,hF⟩:=hx1;exact⟨us,e,hc,hF.1,fun i y z hy hz=>old_or hm (hF.2 i y z hy hz) (old_leaf hc hold y (List.mem_of_getElem? hy))⟩
 | ar u fs=>obtain⟨us,e,hc,hF⟩:=hx1;exact⟨us,e,hc,hF.1,fun i y z hy hz=>old_or hm (hF.2 i y z hy hz) (old_leaf hc hold y (List.mem_of_getElem? hy))⟩
 | tup _=>exact hx1.elim
 | _=>exact old_or hm hx1 hold
theorem Sim.params:∀ (ps:List Nat) (y:List AV) (ws:List Value) (σ:St) (a:Act),Sim E w0 σ a w β→ps.length=y.length→F2 (VR (cxOf E w0 σ w β)) y ws→(∀ p ∈ ps,p < E.n)→
 ∃ σ',σ'.ob=σ.ob∧σ'.tm=aputT ps y σ.tm∧Sim E w0 σ' { a with tmps:=(ps.zip ws).foldl (fun t q=>t.setIfInBounds q.1 q.2) a.tmps } w β
 | [],y,ws,σ,a,h,_,_,_=>⟨σ,rfl,by simp[aputT],by simpa using h⟩
 | p::ps,y,ws,σ,a,h,hl,hv,hp=>by
   cases y with
   | nil=>simp at hl
   | cons x y=>
     cases ws with
     | nil=>exact absurd hv.1 (by simp)
     | cons v ws=>
       have h1:=h.put (hp p (List.mem_cons_self ..)) (hv.2 0 x v rfl rfl)
       obtain⟨σ',e1,e2,h2⟩:=Sim.params ps y ws ⟨aput p x σ.tm,σ.ob⟩ _ h1 (by simpa using hl) ⟨by simpa using hv.1,fun i x' v' hx hv'=>hv.2 (i+1) x' v' (by simpa using hx) (by simpa using hv')⟩ fun q hq=>hp q (List.mem_cons_of_mem _ hq)
       exact⟨σ',e1,by simpa[aputT] using e2,by simpa[Act.put] using h2⟩
theorem cr1_leaf {ty:Tys} {w:World} {okb:Bool→Nat→Prop} {x:AV} {v:Value} (h:LR ty w (okb (frOf x)) x v):CR1 ty w okb x v:=by
 have:=h.leaf
 cases x <;> first | exact h | cases this
theorem Sim.book2 (h:Sim E w0 σ a w β) {l:Nat} {o:Go.Obj} (hl:l < w0.heap.size) (h0:w0.heap[l]? = some o) (h1:w.heap[l]? = some o) (hb:bookO o=true) (o':Go.Obj):Sim E (w0.putObj l o') σ a (w.putObj l o') β:=by
 have hB:=Books.put (w:=w) h1 hb o'
 have hsz:(w0.putObj l o').heap.size=w0.heap.size:=World.putObj_size
 have hcx:cxOf E (w0.putObj l o') σ (w.putObj l o') β=(cxOf E w0 σ w β).at (w.putObj l o'):=by
  simp only[cxOf,Cx.at,hsz]
 exact {
  below:=⟨h.below.os,h.below.tape,h.below.output,by rw[hsz];simpa using h.below.size,fun k hk hL=>by
   rw[hsz] at hk
   by_cases e:k=l
   ·subst e
    rw[World.putObj_heap_same hk,World.putObj_heap_same (by have:=h.below.size;omega)]
   ·rw[World.putObj_heap_other e,World.putObj_heap_other e]
    exact h.below.block k hk hL,fun b arr e hk=>by
   by_cases e1:b=l
   ·subst e1
    rw[World.putObj_heap_same hl] at hk
    exact⟨arr,by rw[World.putObj_heap_same (by have:=h.below.size;omega)];exact hk,rfl⟩
   ·rw[World.putObj_heap_other e1] at hk ⊢
    exact h.below.rows b arr e hk⟩
  size:=h.size
  defers:=by
   rw[hsz]
   refine⟨fun d hd=>?_,h.defers.2⟩
   obtain⟨D,q1,q2,q3⟩:=h.defers.1 d hd
   exact⟨D,q1,q2,by rw[World.putObj_heap_other (by omega)];exact q3⟩
  tms:=fun t x hx=>⟨(h.tms t x hx).1,by rw[hcx];exact (h.tms t x hx).2.book (c:=cxOf E w0 σ w β) hB⟩
  obs:=fun o b ho=>by rw[hcx];exact (h.obs o b ho).book (c:=cxOf E w0 σ w β) hB
  inj:=h.inj }
theorem kept_params {S:List Nat}:∀ (ps:List Nat) (ws:List Value) (t:Array Value),(∀ p ∈ ps,p ∉ S)→∀ u ∈ S,((ps.zip ws).foldl (fun t q=>t.setIfInBounds q.1 q.2) t).getD u undef=t.getD u undef
 | [],ws,t,_,u,_=>by simp
 | p::ps,[],t,_,u,_=>by simp
 | p::ps,v::ws,t,h,u,hu=>by
   simp only[List.zip_cons_cons,List.foldl_cons]
   rw[kept_params ps ws _ (fun q hq=>h q (List.mem_cons_of_mem _ hq)) u hu]
   have hne:p ≠ u:=by rintro rfl;exact h p (List.mem_cons_self ..) hu
   simp only[Array.getD_eq_getD_getElem?,Array.getElem?_setIfInBounds_ne hne]
theorem reE_glob (hG:GlobOk E w0) (h:Sim E w0 σ a w β) {w2:World} (hb:Books w w2):GlobOk (reE E w0 σ w β) w2:=fun g t x hg=>by
 have:=(h.old (hG g t x hg)).book hb
 exact this.mono fun b hb2 hl=>⟨hb2.1,hl,rfl⟩
def Left (E:Env) (w0:World) (tm:List (Nat × AV)) (a:Act) (ob ob':List (Nat × Obj)) (β:Nat→Option Nat) (W W':World):Prop:=
 ∃ β',Sim E w0 ⟨tm,ob'⟩ a W' β'∧(∀ k,ownB ⟨tm,ob'⟩ β' k→(ownB ⟨tm,ob⟩ β k∨W.heap.size≤k)∧k < W'.heap.size)∧Alike (ownB ⟨tm,ob⟩ β) W W'
theorem one_round (hZ:∀ id,E.Z id=[]) (hT:Tabs P E.ty) (hC:CSound P E) (hG:GlobOk E w0) (hlo:E.lo=none) (hL:∀ k,¬ E.lent k) {H:Nat→Hint} {k:Nat} {S:List Nat} {tm:List (Nat × AV)} {ob:List (Nat × Obj)} {W:World} (hid:keepL tm S=tm)
 (h:Sim E w0 ⟨tm,ob⟩ a W β) {l:Nat} {R:Loop} (hR:W.heap[l]? = some (.loop R)) (hready:R.state = .ready) (hl0:w0.heap.size≤l) (hRt:R.tmps=a.tmps)
 {y:List AV} {ws:List Value} {okb:Nat→Prop} (hyl:y.length=R.params.size) (hold:∀ x ∈ y,oldV x=true) (hy:F2 (CR1 E.ty W fun _=>okb) y ws) (hok:∀ b,okb b→b < W.heap.size→¬ (cxOf E w0 ⟨tm,ob⟩ W β).mu b)
 (hps:∀ p ∈ R.params.toList,p < E.n∧p ∉ S) (hsa:straight S R.assign=true) (hsb:straight S R.body=true) {σ2 σ3:St} {e:AX} (he:e = .norm∨∃ i,e = .exit i)
 (hra:∀ A lo L,arun { E with okA:=A,lo:=lo,lent:=L } H k R.assign ⟨aputT R.params.toList y tm,ob⟩=some (.norm,σ2)) (hrb:∀ A lo L,arun { E with okA:=A,lo:=lo,lent:=L } H k R.body σ2=some (e,σ3)) (hke:keepL σ3.tm S=tm) :
 YieldAt Fence.wide 0 P l ws.toArray W fun en W'=>∃ jump,en = .returned (.bool jump.isNone)∧(match e with | .exit i=>jump=some (.exit i) | _=>jump=none)∧
  W'.heap[l]? = some (.loop { R with state:=if jump.isNone then .ready else .done,pending:=jump })∧Left E w0 tm a ob σ3.ob β W W':=by
 have hlt:l < W.heap.size:=(Array.getElem?_eq_some_iff.1 hR).1
 have hwl:ws.length=R.params.size:=by rw[← hyl];exact hy.1.symm
 refine⟨R.fn,_,R.assign,R.body,run_yield hR (by simpa using hwl),?_⟩
 have hnl:¬ ownB ⟨tm,ob⟩ β l:=fun ho=>by obtain⟨_,_,h3,_⟩:=own_cells h ho;rw[hR] at h3;cases h3
 have hnl':¬ lentOf (reE E w0 ⟨tm,ob⟩ W β) l:=fun ho=>hnl ho.1
 have hB0:=h.rebase hlo (tm:=R.tmps) hRt
 have hC':CSound P (reE E w0 ⟨tm,ob⟩ W β):=⟨hC.c,hC.m⟩
 have hyv:F2 (VR (cxOf (reE E w0 ⟨tm,ob⟩ W β) W ⟨tm,ob⟩ W β)) y ws:=⟨hy.1,fun i x v hx hv=>old_vr (c:=cxOf (reE E w0 ⟨tm,ob⟩ W β) W ⟨tm,ob⟩ W β) (hy.2 i x v hx hv) (hold x (List.mem_of_getElem? hx)) fun b hb hlt hmu=>by
  rcases hmu with ⟨_,h2⟩ | h2
  ·exact h2 (hok b hb hlt)
  ·exact hok b hb hlt (.inr h2)⟩
 obtain⟨σp,e1,e2,hP⟩:=hB0.params R.params.toList y ws _ _ (by simpa using hyl.symm) hyv (fun p hp=>(hps p hp).1)
 have hσp:σp=⟨aputT R.params.toList y tm,ob⟩:=by cases σp;simp only at e1 e2;rw[e1,e2]
 subst hσp
 have hfold:(R.params.zip ws.toArray).foldl (fun tmps (t,a)=>tmps.setIfInBounds t a) R.tmps=(R.params.toList.zip ws).foldl (fun t q=>t.setIfInBounds q.1 q.2) R.tmps:=by
  rw[← Array.foldl_toList,Array.toList_zip]
 rw[hfold]
 refine roundIn_of_wpIn trivial (wpIn_mono (round_sound (E:=reE E w0 ⟨tm,ob⟩ W β) (S:=S) hZ hT hC' (reE_glob hG h (.refl W)) (easy_round l 0) R.assign _ σ2 .norm hsa (hra _ _ _) _ W β hP) fun ex a2 W2 hp=>?_)
 obtain⟨hex,⟨β2,hS2⟩,hk2⟩:=hp
 subst hex
 have hl2:W2.heap[l]? = some (.loop R):=(hS2.below.block l hlt hnl').trans hR
 refine⟨_,run_beginRound hl2 hready,?_⟩
 have hS3:=hS2.book2 hlt hR hl2 rfl (.loop { R with state:= .busy })
 have hBk:=Books.put (w:=W) hR rfl (.loop { R with state:= .busy })
 refine wpIn_mono (round_sound (E:=reE E w0 ⟨tm,ob⟩ W β) (S:=S) hZ hT hC' (reE_glob hG h hBk) (easy_round l 0) R.body σ2 σ3 e hsb (hrb _ _ _) a2 _ β2 hS3) fun ex a4 W4 hp=>?_
 obtain⟨hex,⟨β4,hS4⟩,hk4⟩:=hp
 subst hex
 have hlt1:l < (W.putObj l (.loop { R with state:= .busy })).heap.size:=by simpa using hlt
 have hR1:(W.putObj l (.loop { R with state:= .busy })).heap[l]? = some (.loop { R with state:= .busy }):=World.putObj_heap_same hlt
 have hl4:W4.heap[l]? = some (.loop { R with state:= .busy }):=(hS4.below.block l hlt1 hnl').trans hR1
 have hkk:∀ u ∈ S,a4.tmps.getD u undef=a.tmps.getD u undef:=fun u hu=>by
  rw[(hk2.trans hk4).1 u hu]
  show ((R.params.toList.zip ws).foldl (fun t q=>t.setIfInBounds q.1 q.2) R.tmps).getD u undef=_
  rw[kept_params _ _ _ (fun p hp=>(hps p hp).2) u hu,hRt]
 have key:∀ (o5:Go.Obj),bookO o5=true→Left E w0 tm a ob σ3.ob β W (W4.putObj l o5):=fun o5 ho5=>by
  have hS5:=hS4.book2 hlt1 hR1 hl4 rfl o5
  have hBB:Books W ((W.putObj l (.loop { R with state:= .busy })).putObj l o5):=hBk.trans (Books.put hR1 rfl o5)
  have hh:=h.book hBB (fun k hk=>by rw[World.putObj_heap_other (by omega),World.putObj_heap_other (by omega)]) (ds:=a.defers) (h.defers.to fun k hk=>by
   have hne:k ≠ l:=by rintro rfl;rw[hR] at hk;cases hk
   rw[World.putObj_heap_other hne,World.putObj_heap_other hne];exact hk)
  have hback:=Sim.back (S:=S) hh hlo hL hS5 (by rw[hke,hid]) hkk
  rw[hid] at hback
  refine⟨β4,hback,fun k hk=>?_,?_⟩
  ·obtain⟨arr,e',q1,q2⟩:=own_cells hS5 hk
   refine⟨?_,(Array.getElem?_eq_some_iff.1 q1).1⟩
   rcases q2 with q2 | q2
   ·exact .inr (by simpa using q2)
   ·exact .inl q2.1
  ·refine⟨hS5.below.os,hS5.below.tape,hS5.below.output,by have:=hS5.below.size;simpa using this,fun k o hk hT ho=>?_⟩
   have hne:k ≠ l:=by rintro rfl;rw[hR] at hk;cases hk;cases ho
   rw[hS5.below.block k (by simpa using (Array.getElem?_eq_some_iff.1 hk).1) fun hh=>hT hh.1,World.putObj_heap_other hne,World.putObj_heap_other hne]
   exact hk
 rcases he with rfl | ⟨i,rfl⟩
 ·exact⟨_,_,run_endRound none hl4,none,rfl,rfl,by rw[World.putObj_heap_same (Array.getElem?_eq_some_iff.1 hl4).1],key _ rfl⟩
 ·exact⟨_,_,run_endRound (some (.exit i)) hl4,some (.exit i),rfl,rfl,by rw[World.putObj_heap_same (Array.getElem?_eq_some_iff.1 hl4).1],key _ rfl⟩
end
end Go.Abs
end
section
namespace Go.Abs
open Go Go.RowKit
variable {P:Program} {E:Env} {w0 w:World} {σ:St} {a:Act} {β:Nat→Option Nat}
theorem range_law (hZ:∀ id,E.Z id=[]) (hT:Tabs P E.ty) (hC:CSound P E) (hG:GlobOk E w0) (hlo:E.lo=none) (hL:∀ k,¬ E.lent k) {H:Nat→Hint} {k:Nat} {S:List Nat} {tm:List (Nat × AV)} (hid:keepL tm S=tm)
 {gf:Nat} {caps:List AV} {ys:List (List AV)} (hit:Iter P E.ty E.G gf caps ys) (hcl:closed.closedL caps=true) (eg:∀ args w,(callFunc gf args).run P w = .ok (.enter gf args) w)
 (h:Sim E w0 σ a w β) (htm:keepL σ.tm S=tm) {g:Operand} (hg:σ.val E.G g=some (.fn gf caps)) {ps:Array Tmp} {assign body:Code} (hps:∀ p ∈ ps.toList,p < E.n∧p ∉ S) (hsa:straight S assign=true) (hsb:straight S body=true)
 {ren:List (Nat × Obj)→List (Nat × Obj)→Prop} (hren:∀ ob ob2,ren ob ob2→RenOk E w0 tm ob ob2) {e:AX} {ob':List (Nat × Obj)} (hr:Rounds ren (fun c σ r=>∀ A lo L,arun { E with okA:=A,lo:=lo,lent:=L } H k c σ=some r) ps.toList assign body S tm ys σ.ob e ob') :
 (Code.rangeFunc g ps assign body).wpIn Fence.wide 0 P (fun ex a' w'=>ex=exOf e∧∃ β',Sim E w0 ⟨tm,ob'⟩ a' w' β') a w:=by
 obtain⟨us,hev,hus,hcap⟩:=fn_inv (val_sound h hG hg) hcl
 refine wpIn_rangeFunc ?_
 intro fn _
 obtain⟨rec,hrec⟩:∃ rec:LoopState→Option Code→Loop,rec=fun st pe=>{ state:=st,pending:=pe,fn,tmps:=a.tmps,params:=ps,assign,body,defers:=w.heap.size }:=⟨_,rfl⟩
 obtain⟨W1,hW1⟩:∃ W1,(w.alloc (.deferred (some []))).alloc (.loop (rec .ready none))=W1:=⟨_,rfl⟩
 have hL1:W1.heap[w.heap.size+1]? = some (.loop (rec .ready none)):=by
  rw[← hW1];have:=World.alloc_heap_new (w.alloc (.deferred (some []))) (.loop (rec .ready none));rwa [World.size_alloc] at this
 have hK1:W1.heap[w.heap.size]? = some (.deferred (some [])):=by
  rw[← hW1];exact (Below.heap_alloc _ _ _ (by simp)).trans (World.alloc_heap_new w _)
 have hb1:Below w.heap.size w W1:=by
  rw[← hW1];exact ((Below.refl _ w).alloc (Nat.le_refl _) _).alloc (by simp) _
 have hsz:=h.below.size
 have hds:Marks w0.heap.size ({ target:= .collected w.heap.size,args:=#[] }::a.defers) W1:=by
  have hm:=h.defers.below hb1
  refine⟨fun d hd=>?_,List.pairwise_cons.2 ⟨fun d hd e=>?_,hm.2⟩⟩
  ·rcases List.mem_cons.1 hd with rfl | hd
   ·exact⟨_,rfl,hsz,hK1⟩
   ·exact hm.1 d hd
  ·obtain⟨D,q1,q2,q3⟩:=h.defers.1 d hd
   rw[q1] at e
   injection e with e1 e2
   injection e1 with e1
   rw[← e1] at q3
   have:=(Array.getElem?_eq_some_iff.1 q3).1
   omega
 obtain⟨aM,haM⟩:∃ aM:Act,({ a with defers:={ target:= .collected w.heap.size,args:=#[] }::a.defers }:Act)=aM:=⟨_,rfl⟩
 have haMt:aM.tmps=a.tmps:=by rw[← haM]
 have hS1:Sim E w0 ⟨tm,σ.ob⟩ aM W1 β:=by
  have h0:Sim E w0 ⟨tm,σ.ob⟩ a w β:=h.less (fun t x hx=>by rw[← htm] at hx;exact keepL_get _ _ t x hx) (fun o b hb=>hb)
  rw[← haM]
  exact h0.book (Books.below hb1) (fun k hk=>hb1.block k (by omega)) hds
 refine⟨w.heap.size+1,[{ target:= .collected w.heap.size,args:=#[] }],W1,{ target:= .fn (.func gf) us,args:=#[.func (.yield (w.heap.size+1)) #[] #[]] },W1,gf,
  #[.func (.yield (w.heap.size+1)) #[] #[]]++us,W1,?_,?_,fun _ _=>trivial,?_,fun hd=>by simp[Fence.wide] at hd,?_⟩
 ·rw[← hW1,hrec];exact run_enterLoop_outer _ _ _ _ _
 ·simp only[resolve,hev]
  simp[go_sem]
 ·simp[invoke,go_sem,eg]
 ·
  have hl0:w0.heap.size≤w.heap.size+1:=by omega
  have hcs:F2 (CR1 E.ty W1 fun _ b=>¬ (cxOf E w0 σ w β).mu b) caps us.toList:=by
   refine⟨by simp[hus],fun i x v hx hv=>?_⟩
   have:=hcap i x hx
   have hi:us.getD i undef=v:=by
    rw[Array.getD_eq_getD_getElem?,← Array.getElem?_toList,hv];rfl
   rw[hi] at this
   exact cr1_leaf (this.book (Books.below hb1))
  have hgl:∀ g t x,E.G g=some (t,x)→LR E.ty W1 (fun b=>¬ (cxOf E w0 σ w β).mu b) (.ro false t x) (.pointer (some ⟨g,0,none⟩)):=fun g t x hg=>
   ((h.old (hG g t x hg)).book (Books.below hb1)).mono fun b hb hl=>⟨hb.1,hl,rfl⟩
  have hown:∀ (ob:List (Nat × Obj)) (β':Nat→Option Nat) (W:World) (a':Act),Sim E w0 ⟨tm,ob⟩ a' W β'→∀ b,((¬ (cxOf E w0 σ w β).mu b∨W1.heap.size≤b)∧¬ ownB ⟨tm,ob⟩ β' b)→b < W.heap.size→¬ (cxOf E w0 ⟨tm,ob⟩ W β').mu b:=fun ob β' W a' _ b hb _ hmu=>by
   rcases hmu with ⟨q1,q2⟩ | q2
   ·rcases hb.1 with q3 | q3
    ·exact q3 (.inl ⟨q1,q2⟩)
    ·have:=hb1.size;omega
   ·exact hb.2 q2
  have hyield:#[Value.func (.yield (w.heap.size+1)) #[] #[]]++us = #[Value.func (.yield (w.heap.size+1)) #[] #[]]++us.toList.toArray:=by simp
  rw[hyield]
  refine CallsIn.mono (hit (fun b=>¬ (cxOf E w0 σ w β).mu b) W1 us.toList hcs hgl (w.heap.size+1)
   (fun i T W=>∃ ob β',Rounds ren (fun c σ r=>∀ A lo L,arun { E with okA:=A,lo:=lo,lent:=L } H k c σ=some r) ps.toList assign body S tm (ys.drop i) ob e ob'∧Sim E w0 ⟨tm,ob⟩ aM W β'∧T=ownB ⟨tm,ob⟩ β'∧W.heap[w.heap.size+1]? = some (.loop (rec .ready none)))
   (fun W=>∃ β' i,e = .exit i∧Sim E w0 ⟨tm,ob'⟩ aM W β'∧W.heap[w.heap.size+1]? = some (.loop (rec .done (some (.exit i)))))
   (ownB ⟨tm,σ.ob⟩ β) (fun k hk ho=>hk (.inr ho)) (fun k hk=>by obtain⟨_,_,h3,_⟩:=own_cells hS1 hk;exact (Array.getElem?_eq_some_iff.1 h3).1) ?_ ?_ ⟨σ.ob,β,by simpa using hr,hS1,rfl,hL1⟩ ?_) ?_
  ·rintro i T W W' ⟨ob,β',q1,q2,q3,q4⟩ hb
   exact⟨ob,β',q1,q2.grow hb,q3,by rw[hb.block _ (Array.getElem?_eq_some_iff.1 q4).1];exact q4⟩
  ·rintro W W' ⟨β',i,q1,q2,q3⟩ hb
   exact⟨β',i,q1,q2.grow hb,by rw[hb.block _ (Array.getElem?_eq_some_iff.1 q3).1];exact q3⟩
  ·rintro i y T W ws hy ⟨ob,β',q1,q2,rfl,q4⟩ hws
   have hd:ys.drop i=y::ys.drop (i+1):=by
    obtain⟨hi,e⟩:=List.getElem?_eq_some_iff.1 hy
    rw[List.drop_eq_getElem_cons hi,e]
   rw[hd] at q1
   cases q1 with
   | goes g1 g2 g3 g4 g5 g7 g6=>
     have:=one_round hZ hT hC hG hlo hL hid q2 q4 (by rw[hrec]) hl0 (by rw[hrec];exact haMt.symm) (y:=y) (ws:=ws) (by rw[hrec];simpa using g1) g2 hws (hown ob β' W aM q2) (by rw[hrec];exact hps) (by rw[hrec];exact hsa) (by rw[hrec];exact hsb) (e:= .norm) (.inl rfl)
      (by rw[hrec];exact g3) (by rw[hrec];exact g4) g5
     obtain⟨fn',tmps,az,bd,hyd,hR⟩:=this
     refine⟨fn',tmps,az,bd,hyd,hR.mono fun en W' hq=>?_⟩
     obtain⟨jump,rfl,hj,hrl,β2,hS2,ho2,hA2⟩:=hq
     subst hj
     obtain⟨β3,hS3,ho3⟩:=hren _ _ g7 _ _ _ hS2
     exact .inl ⟨rfl,_,⟨_,β3,g6,hS3,rfl,by rw[hrl,hrec];rfl⟩,fun k hk=>ho2 k (ho3 k hk),hA2⟩
   | stops g1 g2 g3 g4 g5=>
     rename_i σ2 σ3 i2
     have:=one_round hZ hT hC hG hlo hL hid q2 q4 (by rw[hrec]) hl0 (by rw[hrec];exact haMt.symm) (y:=y) (ws:=ws) (by rw[hrec];simpa using g1) g2 hws (hown ob β' W aM q2) (by rw[hrec];exact hps) (by rw[hrec];exact hsa) (by rw[hrec];exact hsb) (e:= .exit i2) (.inr ⟨_,rfl⟩)
      (by rw[hrec];exact g3) (by rw[hrec];exact g4) g5
     obtain⟨fn',tmps,az,bd,hyd,hR⟩:=this
     refine⟨fn',tmps,az,bd,hyd,hR.mono fun en W' hq=>?_⟩
     obtain⟨jump,rfl,hj,hrl,β2,hS2,ho2,hA2⟩:=hq
     subst hj
     exact .inr ⟨rfl,⟨β2,i2,rfl,hS2,by rw[hrl,hrec];rfl⟩,hA2⟩
  ·rintro en W' ⟨⟨v,rfl⟩,hq⟩
   rcases hq with ⟨T,ob,β',q1,q2,_,q4⟩ | ⟨β',i,rfl,q2,q4⟩
   ·rw[List.drop_length] at q1
    cases q1
    have hend:=run_endLoop (P:=P) q4 (by rw[hrec];simp)
    have hpe:(rec .ready none).pending=none:=by rw[hrec]
    rw[hpe] at hend
    refine⟨none,_,hend,?_⟩
    refine⟨rfl,β',?_⟩
    have:=q2.book (ds:=aM.defers) (Books.put q4 rfl (.loop { rec .ready none with state:= .exhausted })) (fun k hk=>World.putObj_heap_other (by omega)) (q2.defers.to fun k hk=>by
     have hne:k ≠ w.heap.size+1:=by rintro rfl;rw[q4] at hk;cases hk
     rw[World.putObj_heap_other hne];exact hk)
    rw[List.singleton_append,haM]
    simp only[hpe] at this
    exact this
   ·have hend:=run_endLoop (P:=P) q4 (by rw[hrec];simp)
    have hpe:(rec .done (some (.exit i))).pending=some (.exit i):=by rw[hrec]
    rw[hpe] at hend
    refine⟨some (.exit i),_,hend,?_⟩
    refine wpIn_exit ⟨rfl,β',?_⟩
    have:=q2.book (ds:=aM.defers) (Books.put q4 rfl (.loop { rec .done (some (.exit i)) with state:= .exhausted })) (fun k hk=>World.putObj_heap_other (by omega)) (q2.defers.to fun k hk=>by
     have hne:k ≠ w.heap.size+1:=by rintro rfl;rw[q4] at hk;cases hk
     rw[World.putObj_heap_other hne];exact hk)
    rw[List.singleton_append,haM]
    simp only[hpe] at this
    exact this
end Go.Abs
end
section
namespace Go.Abs
open Go Go.RowKit
theorem LR.alike {ty:Tys} {w w':World} {T okb:Nat→Prop} {x:AV} {v:Value} (h:LR ty w okb x v) (hA:Alike T w w') (hd:∀ b,okb b→¬ T b):LR ty w' okb x v:=by
 have hc:∀ {a:Addr} {v:Value},okb a.block→w.cell? a=some v→w'.cell? a=some v:=fun {a v} hb hc=>by
  have:∃ o:Go.Obj,w.heap[a.block]? = some o∧bookO o=false:=by
   unfold World.cell? at hc
   cases ho:w.heap[a.block]? with
   | none=>simp[ho] at hc
   | some o=>exact⟨o,rfl,by cases o <;> simp_all [bookO]⟩
  obtain⟨o,h1,h2⟩:=this
  rw[← hc]
  exact World.cell?_of_block ((hA.same _ o h1 (hd _ hb) h2).trans h1.symm)
 induction h with
 | int k n=>exact .int k n
 | bool b=>exact .bool b
 | str s=>exact .str s
 | pnil=>exact .pnil
 | fnil=>exact .fnil
 | fn f cs us h1 _ ih=>exact .fn f cs us h1 ih
 | slN t fl c h1 h2=>exact .slN t fl c h1 h2
 | sl t fl es blk off c vs h1 h2 h3 h4 h5 h6 h7 ih=>
   exact .sl t fl es blk off c vs h1 h2 h3 (fun hne=>⟨(h4 hne).1,Nat.lt_of_lt_of_le (h4 hne).2 hA.size⟩) h5 (fun j y hy=>hc (h4 (by rintro rfl;simp[leavesL] at hy)).1 (h6 j y hy)) ih
 | ro fr t x blk off vs h1 h2 h3 h4 h5 ih=>exact .ro fr t x blk off vs h1 (Nat.lt_of_lt_of_le h2 hA.size) h3 (fun j y hy=>hc h1 (h4 j y hy)) ih
 | mpN t=>exact .mpN t
 | mp t ks fs blk es cl h1 h2 h3 h3' h4 h5 h6=>exact .mp t ks fs blk es cl h1 (Nat.lt_of_lt_of_le h2 hA.size) h3 h3' (hA.same _ _ h4 (hd _ h1) rfl) h5 h6
structure Wk (n:Nat) (ty:Tys) (G:Globs) (okA:Nat→Prop) (B:Nat) (J:Nat→(Nat→Prop)→World→Prop) (T0:Nat→Prop) (cap:AV) (yv u:Value) (i:Nat) (a:Act) (W:World):Prop where
 j:∃ T,J i T W∧∀ k,T k→(T0 k∨B≤k)∧k < W.heap.size
 low:B≤W.heap.size
 cap:LR ty W okA cap u
 glob:∀ g t x,G g=some (t,x)→LR ty W okA (.ro false t x) (.pointer (some ⟨g,0,none⟩))
 size:a.tmps.size=n
 defers:a.defers=[]
 t0:a.tmps.getD 0 undef=yv
 t1:a.tmps.getD 1 undef=u
theorem aget_memI {α:Type} {t:Nat} {x:α}:∀ {l:List (Nat × α)},aget t l=some x→(t,x) ∈ l
 | [],h=>by simp[aget] at h
 | (u,y)::r,h=>by
   simp only[aget] at h
   split at h
   ·rename_i e;injection h with h;subst h;subst e;exact List.mem_cons_self ..
   ·exact List.mem_cons_of_mem _ (aget_memI h)
def Holds (a:Act) (p:Nat × AV):Prop:=(∃ n,p.2 = .int .i64 n∧a.tmps.getD p.1 undef = .int .i64 n)∨∃ b,p.2 = .bool b∧a.tmps.getD p.1 undef = .bool b
section
variable {P:Program} {E:Env} {okA T0:Nat→Prop} {B:Nat} {J:Nat→(Nat→Prop)→World→Prop} {ft:TypeId} {cx:AV} {yv u:Value} {i:Nat} {a:Act} {W:World}
theorem Wk.sim (hw:Wk E.n E.ty E.G okA B J T0 (.ro false ft cx) yv u i a W) (hok:E.okA=okA) (h2:2≤E.n) {l:List (Nat × AV)} (hl:∀ p ∈ l,p.1 < E.n∧Holds a p):Sim E W ⟨(0,.undef)::(1,.ro false ft cx)::l,[]⟩ a W (fun _=>none) where
 below:= .refl _ _ _
 size:=hw.size
 defers:=by rw[hw.defers];exact .nil _ _
 tms:=fun t x hx=>by
  have hm:=aget_memI hx
  rcases List.mem_cons.1 hm with h | hm
  ·injection h with h1 h2;subst h1;subst h2
   exact⟨by omega,.undef _⟩
  ·rcases List.mem_cons.1 hm with h | hm
   ·injection h with h1 h2;subst h1;subst h2
    refine⟨by omega,?_⟩
    rw[hw.t1]
    refine VR_one ?_
    show OR _ _ _
    refine .cl (hw.cap.mono fun b hb hl=>⟨⟨fun hmu=>?_,fun hf=>by cases hf⟩,hl,rfl⟩)
    rcases hmu with ⟨_,q⟩ | ⟨_,_,q,_⟩
    ·rw[hok] at q;exact q hb
    ·simp[aget] at q
   ·obtain⟨h1,h2⟩:=hl _ hm
    refine⟨h1,?_⟩
    rcases h2 with ⟨n,q1,q2⟩ | ⟨b,q1,q2⟩
    ·simp only at q1 q2;rw[q1,q2];exact OR.cl (.int _ _)
    ·simp only at q1 q2;rw[q1,q2];exact OR.cl (.bool _)
 obs:=fun o b hb=>by simp[aget] at hb
 inj:=fun o o' b b' k h1=>by simp[aget] at h1
theorem Wk.piece (hw:Wk E.n E.ty E.G okA B J T0 (.ro false ft cx) yv u i a W) (hJ:∀ i T W W',J i T W→Below W.heap.size W W'→J i T W') (hok:E.okA=okA) (h2:2≤E.n) (hZ:∀ id,E.Z id=[]) (hT:Tabs P E.ty) (hC:CSound P E) (hL:∀ k,¬ E.lent k)
 {l:List (Nat × AV)} (hl:∀ p ∈ l,p.1 < E.n∧Holds a p) {H:Nat→Hint} {k:Nat} {c:Code} {σ':St} {e:AX} (hs:straight [0,1] c=true) (hev:arun E H k c ⟨(0,.undef)::(1,.ro false ft cx)::l,[]⟩=some (e,σ')) :
 c.wpIn Fence.wide 0 P (fun ex a' W'=>ex=exOf e∧Wk E.n E.ty E.G okA B J T0 (.ro false ft cx) yv u i a' W'∧W.heap.size≤W'.heap.size∧∃ β',Sim E W σ' a' W' β') a W:=by
 have hS:=hw.sim hok h2 hl
 have hG:GlobOk E W:=fun g t x hg=>by rw[hok];exact hw.glob g t x hg
 refine wpIn_mono (round_sound hZ hT hC hG (easy_wide 0) c _ σ' e hs hev a W _ hS) fun ex a' W' hp=>?_
 obtain⟨hex,⟨β',hS'⟩,hk⟩:=hp
 have hb:Below W.heap.size W W':=hS'.below.plain fun k hk=>hL k hk.1
 obtain⟨T,q1,q2⟩:=hw.j
 refine⟨hex,⟨⟨T,hJ i T W W' q1 hb,fun k hk=>⟨(q2 k hk).1,Nat.lt_of_lt_of_le (q2 k hk).2 hb.size⟩⟩,Nat.le_trans hw.low hb.size,hw.cap.book (Books.below hb),fun g t x hg=>(hw.glob g t x hg).book (Books.below hb),
  hS'.size,hk.2.trans hw.defers,(hk.1 0 (by simp)).trans hw.t0,(hk.1 1 (by simp)).trans hw.t1⟩,hb.size,β',hS'⟩
theorem Wk.next (hw:Wk E.n E.ty E.G okA B J T0 (.ro false ft cx) yv u i a W) (hJ:∀ i T W W',J i T W→Below W.heap.size W W'→J i T W') (hL:∀ k,¬ E.lent k) {σ':St} {a':Act} {W':World} {β':Nat→Option Nat} (hS':Sim E W σ' a' W' β') (hk:Kept [0,1] a a') :
 Wk E.n E.ty E.G okA B J T0 (.ro false ft cx) yv u i a' W':=by
 have hb:Below W.heap.size W W':=hS'.below.plain fun k hk=>hL k hk.1
 obtain⟨T,q1,q2⟩:=hw.j
 exact⟨⟨T,hJ i T W W' q1 hb,fun k hk=>⟨(q2 k hk).1,Nat.lt_of_lt_of_le (q2 k hk).2 hb.size⟩⟩,Nat.le_trans hw.low hb.size,hw.cap.book (Books.below hb),fun g t x hg=>(hw.glob g t x hg).book (Books.below hb),
  hS'.size,hk.2.trans hw.defers,(hk.1 0 (by simp)).trans hw.t0,(hk.1 1 (by simp)).trans hw.t1⟩
theorem vr_cr1 {c:Cx} {x:AV} {v:Value} {okb:Nat→Prop} (h:VR c x v) (hc:closed x=true) (hx:noTup x=true) (hok:∀ b,¬ c.mu b→b < c.w.heap.size→okb b):CR1 c.ty c.w (fun _=>okb) x v:=by
 have h1:=h.one1 hx
 cases x with
 | st t fs=>
   obtain⟨vs,e,hcf,hF⟩:=h1
   exact⟨vs,e,hcf,hF.1,fun i y z hy hz=>((hF.2 i y z hy hz).lr ((leaf_closed hcf).1 hc y (List.mem_of_getElem? hy)) (fr:=false) (fun e=>by cases e)).mono fun b hb hl=>⟨hok b hb.1 hl,hl,rfl⟩⟩
 | ar t es=>
   obtain⟨vs,e,hcf,hF⟩:=h1
   exact⟨vs,e,hcf,hF.1,fun i y z hy hz=>((hF.2 i y z hy hz).lr ((leaf_closed hcf).1 hc y (List.mem_of_getElem? hy)) (fr:=false) (fun e=>by cases e)).mono fun b hb hl=>⟨hok b hb.1 hl,hl,rfl⟩⟩
 | tup _=>exact h1.elim
 | _=>exact cr1_leaf ((OR.lr h1 hc (fr:=false) (fun e=>by cases e)).mono fun b hb hl=>⟨hok b hb.1 hl,hl,rfl⟩)
theorem Sim.int {E:Env} {w0 w:World} {σ:St} {a:Act} {β:Nat→Option Nat} (h:Sim E w0 σ a w β) {t:Nat} {n:Int} (ht:aget t σ.tm=some (.int .i64 n)):a.tmps.getD t undef = .int .i64 n:=VR.int_inv (h.tms t _ ht).2
theorem Sim.bool {E:Env} {w0 w:World} {σ:St} {a:Act} {β:Nat→Option Nat} (h:Sim E w0 σ a w β) {t:Nat} {b:Bool} (ht:aget t σ.tm=some (.bool b)):a.tmps.getD t undef = .bool b:=VR.bool_inv (h.tms t _ ht).2
def Jb (J:Nat→(Nat→Prop)→World→Prop) (Jx:World→Prop):Bool→Nat→(Nat→Prop)→World→Prop
 | true=>J
 | false=>fun _ _ W=>Jx W
theorem Jb.mono {J:Nat→(Nat→Prop)→World→Prop} {Jx:World→Prop} (hJ:∀ i T W W',J i T W→Below W.heap.size W W'→J i T W') (hJx:∀ W W',Jx W→Below W.heap.size W W'→Jx W') (b:Bool):∀ i T W W',Jb J Jx b i T W→Below W.heap.size W W'→Jb J Jx b i T W':=fun i T W W' h hb=>by
 cases b with
 | true=>exact hJ i T W W' h hb
 | false=>exact hJx W W' h hb
theorem Wk.yields {o:Oper} {Jx:World→Prop} {okA0:Nat→Prop} {l d f:Nat} {a0:Act} {Wb:World} {σ:St} {β:Nat→Option Nat} {y:List AV} {c:Call} {K:Act→World→Prop} {Q:Exit→Act→World→Prop}
 (hw:Wk E.n E.ty E.G okA B J T0 (.ro false ft cx) yv u i a0 Wb) (hJ:∀ i T W W',J i T W→Below W.heap.size W W'→J i T W') (hok:E.okA=okA) (hlo:E.lo=none) (hL:∀ k,¬ E.lent k)
 (hokB:∀ b,okA b→okA0 b∧b < B) (hT0:∀ b,okA0 b→¬ T0 b)
 (hY:∀ T W ws,J i T W→F2 (CR1 E.ty W fun _ b=>(okA0 b∨B≤b)∧¬ T b) y ws→YieldAt Fence.wide 0 P l ws.toArray W fun e W'=>
    (e = .returned (.bool true)∧∃ T',J (i+1) T' W'∧(∀ k,T' k→(T k∨W.heap.size≤k)∧k < W'.heap.size)∧Alike T W W')∨(e = .returned (.bool false)∧Jx W'∧Alike T W W'))
 (hS:Sim E Wb σ a W β) (hk:Kept [0,1] a0 a) (hG:GlobOk E Wb) (ho:o.op = .call c) (hd:o.dst=some d) (hd2:2≤d) (hcal:c.callee = .value (.tmp f)) (hf:a.tmps.getD f undef = .func (.yield l) #[] #[])
 (hv:vals E.G σ c.args.toList=some y) (hy:∀ x ∈ y,closed x=true∧noTup x=true)
 (hK:∀ b W',Wk E.n E.ty E.G okA B (Jb J Jx b) T0 (.ro false ft cx) yv u (i+1) (a.put (some d) (.bool b)) W'→W.heap.size≤W'.heap.size→K (a.put (some d) (.bool b)) W') :
 o.wpIn Fence.wide 0 P a W K Q:=by
 have hb:Below Wb.heap.size Wb W:=hS.below.plain fun k hk=>hL k hk.1
 obtain⟨T,q1,q2⟩:=hw.j
 have hJ':=hJ i T Wb W q1 hb
 have hvs:=vals_sound hS hG c.args.toList y hv
 have hTd:∀ b,okA b→¬ T b:=fun b hb hT=>by
  obtain⟨h1,h2⟩:=hokB b hb
  rcases (q2 b hT).1 with h3 | h3
  ·exact hT0 b h1 h3
  ·omega
 have hws:F2 (CR1 E.ty W fun _ b=>(okA0 b∨B≤b)∧¬ T b) y (c.args.toList.map a.eval):=⟨hvs.1,fun j x v hx hv=>by
  obtain⟨h1,h2⟩:=hy x (List.mem_of_getElem? hx)
  refine vr_cr1 (hvs.2 j x v hx hv) h1 h2 fun b hb hl=>?_
  have hnew:Wb.heap.size≤b∨okA b:=by
   by_cases hlt:b < Wb.heap.size
   ·exact .inr (by
     have:¬ (b < Wb.heap.size∧¬ E.okA b):=fun hh=>hb (.inl hh)
     rw[hok] at this
     exact Classical.byContradiction fun hn=>this ⟨hlt,hn⟩)
   ·exact .inl (by omega)
  rcases hnew with h3 | h3
  ·exact⟨.inr (Nat.le_trans hw.low h3),fun hT=>by have:=(q2 b hT).2;omega⟩
  ·exact⟨.inl (hokB b h3).1,hTd b h3⟩⟩
 obtain⟨fn,tmps,az,bd,hrun,hR⟩:=hY T W _ hJ' hws
 refine⟨fun _ _=>trivial,?_⟩
 have hsem:(o.semAt Fence.wide.round a.eval).run P W = .ok (.round l fn tmps az bd) W:=by
  show (execOp a.eval o).run P W=_
  have e1:a.eval (.tmp f) = .func (.yield l) #[] #[]:=hf
  have e2:c.args.map a.eval=(c.args.toList.map a.eval).toArray:=by apply Array.ext';simp
  rw[← e2] at hrun
  simp[execOp,ho,resolve,hcal,e1,Deferred.ofValue,invoke,hrun]
 rw[hsem,Oper.uponIn_round]
 refine⟨fun hd=>by simp[Fence.wide] at hd,hR.mono fun e W' hq=>?_⟩
 have step:∀ b T',Jb J Jx b (i+1) T' W'→(∀ k,T' k→(T k∨W.heap.size≤k)∧k < W'.heap.size)→Alike T W W'→K (a.put o.dst (.bool b)) W':=fun b T' h1 h2 h3=>by
  rw[hd]
  have hle:=Nat.le_trans hw.low (Nat.le_trans hb.size h3.size)
  have hput:∀ t,t < 2→(a.put (some d) (.bool b)).tmps.getD t undef=a0.tmps.getD t undef:=fun t ht=>by
   have hm:t ∈ [0,1]:=by rcases (show t=0∨t=1 by omega) with rfl | rfl <;> simp
   rw[← hk.1 t hm]
   have hne:d ≠ t:=by omega
   simp only[Act.put,Array.getD_eq_getD_getElem?,Array.getElem?_setIfInBounds_ne hne]
  refine hK b W' ⟨⟨T',h1,fun k hk=>⟨?_,(h2 k hk).2⟩⟩,hle,(hw.cap.book (Books.below hb)).alike h3 hTd,fun g t x hg=>((hw.glob g t x hg).book (Books.below hb)).alike h3 hTd,?_,?_,?_,?_⟩ h3.size
  ·rcases (h2 k hk).1 with h4 | h4
   ·exact (q2 k h4).1
   ·exact .inr (Nat.le_trans hw.low (Nat.le_trans hb.size h4))
  ·simp[Act.put,hS.size]
  ·have:(a.put (some d) (.bool b)).defers=a.defers:=rfl
   rw[this,hk.2,hw.defers]
  ·rw[hput 0 (by omega),hw.t0]
  ·rw[hput 1 (by omega),hw.t1]
 rcases hq with ⟨rfl,T',h1,h2,h3⟩ | ⟨rfl,h1,h3⟩
 ·exact step true T' h1 h2 h3
 ·exact step false (fun _=>False) h1 (fun k hk=>hk.elim) h3
theorem seg {ops:Array Oper} (k m:Nat):∀ j,j < ((ops.toList.drop k).take m).length→((ops.toList.drop k).take m)[j]? = ops[k+j]?:=fun j hj=>by
 have:j < m:=by simp at hj;omega
 rw[List.getElem?_take_of_lt this,List.getElem?_drop,Array.getElem?_toList]
theorem Holds.put {a:Act} {p:Nat × AV} (h:Holds a p) {d:Nat} (hd:d ≠ p.1) (v:Value):Holds (a.put (some d) v) p:=by
 have:(a.put (some d) v).tmps.getD p.1 undef=a.tmps.getD p.1 undef:=by simp only[Act.put,Array.getD_eq_getD_getElem?,Array.getElem?_setIfInBounds_ne hd]
 unfold Holds
 rw[this];exact h
theorem Holds.bool_put {a:Act} {d:Nat} (hd:d < a.tmps.size) (b:Bool):Holds (a.put (some d) (.bool b)) (d,.bool b):= .inr ⟨b,rfl,by simp[Act.put,Array.getD_eq_getD_getElem?,hd]⟩
theorem Sim.hInt {E:Env} {w0 w:World} {σ:St} {a:Act} {β:Nat→Option Nat} (h:Sim E w0 σ a w β) {t:Nat} {n:Int} (ht:aget t σ.tm=some (.int .i64 n)):Holds a (t,.int .i64 n):= .inl ⟨n,rfl,h.int ht⟩
theorem Sim.hBool {E:Env} {w0 w:World} {σ:St} {a:Act} {β:Nat→Option Nat} (h:Sim E w0 σ a w β) {t:Nat} {b:Bool} (ht:aget t σ.tm=some (.bool b)):Holds a (t,.bool b):= .inr ⟨b,rfl,h.bool ht⟩
theorem ops_next {P:Program} {ops:Array Oper} {Q:Exit→Act→World→Prop} {a:Act} {w:World} {F:Fence} {n i:Nat} {rest:List Nat} {o:Oper} (h:ops[i]? = some o) (hw:Region.wanted o (yielded ops a.tmps)=true) (hh:o.wpIn F n P a w (wpOpsIn F n P ops Q rest) Q) :
 wpOpsIn F n P ops Q (i::rest) a w:=by
 unfold wpOpsIn
 rw[h]
 show if _ then _ else _
 rw[if_pos hw];exact hh
end
end Go.Abs
end
section
set_option maxHeartbeats 4000000
set_option maxRecDepth 20000
namespace Go.Proofs.Tryz
open Go Go.Abs
variable (ops : List XOp) (ints : List Int) (strs : List ByteArray) (rels : List XRel)
theorem h72:Tryz.prog.funcs[72]? = some f72:=by kernel_rfl
def H72:Nat→Hint:=fun _=>{ tm:=[],ob:=[] }
theorem ev72a (before:List (List XFact)) (reached:List Bool) (alive:List Int)  (A:Nat→Prop):arun (env 36 17179984635 D0 [(35,c35),(63,c63)] [] A) H72 5 (sub (f72.body.getD .skip) [0]) ⟨[(0,.undef),(1,.ro false 83 (.ro false 106 (.st 106 [(cd ops ints strs rels),.sl 119 gT (before.map eFacts),.sl 4 gT (reached.map eB),.sl 109 gT (alive.map eU)])))],[]⟩=some (.norm,⟨[(3,.int .i64 1),(0,.undef),(1,.ro false 83 (.ro false 106 (.st 106 [(cd ops ints strs rels),.sl 119 gT (before.map eFacts),.sl 4 gT (reached.map eB),.sl 109 gT (alive.map eU)])))],[]⟩):=by
 simp only[f72,sub,Option.getD_some]
 simp only[go_sem,simprocAttr,sub,Option.getD_some]
 try rfl
theorem ev72b (before:List (List XFact)) (reached:List Bool) (alive:List Int) (r:Int) (hr:decide (r≤8)=true) (A:Nat→Prop):arun (env 36 17179984635 D0 [(35,c35),(63,c63)] [] A) H72 5 (sub (f72.body.getD .skip) [1,0,0,0]) ⟨[(0,.undef),(1,.ro false 83 (.ro false 106 (.st 106 [(cd ops ints strs rels),.sl 119 gT (before.map eFacts),.sl 4 gT (reached.map eB),.sl 109 gT (alive.map eU)]))),(3,.int .i64 r)],[]⟩=some (.norm,⟨[(9,.bool true),(0,.undef),(1,.ro false 83 (.ro false 106 (.st 106 [(cd ops ints strs rels),.sl 119 gT (before.map eFacts),.sl 4 gT (reached.map eB),.sl 109 gT (alive.map eU)]))),(3,.int .i64 r)],[]⟩):=by
 simp only[f72,sub,Option.getD_some]
 simp only[go_sem,simprocAttr,sub,Option.getD_some,hr]
 try rfl
theorem ev72b0 (before:List (List XFact)) (reached:List Bool) (alive:List Int) (r:Int) (hr:decide (r≤8)=false) (A:Nat→Prop):arun (env 36 17179984635 D0 [(35,c35),(63,c63)] [] A) H72 5 (sub (f72.body.getD .skip) [1,0,0,0]) ⟨[(0,.undef),(1,.ro false 83 (.ro false 106 (.st 106 [(cd ops ints strs rels),.sl 119 gT (before.map eFacts),.sl 4 gT (reached.map eB),.sl 109 gT (alive.map eU)]))),(3,.int .i64 r)],[]⟩=some (.exit 0,⟨[(9,.bool false),(0,.undef),(1,.ro false 83 (.ro false 106 (.st 106 [(cd ops ints strs rels),.sl 119 gT (before.map eFacts),.sl 4 gT (reached.map eB),.sl 109 gT (alive.map eU)]))),(3,.int .i64 r)],[]⟩):=by
 simp only[f72,sub,Option.getD_some]
 simp only[go_sem,simprocAttr,sub,Option.getD_some,hr]
 try rfl
theorem ev72c (before:List (List XFact)) (reached:List Bool) (alive:List Int) (r:Int) (hp:ints.length≤100000∧strs.length≤100000) (A:Nat→Prop):arun (env 36 17179984635 D0 [(35,c35),(63,c63)] [] A) H72 5 (sub (f72.body.getD .skip) [1,0,0,1,0,0,0]) ⟨[(0,.undef),(1,.ro false 83 (.ro false 106 (.st 106 [(cd ops ints strs rels),.sl 119 gT (before.map eFacts),.sl 4 gT (reached.map eB),.sl 109 gT (alive.map eU)]))),(3,.int .i64 r)],[]⟩=some (.norm,⟨[(15,.int .i64 0),(14,.int .i64 (placesF ops ints strs r)),(0,.undef),(1,.ro false 83 (.ro false 106 (.st 106 [(cd ops ints strs rels),.sl 119 gT (before.map eFacts),.sl 4 gT (reached.map eB),.sl 109 gT (alive.map eU)]))),(3,.int .i64 r)],[]⟩):=by
 simp only[f72,sub,Option.getD_some]
 have e63:=c63_eq ops ints strs rels before reached alive r hp
 simp only[go_sem,simprocAttr,sub,Option.getD_some,e63]
 try rfl
theorem ev72d (before:List (List XFact)) (reached:List Bool) (alive:List Int) (r p q:Int) (b:Bool) (hb:decide (q < p)=b) (A:Nat→Prop):arun (env 36 17179984635 D0 [(35,c35),(63,c63)] [] A) H72 5 (sub (f72.body.getD .skip) [1,0,0,1,0,0,1,0,0,0]) ⟨[(0,.undef),(1,.ro false 83 (.ro false 106 (.st 106 [(cd ops ints strs rels),.sl 119 gT (before.map eFacts),.sl 4 gT (reached.map eB),.sl 109 gT (alive.map eU)]))),(3,.int .i64 r),(14,.int .i64 p),(15,.int .i64 q)],[]⟩=some (.norm,⟨[(16,.bool b),(0,.undef),(1,.ro false 83 (.ro false 106 (.st 106 [(cd ops ints strs rels),.sl 119 gT (before.map eFacts),.sl 4 gT (reached.map eB),.sl 109 gT (alive.map eU)]))),(3,.int .i64 r),(14,.int .i64 p),(15,.int .i64 q)],[]⟩):=by
 simp only[f72,sub,Option.getD_some]
 simp only[go_sem,simprocAttr,sub,Option.getD_some,hb]
 try rfl
theorem ev72e (before:List (List XFact)) (reached:List Bool) (alive:List Int) (r p q:Int) (hp:XA ops ints strs rels before reached alive) (hn:applyF ops ints strs rels before reached alive r q=none) (A:Nat→Prop):arun (env 36 17179984635 D0 [(35,c35),(63,c63)] [] A) H72 5 (sub (f72.body.getD .skip) [1,0,0,1,0,0,1,0,0,1,1,0,0]) ⟨[(0,.undef),(1,.ro false 83 (.ro false 106 (.st 106 [(cd ops ints strs rels),.sl 119 gT (before.map eFacts),.sl 4 gT (reached.map eB),.sl 109 gT (alive.map eU)]))),(3,.int .i64 r),(14,.int .i64 p),(15,.int .i64 q)],[]⟩=some (.norm,⟨[(34,.bool false),(7,.bool false),(6,.ptr 6 (.box 27) []),(5,.ptr 5 (.box 29) []),(4,.int .i64 q),(0,.undef),(1,.ro false 83 (.ro false 106 (.st 106 [(cd ops ints strs rels),.sl 119 gT (before.map eFacts),.sl 4 gT (reached.map eB),.sl 109 gT (alive.map eU)]))),(3,.int .i64 r),(14,.int .i64 p),(15,.int .i64 q)],[(6,⟨.box 27,false,[(cd ([]:List XOp) ([]:List Int) ([]:List ByteArray) ([]:List XRel))]⟩),(5,⟨.box 29,true,[.st 29 [.int .i64 r,.int .i64 q]]⟩)]⟩):=by
 simp only[f72,sub,Option.getD_some]
 have e35:=c35_eq ops ints strs rels before reached alive r q hp
 rw[hn] at e35
 simp only[eOut,eCode] at e35
 simp only[go_sem,simprocAttr,sub,Option.getD_some,e35]
 try rfl
theorem ev72f (before:List (List XFact)) (reached:List Bool) (alive:List Int) (r p q:Int) (A:Nat→Prop):arun (env 36 17179984635 D0 [(35,c35),(63,c63)] [] A) H72 5 (sub (f72.body.getD .skip) [1,0,0,1,0,0,1,0,0,1,1,0,0,0]) ⟨[(0,.undef),(1,.ro false 83 (.ro false 106 (.st 106 [(cd ops ints strs rels),.sl 119 gT (before.map eFacts),.sl 4 gT (reached.map eB),.sl 109 gT (alive.map eU)]))),(3,.int .i64 r),(14,.int .i64 p),(15,.int .i64 q)],[]⟩=some (.norm,⟨[(4,.int .i64 q),(0,.undef),(1,.ro false 83 (.ro false 106 (.st 106 [(cd ops ints strs rels),.sl 119 gT (before.map eFacts),.sl 4 gT (reached.map eB),.sl 109 gT (alive.map eU)]))),(3,.int .i64 r),(14,.int .i64 p),(15,.int .i64 q)],[]⟩):=by
 simp only[f72,sub,Option.getD_some]
 simp only[go_sem,simprocAttr,sub,Option.getD_some]
 try rfl
theorem ev72g (before:List (List XFact)) (reached:List Bool) (alive:List Int) (r p q:Int) (A:Nat→Prop):arun (env 36 17179984635 D0 [(35,c35),(63,c63)] [] A) H72 5 (sub (f72.body.getD .skip) [1,0,0,1,0,0,1,0,0,1,1,0,0,1,0]) ⟨[(0,.undef),(1,.ro false 83 (.ro false 106 (.st 106 [(cd ops ints strs rels),.sl 119 gT (before.map eFacts),.sl 4 gT (reached.map eB),.sl 109 gT (alive.map eU)]))),(3,.int .i64 r),(4,.int .i64 q),(14,.int .i64 p),(15,.int .i64 q)],[]⟩=some (.norm,⟨[(5,.ptr 5 (.box 29) []),(0,.undef),(1,.ro false 83 (.ro false 106 (.st 106 [(cd ops ints strs rels),.sl 119 gT (before.map eFacts),.sl 4 gT (reached.map eB),.sl 109 gT (alive.map eU)]))),(3,.int .i64 r),(4,.int .i64 q),(14,.int .i64 p),(15,.int .i64 q)],[(5,⟨.box 29,true,[.st 29 [.int .i64 r,.int .i64 q]]⟩)]⟩):=by
 simp only[f72,sub,Option.getD_some]
 simp only[go_sem,simprocAttr,sub,Option.getD_some]
 try rfl
theorem ev72h (before:List (List XFact)) (reached:List Bool) (alive:List Int) (r p q:Int) (c:XCode) (hp:XA ops ints strs rels before reached alive) (hn:applyF ops ints strs rels before reached alive r q=some c) (A:Nat→Prop):arun (env 36 17179984635 D0 [(35,c35),(63,c63)] [] A) H72 5 (sub (f72.body.getD .skip) [1,0,0,1,0,0,1,0,0,1,1,0,0,1,1,0]) ⟨[(5,.ptr 5 (.box 29) []),(0,.undef),(1,.ro false 83 (.ro false 106 (.st 106 [(cd ops ints strs rels),.sl 119 gT (before.map eFacts),.sl 4 gT (reached.map eB),.sl 109 gT (alive.map eU)]))),(3,.int .i64 r),(4,.int .i64 q),(14,.int .i64 p),(15,.int .i64 q)],[(5,⟨.box 29,true,[.st 29 [.int .i64 r,.int .i64 q]]⟩)]⟩=some (.norm,⟨[(7,.bool true),(6,.ptr 6 (.box 27) []),(5,.ptr 5 (.box 29) []),(0,.undef),(1,.ro false 83 (.ro false 106 (.st 106 [(cd ops ints strs rels),.sl 119 gT (before.map eFacts),.sl 4 gT (reached.map eB),.sl 109 gT (alive.map eU)]))),(3,.int .i64 r),(4,.int .i64 q),(14,.int .i64 p),(15,.int .i64 q)],[(6,⟨.box 27,false,[(cd c.ops c.ints c.strs c.rels)]⟩),(5,⟨.box 29,true,[.st 29 [.int .i64 r,.int .i64 q]]⟩)]⟩):=by
 simp only[f72,sub,Option.getD_some]
 have e35:=c35_eq ops ints strs rels before reached alive r q hp
 rw[hn] at e35
 simp only[eOut,eCode] at e35
 simp only[go_sem,simprocAttr,sub,Option.getD_some,e35]
 try rfl
theorem ev72i (before:List (List XFact)) (reached:List Bool) (alive:List Int) (r p q:Int) (hq:q+1 < 1000000) (h0:0≤q) (A:Nat→Prop):arun (env 36 17179984635 D0 [(35,c35),(63,c63)] [] A) H72 5 (sub (f72.body.getD .skip) [1,0,0,1,0,0,1,0,0,1,1,1]) ⟨[(0,.undef),(1,.ro false 83 (.ro false 106 (.st 106 [(cd ops ints strs rels),.sl 119 gT (before.map eFacts),.sl 4 gT (reached.map eB),.sl 109 gT (alive.map eU)]))),(3,.int .i64 r),(14,.int .i64 p),(15,.int .i64 q)],[]⟩=some (.norm,⟨[(15,.int .i64 (q+1)),(0,.undef),(1,.ro false 83 (.ro false 106 (.st 106 [(cd ops ints strs rels),.sl 119 gT (before.map eFacts),.sl 4 gT (reached.map eB),.sl 109 gT (alive.map eU)]))),(3,.int .i64 r),(14,.int .i64 p)],[]⟩):=by
 simp only[f72,sub,Option.getD_some]
 have hw:IntKind.i64.wrap (q+1)=q+1:=wrap_i64 (by omega) (by omega)
 simp only[go_sem,simprocAttr,sub,Option.getD_some,hw]
 try rfl
theorem ev72j (before:List (List XFact)) (reached:List Bool) (alive:List Int) (r:Int) (hq:r+1 < 1000000) (h0:0≤r) (A:Nat→Prop):arun (env 36 17179984635 D0 [(35,c35),(63,c63)] [] A) H72 5 (sub (f72.body.getD .skip) [1,0,0,1,1]) ⟨[(0,.undef),(1,.ro false 83 (.ro false 106 (.st 106 [(cd ops ints strs rels),.sl 119 gT (before.map eFacts),.sl 4 gT (reached.map eB),.sl 109 gT (alive.map eU)]))),(3,.int .i64 r)],[]⟩=some (.norm,⟨[(3,.int .i64 (r+1)),(0,.undef),(1,.ro false 83 (.ro false 106 (.st 106 [(cd ops ints strs rels),.sl 119 gT (before.map eFacts),.sl 4 gT (reached.map eB),.sl 109 gT (alive.map eU)])))],[]⟩):=by
 simp only[f72,sub,Option.getD_some]
 have hw:IntKind.i64.wrap (r+1)=r+1:=wrap_i64 (by omega) (by omega)
 simp only[go_sem,simprocAttr,sub,Option.getD_some,hw]
 try rfl
noncomputable def ops8:Array Oper:=match sub (f72.body.getD .skip) [1,0,0,1,0,0,1,0,0,1,1,0,0,1,1,1,0] with | .region _ ops _=>ops | _=>#[]
theorem ev72k (before:List (List XFact)) (reached:List Bool) (alive:List Int) (r p q:Int) (c:XCode) (A:Nat→Prop):aopsM (env 36 17179984635 D0 [(35,c35),(63,c63)] [] A) ops8.toList (ops8.toList.take 2) ⟨[(7,.bool true),(6,.ptr 6 (.box 27) []),(5,.ptr 5 (.box 29) []),(0,.undef),(1,.ro false 83 (.ro false 106 (.st 106 [(cd ops ints strs rels),.sl 119 gT (before.map eFacts),.sl 4 gT (reached.map eB),.sl 109 gT (alive.map eU)]))),(3,.int .i64 r),(4,.int .i64 q),(14,.int .i64 p),(15,.int .i64 q)],[(6,⟨.box 27,false,[(cd c.ops c.ints c.strs c.rels)]⟩),(5,⟨.box 29,true,[.st 29 [.int .i64 r,.int .i64 q]]⟩)]⟩=some ⟨[(28,.bool true),(27,.bool true),(7,.bool true),(6,.ptr 6 (.box 27) []),(5,.ptr 5 (.box 29) []),(0,.undef),(1,.ro false 83 (.ro false 106 (.st 106 [(cd ops ints strs rels),.sl 119 gT (before.map eFacts),.sl 4 gT (reached.map eB),.sl 109 gT (alive.map eU)]))),(3,.int .i64 r),(4,.int .i64 q),(14,.int .i64 p),(15,.int .i64 q)],[(6,⟨.box 27,false,[(cd c.ops c.ints c.strs c.rels)]⟩),(5,⟨.box 29,true,[.st 29 [.int .i64 r,.int .i64 q]]⟩)]⟩:=by
 simp only[ops8,f72,sub,Option.getD_some,List.take_succ_cons,List.take_zero]
 simp only[go_sem,simprocAttr,sub,Option.getD_some]
theorem ev72m (before:List (List XFact)) (reached:List Bool) (alive:List Int) (r p q:Int) (c:XCode) (A:Nat→Prop):aopsM (env 36 17179984635 D0 [(35,c35),(63,c63)] [] A) ops8.toList ((ops8.toList.drop 3).take 2) ⟨[(29,.undef),(28,.bool true),(27,.bool true),(7,.bool true),(6,.ptr 6 (.box 27) []),(5,.ptr 5 (.box 29) []),(0,.undef),(1,.ro false 83 (.ro false 106 (.st 106 [(cd ops ints strs rels),.sl 119 gT (before.map eFacts),.sl 4 gT (reached.map eB),.sl 109 gT (alive.map eU)]))),(3,.int .i64 r),(4,.int .i64 q),(14,.int .i64 p),(15,.int .i64 q)],[(6,⟨.box 27,false,[(cd c.ops c.ints c.strs c.rels)]⟩),(5,⟨.box 29,true,[.st 29 [.int .i64 r,.int .i64 q]]⟩)]⟩=some ⟨[(31,(cd c.ops c.ints c.strs c.rels)),(30,.st 29 [.int .i64 r,.int .i64 q]),(29,.undef),(28,.bool true),(27,.bool true),(7,.bool true),(6,.ptr 6 (.box 27) []),(5,.ptr 5 (.box 29) []),(0,.undef),(1,.ro false 83 (.ro false 106 (.st 106 [(cd ops ints strs rels),.sl 119 gT (before.map eFacts),.sl 4 gT (reached.map eB),.sl 109 gT (alive.map eU)]))),(3,.int .i64 r),(4,.int .i64 q),(14,.int .i64 p),(15,.int .i64 q)],[(6,⟨.box 27,false,[(cd c.ops c.ints c.strs c.rels)]⟩),(5,⟨.box 29,true,[.st 29 [.int .i64 r,.int .i64 q]]⟩)]⟩:=by
 simp only[ops8,f72,sub,Option.getD_some,List.take_succ_cons,List.take_zero,List.drop_succ_cons,List.drop_zero]
 simp only[go_sem,simprocAttr,sub,Option.getD_some]
theorem ev72l (before:List (List XFact)) (reached:List Bool) (alive:List Int) (r p q:Int) (b:Bool) (A:Nat→Prop):aopsM (env 36 17179984635 D0 [(35,c35),(63,c63)] [] A) ops8.toList (ops8.toList.drop 6) ⟨[(0,.undef),(1,.ro false 83 (.ro false 106 (.st 106 [(cd ops ints strs rels),.sl 119 gT (before.map eFacts),.sl 4 gT (reached.map eB),.sl 109 gT (alive.map eU)]))),(3,.int .i64 r),(14,.int .i64 p),(15,.int .i64 q),(28,.bool true),(32,.bool b)],[]⟩=some ⟨[(34,.bool !b),(33,.bool !b),(0,.undef),(1,.ro false 83 (.ro false 106 (.st 106 [(cd ops ints strs rels),.sl 119 gT (before.map eFacts),.sl 4 gT (reached.map eB),.sl 109 gT (alive.map eU)]))),(3,.int .i64 r),(14,.int .i64 p),(15,.int .i64 q),(28,.bool true),(32,.bool b)],[]⟩:=by
 simp only[ops8,f72,sub,Option.getD_some,List.drop_succ_cons,List.drop_zero]
 simp only[go_sem,simprocAttr,sub,Option.getD_some]
end Go.Proofs.Tryz
end
