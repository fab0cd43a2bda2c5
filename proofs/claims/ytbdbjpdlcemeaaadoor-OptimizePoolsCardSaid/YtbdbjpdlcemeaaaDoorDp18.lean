/- Part of the proof of one statement of this seat: an abstract machine for the program, its contracts, and the statement (no condition of our own). -/
import Derived.Test.YtbdbjpdlcemeaaaDoorDp12
import Derived.Test.YtbdbjpdlcemeaaaDoorDp16
import Derived.Test.YtbdbjpdlcemeaaaDoorDp17
set_option linter.unusedSimpArgs false
set_option linter.unusedVariables false
section
set_option maxHeartbeats 4000000
set_option maxRecDepth 20000
namespace Go.Proofs.Tryd
open Go Go.Abs
variable (ops : List XOp) (ints : List Int) (strs : List ByteArray) (rels : List XRel)
theorem h1003:Tryd.prog.funcs[3]? = some f3:=by kernel_rfl
def H1003:Nat→Hint:=fun i=>if i=11 then ({ tm:=[3,4,7,8,9,10],ob:=[4,34,38,42],fin:=some ([3,4,7,8,9],[4,34,38,42]) }:Hint) else if i=17 then ({ tm:=[3,4,7,8,9,10,11,12],ob:=[4,11,34,38,42],fin:=some ([3,4,7,8,9,10,11],[4,11,34,38,42]) }:Hint) else if i=23 then ({ tm:=[3,4,7,8,9,13],ob:=[4,34,38,42],fin:=some ([3,4,9],[4,42]) }:Hint) else if i=26 then ({ tm:=[3,4,7,8,9,13,14],ob:=[4,34,38,42],fin:=some ([3,4,7,8,9,13],[4,34,38,42]) }:Hint) else if i=33 then ({ tm:=[3,4,9,15],ob:=[4,42],fin:=some ([3],[]) }:Hint) else if i=36 then ({ tm:=[3,4,9,15,16],ob:=[4,42],fin:=some ([3,4,9,15],[4,42]) }:Hint) else { tm:=[],ob:=[] }
theorem H1003_11:H1003 11=({ tm:=[3,4,7,8,9,10],ob:=[4,34,38,42],fin:=some ([3,4,7,8,9],[4,34,38,42]) }:Hint):=by simp[H1003]
theorem H1003_17:H1003 17=({ tm:=[3,4,7,8,9,10,11,12],ob:=[4,11,34,38,42],fin:=some ([3,4,7,8,9,10,11],[4,11,34,38,42]) }:Hint):=by simp[H1003]
theorem H1003_23:H1003 23=({ tm:=[3,4,7,8,9,13],ob:=[4,34,38,42],fin:=some ([3,4,9],[4,42]) }:Hint):=by simp[H1003]
theorem H1003_26:H1003 26=({ tm:=[3,4,7,8,9,13,14],ob:=[4,34,38,42],fin:=some ([3,4,7,8,9,13],[4,34,38,42]) }:Hint):=by simp[H1003]
theorem H1003_33:H1003 33=({ tm:=[3,4,9,15],ob:=[4,42],fin:=some ([3],[]) }:Hint):=by simp[H1003]
theorem H1003_36:H1003 36=({ tm:=[3,4,9,15,16],ob:=[4,42],fin:=some ([3,4,9,15],[4,42]) }:Hint):=by simp[H1003]
theorem loop1003_17 (x:XCode) (hlm:LM x.ops x.ints x.strs x.rels) (f11:Bool) (o:XOp) (j:Nat) (o38 o42:Abs.Obj) (h1:(o.op==1)=true) (hn0:0≤o.n) (hnl:o.n.toNat < x.ints.length) (A:Nat→Prop) (k:Nat):∀ (m i:Nat) (mv:List Bool) (σ:St),mv.length=x.ints.length→i+m=x.rels.length→
 σ.keep (H1003 17)=⟨[(3,.bool true),(4,.ptr 4 (.box 27) []),(7,.own 34 4 0 x.ints.length),(8,.own 38 4 0 x.ints.length),(9,.own 42 4 0 x.strs.length),(10,.int .i64 (j:Nat)),(11,.ptr 11 (.box 36) []),(12,.int .i64 i)],[(4,(bC x.ops x.ints x.strs x.rels)),(11,⟨.box 36,f11,[eOp o]⟩),(34,⟨.row 4,true,(mv).map eB⟩),(38,o38),(42,o42)]⟩→
 post (H1003 17) (aloop ty (arun (env 171 771675811083788383271247544731721691202046011768799 D0 [(5,c8),(6,c9),(7,c22)] [] A) H1003 k (sub (f3.body.getD .skip) [1,1,1,1,1,1,1,1,0,1,0,0,1,0,0,1,1,0,1,0,0])) (H1003 17) (m+1) σ)=some (.exit 2,⟨[(3,.bool true),(4,.ptr 4 (.box 27) []),(7,.own 34 4 0 x.ints.length),(8,.own 38 4 0 x.ints.length),(9,.own 42 4 0 x.strs.length),(10,.int .i64 (j:Nat)),(11,.ptr 11 (.box 36) [])],[(4,(bC x.ops x.ints x.strs x.rels)),(11,⟨.box 36,f11,[eOp o]⟩),(34,⟨.row 4,true,(mv.set o.n.toNat (mv.getD o.n.toNat false || (x.rels.drop i).any fun r=>r.at_==(j:Int))).map eB⟩),(38,o38),(42,o42)]⟩):=by
 simp only[f3,sub,Option.getD_some,H1003_17];intro m
 induction m with
 | zero=>
   intro i mv σ hlm2 hi hσ;have hlt1:¬ ((i:Int) < ((x.rels.length:Nat):Int)):=by omega
   have hdz:x.rels.drop i=[]:=List.drop_of_length_le (by omega);have hse:mv.set o.n.toNat (mv.getD o.n.toNat false)=mv:=set_same _ _ _ (getD_get (by omega));rw[hdz,List.any_nil,Bool.or_false,hse];rw[aloop,hσ];simp only[go_sem,h1,h1,hlt1];simp[post,St.fin,keepL,aget]
 | succ m ih=>
   intro i mv σ hlm2 hi hσ;have hlt1:(i:Int) < ((x.rels.length:Nat):Int):=by omega
   have hlt:i < x.rels.length:=by omega
   have hni:(0:Int)≤(i:Int):=Int.natCast_nonneg i;have hw:IntKind.i64.wrap ((i:Int)+1)=((i+1:Nat):Int):=wrap_nat (by omega);have hget:=getD_get (d:=(⟨0,0,⟨#[]⟩,⟨#[]⟩⟩:XRel)) hlt;have hmg:=getD_get (d:=false) (show o.n.toNat < mv.length by omega);have hnn:o.n < (x.ints.length:Int):=by omega
   have hsr:∀ b,(List.map eB mv).set o.n.toNat (.bool b)=List.map eB (mv.set o.n.toNat b):=fun b=>set_map eB mv o.n.toNat b
   have hd:x.rels.drop i=x.rels.getD i ⟨0,0,⟨#[]⟩,⟨#[]⟩⟩::x.rels.drop (i+1):=by
    rw[List.drop_eq_getElem_cons hlt,List.getD_eq_getElem?_getD,List.getElem?_eq_getElem hlt];rfl
   have hfin:∀ b c:Bool,((mv.set o.n.toNat b).set o.n.toNat ((mv.set o.n.toNat b).getD o.n.toNat false || c))=mv.set o.n.toNat (b || c):=fun b c=>by
    rw[List.set_set,getD_set _ _ _ _ _ (show o.n.toNat < mv.length by omega),if_pos rfl]
   rw[aloop,hσ];rw[hd,List.any_cons];generalize x.rels.getD i ⟨0,0,⟨#[]⟩,⟨#[]⟩⟩=r at *;rw[← Bool.or_assoc,← hfin];cases hb:mv.getD o.n.toNat false;all_goals
    rw[hb] at hmg;simp only[BL];simp only[go_sem,h1,hlt1,hni,hw,hget,hmg,hnn,hn0,hsr,hlm2];exact ih (i+1) _ _ (by simp[hlm2]) (by omega) (by simp only[go_sem])
theorem loop1003_17n (x:XCode) (hlm:LM x.ops x.ints x.strs x.rels) (f11:Bool) (o:XOp) (j i:Nat) (mv:List Bool) (o38 o42:Abs.Obj) (h1:(o.op==1)=false) (A:Nat→Prop) (k:Nat) (m:Nat):∀ (σ:St),
 σ.keep (H1003 17)=⟨[(3,.bool true),(4,.ptr 4 (.box 27) []),(7,.own 34 4 0 x.ints.length),(8,.own 38 4 0 x.ints.length),(9,.own 42 4 0 x.strs.length),(10,.int .i64 (j:Nat)),(11,.ptr 11 (.box 36) []),(12,.int .i64 i)],[(4,(bC x.ops x.ints x.strs x.rels)),(11,⟨.box 36,f11,[eOp o]⟩),(34,⟨.row 4,true,(mv).map eB⟩),(38,o38),(42,o42)]⟩→
 post (H1003 17) (aloop ty (arun (env 171 771675811083788383271247544731721691202046011768799 D0 [(5,c8),(6,c9),(7,c22)] [] A) H1003 k (sub (f3.body.getD .skip) [1,1,1,1,1,1,1,1,0,1,0,0,1,0,0,1,1,0,1,0,0])) (H1003 17) (m+1) σ)=some (.exit 2,⟨[(3,.bool true),(4,.ptr 4 (.box 27) []),(7,.own 34 4 0 x.ints.length),(8,.own 38 4 0 x.ints.length),(9,.own 42 4 0 x.strs.length),(10,.int .i64 (j:Nat)),(11,.ptr 11 (.box 36) [])],[(4,(bC x.ops x.ints x.strs x.rels)),(11,⟨.box 36,f11,[eOp o]⟩),(34,⟨.row 4,true,(mv).map eB⟩),(38,o38),(42,o42)]⟩):=by
 simp only[f3,sub,Option.getD_some,H1003_17];intro σ hσ;rw[aloop,hσ];simp only[go_sem,h1];simp[post,St.fin,keepL,aget]
theorem loop1003_11 (x:XCode) (hlm:LM x.ops x.ints x.strs x.rels) (hv:∀ o ∈ x.ops,((o.op==1)=true→0≤o.n∧o.n.toNat < x.ints.length)∧((o.op==2)=true→0≤o.n∧o.n.toNat < x.strs.length)) (A:Nat→Prop) (k:Nat) (hk:100005≤k):∀ (m i:Nat) (s:Mk3) (σ:St),Len3 x.ints.length x.strs.length s→i+m=x.ops.length→
 σ.keep (H1003 11)=⟨[(3,.bool true),(4,.ptr 4 (.box 27) []),(7,.own 34 4 0 x.ints.length),(8,.own 38 4 0 x.ints.length),(9,.own 42 4 0 x.strs.length),(10,.int .i64 i)],[(4,(bC x.ops x.ints x.strs x.rels)),(34,⟨.row 4,true,(s.1).map eB⟩),(38,⟨.row 4,true,(s.2.1).map eB⟩),(42,⟨.row 4,true,(s.2.2).map eB⟩)]⟩→
 post (H1003 11) (aloop ty (arun (env 171 771675811083788383271247544731721691202046011768799 D0 [(5,c8),(6,c9),(7,c22)] [] A) H1003 k (sub (f3.body.getD .skip) [1,1,1,1,1,1,1,1,0,1,0,0])) (H1003 11) (m+1) σ)=some (.exit 0,⟨[(3,.bool true),(4,.ptr 4 (.box 27) []),(7,.own 34 4 0 x.ints.length),(8,.own 38 4 0 x.ints.length),(9,.own 42 4 0 x.strs.length)],[(4,(bC x.ops x.ints x.strs x.rels)),(34,⟨.row 4,true,((marks x.rels (x.ops.drop i) i s).1).map eB⟩),(38,⟨.row 4,true,((marks x.rels (x.ops.drop i) i s).2.1).map eB⟩),(42,⟨.row 4,true,((marks x.rels (x.ops.drop i) i s).2.2).map eB⟩)]⟩):=by
 simp only[f3,sub,Option.getD_some,H1003_11];intro m
 induction m with
 | zero=>
   intro i s σ hs hi hσ;have h1:¬ ((i:Int) < ((x.ops.length:Nat):Int)):=by omega
   have hdz:x.ops.drop i=[]:=List.drop_of_length_le (by omega);rw[aloop,hσ];simp only[go_sem,h1];simp[post,St.fin,keepL,aget,hdz,marks]
 | succ m ih=>
   intro i s σ hs hi hσ;have h1:(i:Int) < ((x.ops.length:Nat):Int):=by omega
   have hlt:i < x.ops.length:=by omega
   have hni:(0:Int)≤(i:Int):=Int.natCast_nonneg i;have hw:IntKind.i64.wrap ((i:Int)+1)=((i+1:Nat):Int):=wrap_nat (by omega);have hget:=getD_get (d:=op0) hlt;have hmem:x.ops.getD i op0 ∈ x.ops:=getD_memG hlt;have hd:x.ops.drop i=x.ops.getD i op0::x.ops.drop (i+1):=by
    rw[List.drop_eq_getElem_cons hlt,List.getD_eq_getElem?_getD,List.getElem?_eq_getElem hlt];rfl
   have ei:(i:Int)+1=((i+1:Nat):Int):=by omega
   have hvo:=hv _ hmem;have hl3:=mk1_len (rels:=x.rels) (i:=(i:Int)) (o:=x.ops.getD i op0) hs;obtain⟨s1,s2,s3⟩:=hs;rw[aloop,hσ];rw[hd,marks,ei];generalize x.ops.getD i op0=o at *;have ih':=fun σ=>ih (i+1) (mk1 x.rels i o s) σ hl3 (by omega)
   have hsa:∀ b,(List.map eB s.2.1).set o.n.toNat (.bool b)=List.map eB (s.2.1.set o.n.toNat b):=fun b=>set_map eB s.2.1 o.n.toNat b
   have hsb:∀ b,(List.map eB s.2.2).set o.n.toNat (.bool b)=List.map eB (s.2.2.set o.n.toNat b):=fun b=>set_map eB s.2.2 o.n.toNat b
   by_cases e1:(o.op==1)=true
   ·obtain⟨n0,n1⟩:=hvo.1 e1;have e2:(o.op==2)=false:=by simp at e1 ⊢;omega
    have hnn:o.n < (x.ints.length:Int):=by omega
    have hga:=getD_get (d:=false) (show o.n.toNat < s.2.1.length by omega);have hl:=loop1003_17 x hlm true o i ⟨.row 4,true,s.2.1.map eB⟩ ⟨.row 4,true,s.2.2.map eB⟩ e1 n0 n1 A k x.rels.length 0 s.1;simp only[f3,sub,Option.getD_some,H1003_17,List.drop_zero] at hl;simp only[go_sem,e1,e2,h1,hni,hget,H1003_17];rw[post_le (hl _ s1 (by simp) (by simp only[go_sem,e1,e2])) (by omega)];simp only[go_sem,e1,e2,hw,n0,hnn,hsa,s2,hga];refine ih' _ ?_;simp only[go_sem];simp only[mk1,e1,e2,BL,reduceIte]
   ·simp only[Bool.not_eq_true] at e1;have hl:=loop1003_17n x hlm true o i 0 s.1 ⟨.row 4,true,s.2.1.map eB⟩ ⟨.row 4,true,s.2.2.map eB⟩ e1 A k 5;simp only[f3,sub,Option.getD_some,H1003_17] at hl;by_cases e2:(o.op==2)=true
    ·obtain⟨n0,n1⟩:=hvo.2 e2;have hnn:o.n < (x.strs.length:Int):=by omega
     have hgb:=getD_get (d:=false) (show o.n.toNat < s.2.2.length by omega);have hl2:=loop1003_17n x hlm true o i 0 s.1 ⟨.row 4,true,s.2.1.map eB⟩ ⟨.row 4,true,(s.2.2.set o.n.toNat true).map eB⟩ e1 A k 5;simp only[f3,sub,Option.getD_some,H1003_17] at hl2;simp only[go_sem,e1,e2,h1,hni,hget,H1003_17,n0,hnn,hsb,s3,hgb];rw[post_le (hl2 _ (by simp only[go_sem,e1,e2])) (by omega)];simp only[go_sem,e1,e2,hw];refine ih' _ ?_;simp only[go_sem];simp only[mk1,e1,e2,BL,reduceIte]
    ·simp only[Bool.not_eq_true] at e2;simp only[go_sem,e1,e2,h1,hni,hget,H1003_17];rw[post_le (hl _ (by simp only[go_sem,e1,e2])) (by omega)];simp only[go_sem,e1,e2,hw];refine ih' _ ?_;simp only[go_sem];simp only[mk1,e1,e2,BL,reduceIte]
theorem loop1003_26 (x:XCode) (hlm:LM x.ops x.ints x.strs x.rels) (mv:List Bool) (j:Nat) (o38 o42:Abs.Obj) (hml:mv.length=x.ints.length) (hj:j < x.ints.length) (hq:∀ k,k < j→(x.ints.getD j 0==x.ints.getD k 0)=true→mv.getD j false=false→mv.getD k false=true) (A:Nat→Prop) (k:Nat):∀ (m i:Nat) (σ:St),i+m=j→
 σ.keep (H1003 26)=⟨[(3,.bool true),(4,.ptr 4 (.box 27) []),(7,.own 34 4 0 x.ints.length),(8,.own 38 4 0 x.ints.length),(9,.own 42 4 0 x.strs.length),(13,.int .i64 (j:Nat)),(14,.int .i64 i)],[(4,(bC x.ops x.ints x.strs x.rels)),(34,⟨.row 4,true,(mv).map eB⟩),(38,o38),(42,o42)]⟩→
 post (H1003 26) (aloop ty (arun (env 171 771675811083788383271247544731721691202046011768799 D0 [(5,c8),(6,c9),(7,c22)] [] A) H1003 k (sub (f3.body.getD .skip) [1,1,1,1,1,1,1,1,1,0,1,0,0,1,0,0,0,1,0,0])) (H1003 26) (m+1) σ)=some (.exit 6,⟨[(3,.bool true),(4,.ptr 4 (.box 27) []),(7,.own 34 4 0 x.ints.length),(8,.own 38 4 0 x.ints.length),(9,.own 42 4 0 x.strs.length),(13,.int .i64 (j:Nat))],[(4,(bC x.ops x.ints x.strs x.rels)),(34,⟨.row 4,true,(mv).map eB⟩),(38,o38),(42,o42)]⟩):=by
 simp only[f3,sub,Option.getD_some,H1003_26];intro m
 induction m with
 | zero=>
   intro i σ hi hσ;have h1:¬ ((i:Int) < ((j:Nat):Int)):=by omega
   rw[aloop,hσ];simp only[go_sem,h1];simp[post,St.fin,keepL,aget]
 | succ m ih=>
   intro i σ hi hσ;have h1:(i:Int) < ((j:Nat):Int):=by omega
   have hlt:i < j:=by omega
   have hni:(0:Int)≤(i:Int):=Int.natCast_nonneg i;have hw:IntKind.i64.wrap ((i:Int)+1)=((i+1:Nat):Int):=wrap_nat (by omega);have hg1:=getD_get (d:=(0:Int)) (show i < x.ints.length by omega);have hg2:=getD_get (d:=(0:Int)) hj;have hm1:=getD_get (d:=false) (show i < mv.length by omega);have hm2:=getD_get (d:=false) (show j < mv.length by omega);have hnj:(0:Int)≤(j:Int):=by omega
   have hin:(i:Int) < (x.ints.length:Int):=by omega
   have hjn:(j:Int) < (x.ints.length:Int):=by omega
   have hqi:=hq i hlt;rw[aloop,hσ];have hkeep:∀ b:Bool,σ.keep (H1003 26)=σ.keep (H1003 26):=fun _=>rfl
   generalize x.ints.getD i 0=u at *;generalize x.ints.getD j 0=v at *;generalize mv.getD i false=b1 at *;generalize mv.getD j false=b2 at *;cases hE:(v==u)
   ·simp only[go_sem,h1,hni,hnj,hw,hg1,hg2,hm1,hm2,hin,hjn,hE,hml];exact ih (i+1) _ (by omega) (by simp only[go_sem])
   ·cases b2
    ·cases b1
     ·exact absurd (hqi hE rfl) (by decide)
     ·simp only[go_sem,h1,hni,hnj,hw,hg1,hg2,hm1,hm2,hin,hjn,hE,hml];exact ih (i+1) _ (by omega) (by simp only[go_sem])
    ·simp only[go_sem,h1,hni,hnj,hw,hg1,hg2,hm1,hm2,hin,hjn,hE,hml];exact ih (i+1) _ (by omega) (by simp only[go_sem])
theorem loop1003_23 (x:XCode) (hlm:LM x.ops x.ints x.strs x.rels) (s:Mk3) (hs:Seen x s) (A:Nat→Prop) (k:Nat) (hk:100005≤k):∀ (m i:Nat) (σ:St),i+m=x.ints.length→
 σ.keep (H1003 23)=⟨[(3,.bool true),(4,.ptr 4 (.box 27) []),(7,.own 34 4 0 x.ints.length),(8,.own 38 4 0 x.ints.length),(9,.own 42 4 0 x.strs.length),(13,.int .i64 i)],[(4,(bC x.ops x.ints x.strs x.rels)),(34,⟨.row 4,true,(s.1).map eB⟩),(38,⟨.row 4,true,(s.2.1).map eB⟩),(42,⟨.row 4,true,(s.2.2).map eB⟩)]⟩→
 post (H1003 23) (aloop ty (arun (env 171 771675811083788383271247544731721691202046011768799 D0 [(5,c8),(6,c9),(7,c22)] [] A) H1003 k (sub (f3.body.getD .skip) [1,1,1,1,1,1,1,1,1,0,1,0,0])) (H1003 23) (m+1) σ)=some (.exit 4,⟨[(3,.bool true),(4,.ptr 4 (.box 27) []),(9,.own 42 4 0 x.strs.length)],[(4,(bC x.ops x.ints x.strs x.rels)),(42,⟨.row 4,true,(s.2.2).map eB⟩)]⟩):=by
 simp only[f3,sub,Option.getD_some,H1003_23];intro m
 induction m with
 | zero=>
   intro i σ hi hσ;have h1:¬ ((i:Int) < ((x.ints.length:Nat):Int)):=by omega
   rw[aloop,hσ];simp only[go_sem,h1];simp[post,St.fin,keepL,aget]
 | succ m ih=>
   intro i σ hi hσ;have h1:(i:Int) < ((x.ints.length:Nat):Int):=by omega
   have hlt:i < x.ints.length:=by omega
   have hni:(0:Int)≤(i:Int):=Int.natCast_nonneg i;have hw:IntKind.i64.wrap ((i:Int)+1)=((i+1:Nat):Int):=wrap_nat (by omega);have hsl:=hs.len;have hm1:=getD_get (d:=false) (show i < s.2.1.length by rw[hsl.2.1];omega);rw[hs.ints i hlt] at hm1;have hl:=loop1003_26 x hlm s.1 i ⟨.row 4,true,s.2.1.map eB⟩ ⟨.row 4,true,s.2.2.map eB⟩ hsl.1 hlt (fun q hq=>hs.eq i q hq hlt) A k i 0;simp only[f3,sub,Option.getD_some,H1003_26] at hl;have s2:=hsl.2.1;rw[aloop,hσ];simp only[go_sem,h1,hni,H1003_26];rw[post_le (hl _ (by simp) (by simp only[go_sem])) (by omega)];simp only[go_sem,h1,hni,hw,hm1,s2];exact ih (i+1) _ (by omega) (by simp only[go_sem])
theorem loop1003_36 (x:XCode) (hlm:LM x.ops x.ints x.strs x.rels) (j:Nat) (o42:Abs.Obj) (hj:j < x.strs.length) (hq:∀ k,k < j→((x.strs.getD j ⟨#[]⟩).toList==(x.strs.getD k ⟨#[]⟩).toList)=false) (A:Nat→Prop) (k:Nat):∀ (m i:Nat) (σ:St),i+m=j→
 σ.keep (H1003 36)=⟨[(3,.bool true),(4,.ptr 4 (.box 27) []),(9,.own 42 4 0 x.strs.length),(15,.int .i64 (j:Nat)),(16,.int .i64 i)],[(4,(bC x.ops x.ints x.strs x.rels)),(42,o42)]⟩→
 post (H1003 36) (aloop ty (arun (env 171 771675811083788383271247544731721691202046011768799 D0 [(5,c8),(6,c9),(7,c22)] [] A) H1003 k (sub (f3.body.getD .skip) [1,1,1,1,1,1,1,1,1,1,0,1,0,0,1,0,0,0,1,0,0])) (H1003 36) (m+1) σ)=some (.exit 10,⟨[(3,.bool true),(4,.ptr 4 (.box 27) []),(9,.own 42 4 0 x.strs.length),(15,.int .i64 (j:Nat))],[(4,(bC x.ops x.ints x.strs x.rels)),(42,o42)]⟩):=by
 simp only[f3,sub,Option.getD_some,H1003_36];intro m
 induction m with
 | zero=>
   intro i σ hi hσ;have h1:¬ ((i:Int) < ((j:Nat):Int)):=by omega
   rw[aloop,hσ];simp only[go_sem,h1];simp[post,St.fin,keepL,aget]
 | succ m ih=>
   intro i σ hi hσ;have h1:(i:Int) < ((j:Nat):Int):=by omega
   have hlt:i < j:=by omega
   have hni:(0:Int)≤(i:Int):=Int.natCast_nonneg i;have hw:IntKind.i64.wrap ((i:Int)+1)=((i+1:Nat):Int):=wrap_nat (by omega);have hg1:=getD_get (d:=(⟨#[]⟩:ByteArray)) (show i < x.strs.length by omega);have hg2:=getD_get (d:=(⟨#[]⟩:ByteArray)) hj;have hnj:(0:Int)≤(j:Int):=by omega
   have hqi:=hq i hlt;rw[aloop,hσ];generalize x.strs.getD i ⟨#[]⟩=u at *;generalize x.strs.getD j ⟨#[]⟩=v at *;simp only[go_sem,h1,hni,hnj,hw,hg1,hg2,hqi];exact ih (i+1) _ (by omega) (by simp only[go_sem])
theorem loop1003_33 (x:XCode) (hlm:LM x.ops x.ints x.strs x.rels) (s:Mk3) (hs:Seen x s) (hp:Pooled x) (A:Nat→Prop) (k:Nat) (hk:100005≤k):∀ (m i:Nat) (σ:St),i+m=x.strs.length→
 σ.keep (H1003 33)=⟨[(3,.bool true),(4,.ptr 4 (.box 27) []),(9,.own 42 4 0 x.strs.length),(15,.int .i64 i)],[(4,(bC x.ops x.ints x.strs x.rels)),(42,⟨.row 4,true,(s.2.2).map eB⟩)]⟩→
 post (H1003 33) (aloop ty (arun (env 171 771675811083788383271247544731721691202046011768799 D0 [(5,c8),(6,c9),(7,c22)] [] A) H1003 k (sub (f3.body.getD .skip) [1,1,1,1,1,1,1,1,1,1,0,1,0,0])) (H1003 33) (m+1) σ)=some (.exit 8,⟨[(3,.bool true)],[]⟩):=by
 simp only[f3,sub,Option.getD_some,H1003_33];intro m
 induction m with
 | zero=>
   intro i σ hi hσ;have h1:¬ ((i:Int) < ((x.strs.length:Nat):Int)):=by omega
   rw[aloop,hσ];simp only[go_sem,h1];simp[post,St.fin,keepL,aget]
 | succ m ih=>
   intro i σ hi hσ;have h1:(i:Int) < ((x.strs.length:Nat):Int):=by omega
   have hlt:i < x.strs.length:=by omega
   have hni:(0:Int)≤(i:Int):=Int.natCast_nonneg i;have hw:IntKind.i64.wrap ((i:Int)+1)=((i+1:Nat):Int):=wrap_nat (by omega);have hsl:=hs.len;have hm1:=getD_get (d:=false) (show i < s.2.2.length by rw[hsl.2.2];omega);rw[hs.strs i hlt] at hm1;have hl:=loop1003_36 x hlm i ⟨.row 4,true,s.2.2.map eB⟩ hlt (fun q hq=>hp.strsEq i q hq hlt) A k i 0;simp only[f3,sub,Option.getD_some,H1003_36] at hl;have s2:=hsl.2.2;rw[aloop,hσ];simp only[go_sem,h1,hni,H1003_36];rw[post_le (hl _ (by simp) (by simp only[go_sem])) (by omega)];simp only[go_sem,h1,hni,hw,hm1,s2];exact ih (i+1) _ (by omega) (by simp only[go_sem])
theorem run1003 (hp:(∀ o ∈ ops,InR o.n)∧(∀ n ∈ ints,InR n)∧(∀ r ∈ rels,r.str.size≤9223372036854775807∧r.mem.size≤9223372036854775807)) (A:Nat→Prop):acall (env 171 771675811083788383271247544731721691202046011768799 D0 [(5,c8),(6,c9),(7,c22)] [] A) (H1003) (100010) f3 [(cd ops ints strs rels)]=some (.bool true):=by
 obtain⟨p1,p2,p4⟩:=hp;have e8:=c8_eq;have e9:=c9_eq ops ints strs rels;have hl60:(decide (ops.length≤60)&&(decide (ints.length≤60)&&(decide (strs.length≤60)&&decide (rels.length≤60))))=true→ops.length≤60∧ints.length≤60∧strs.length≤60∧rels.length≤60:=fun h=>by simpa using h
 generalize (decide (ops.length≤60)&&(decide (ints.length≤60)&&(decide (strs.length≤60)&&decide (rels.length≤60))))=sh at *;cases sh
 ·simp only[acall,macall,f3];simp only[go_sem,e8,e9];try rfl
 have hl:=hl60 rfl;have hin:XIn ops ints strs rels:=⟨by omega,p4,p1,p2⟩
 cases hck:checkF ops ints strs rels
 ·have e22:=c22_eq ⟨ops,ints,strs,rels⟩ 2000000 (⟨[],[],[],[]⟩,[]) ⟨hin,by omega,by rw[if_neg (by rw[show checkC ⟨ops,ints,strs,rels⟩=checkF ops ints strs rels from rfl,hck];decide)]⟩;rw[show checkC ⟨ops,ints,strs,rels⟩=checkF ops ints strs rels from rfl,hck] at e22;simp only[eCode,errF,BL] at e22;simp only[acall,macall,f3];simp only[go_sem,e8,e9,e22];try rfl
 obtain⟨x,l,hE⟩:=ended (c:=⟨ops,ints,strs,rels⟩) hin hck hl.1;have hP:=pooled hE.xck hE.fix;have hS:=seen hE.xck hP;have hlx:=hE.xin.lim;have hll:=hE.len;have hgd:=check_good (show checkF x.ops x.ints x.strs x.rels=true from hE.xck);have hv:∀ o ∈ x.ops,((o.op==1)=true→0≤o.n∧o.n.toNat < x.ints.length)∧((o.op==2)=true→0≤o.n∧o.n.toNat < x.strs.length):=fun o ho=>by
  obtain⟨i,hi,e⟩:=List.getElem_of_mem ho;have h1:=(right_ok (hgd.right i hi)).fit;rw[Int.toNat_natCast,List.getD_eq_getElem?_getD,List.getElem?_eq_getElem hi,e,Option.getD_some] at h1;refine⟨fun h=>fits_int h1 h,fun h=>?_⟩;unfold fitsF at h1;rw[if_neg (by simp at h ⊢;omega),if_pos h] at h1;simp only[inF,Bool.and_eq_true,decide_eq_true_eq] at h1;omega
 have e22:=c22_eq ⟨ops,ints,strs,rels⟩ 2000000 (x,l) ⟨hin,by omega,by rw[if_pos (show checkC ⟨ops,ints,strs,rels⟩=true from hck)];exact hE.run⟩;rw[show checkC ⟨ops,ints,strs,rels⟩=checkF ops ints strs rels from rfl,hck] at e22;simp only[eCode,errF,BL] at e22;have hr1:∀ n:Nat,List.replicate n (AV.bool false)=(List.replicate n false).map eB:=fun n=>by rw[List.map_replicate];rfl
 have hmk:∀ n:Nat,n≤100000→(n:Int)≤140737488355328:=fun n hn=>by omega
 have h11:=loop1003_11 x hlx hv A 100010 (by omega) x.ops.length 0 (List.replicate x.ints.length false,List.replicate x.ints.length false,List.replicate x.strs.length false);have h1023:=loop1003_23 x hlx _ hS A 100010 (by omega) x.ints.length 0;have h33:=loop1003_33 x hlx _ hS hP A 100010 (by omega) x.strs.length 0;simp only[f3,sub,Option.getD_some,H1003_11,H1003_23,H1003_33,List.drop_zero,Int.natCast_zero] at h11 h1023 h33;generalize hms:marks x.rels x.ops 0 (List.replicate x.ints.length false,List.replicate x.ints.length false,List.replicate x.strs.length false)=s at *;have hii:(0:Int)≤(x.ints.length:Int):=by omega
 have hss:(0:Int)≤(x.strs.length:Int):=by omega
 have hi1:(x.ints.length:Int) * 1≤140737488355328:=by omega
 have hs1:(x.strs.length:Int) * 1≤140737488355328:=by omega
 simp only[acall,macall,f3];simp only[go_sem,e8,e9,e22,hii,hss,hi1,hs1,hr1,H1003_11,H1003_17,H1003_23,H1003_26,H1003_33,H1003_36];rw[post_le (h11 _ (by simp[Len3]) (by simp) (by simp only[go_sem,hr1])) (by omega)];simp only[go_sem,H1003_11,H1003_17,H1003_23,H1003_26,H1003_33,H1003_36];rw[post_le (h1023 _ (by simp) (by simp only[go_sem,hr1])) (by omega)];simp only[go_sem,H1003_11,H1003_17,H1003_23,H1003_26,H1003_33,H1003_36];rw[post_le (h33 _ (by simp) (by simp only[go_sem,hr1])) (by omega)];simp only[go_sem,H1003_11,H1003_17,H1003_23,H1003_26,H1003_33,H1003_36];try rfl
noncomputable def c1003:=famP (α:=(List XOp) × (List Int) × (List ByteArray) × (List XRel)) (fun (ops,ints,strs,rels)=>(∀ o ∈ ops,InR o.n)∧(∀ n ∈ ints,InR n)∧(∀ r ∈ rels,r.str.size≤9223372036854775807∧r.mem.size≤9223372036854775807)) (fun (ops,ints,strs,rels)=>[(cd ops ints strs rels)]) (fun (ops,ints,strs,rels)=> .bool true)
theorem c1003_eq (hp:(∀ o ∈ ops,InR o.n)∧(∀ n ∈ ints,InR n)∧(∀ r ∈ rels,r.str.size≤9223372036854775807∧r.mem.size≤9223372036854775807)):c1003 [(cd ops ints strs rels)]=some (.bool true):=fam_eq (fun _ _ _ _ _=>rfl) (ops,ints,strs,rels) hp
theorem snd1003:Snd 3 c1003:=fam_snd h1003 rfl rfl fun (ops,ints,strs,rels) hp=>rc h1003 (fun A=>run1003 ops ints strs rels hp A) (fun i=>match i with | 19=>[0,0,2,0,0,16,56,120,248,504,1016,504,4088,8184,16376,504,65528,131064,262143,524287] | 28=>[0,1,0,7,15,0,32,0,224,480,1023,2047,4095,4095,16383,32767,65535,131071,262143,524287,524287,2097151,4194303,8388607,16777215] | 38=>[0,1,0,7,15,0,32,0,224,480,1023] | _=>[]) rfl rfl rfl (by kernel_rfl) ⟨snd8,snd9,snd22,trivial⟩ trivial
end Go.Proofs.Tryd
end
