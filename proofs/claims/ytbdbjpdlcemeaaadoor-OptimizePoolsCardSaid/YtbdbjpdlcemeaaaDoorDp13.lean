/- Part of the proof of one statement of this seat: an abstract machine for the program, its contracts, and the statement (no condition of our own). -/
import Derived.Test.YtbdbjpdlcemeaaaDoorDp09
set_option linter.unusedSimpArgs false
set_option linter.unusedVariables false
section
set_option maxHeartbeats 4000000
set_option maxRecDepth 20000
namespace Go.Proofs.Tryd
open Go Go.Abs
variable (ops : List XOp) (ints : List Int) (strs : List ByteArray) (rels : List XRel)
def clrF (d:Int) (x:XFact):XFact:=if (x.sort==2&&x.n==d)=true then ⟨0,0⟩ else x
def behindF (ops:List XOp) (ints:List Int) (rels:List XRel) (f:List XFact) (q:Int):List XFact:=
 let o:=ops.getD q.toNat op0
 if (formF o.op).d=true then
  let a:=f.getD o.a.toNat ⟨0,0⟩
  let f2:=(f.map (clrF o.d)).set o.d.toNat ⟨0,0⟩
  let r:=rels.any fun r=>r.at_==q
  if (o.op==1)=true then (if r=true then f2 else f2.set o.d.toNat ⟨1,ints.getD o.n.toNat 0⟩)
  else if (o.op==3)=true then f2.set o.d.toNat ⟨(movedF a.sort a.n o.d o.a).1,(movedF a.sort a.n o.d o.a).2⟩
  else if (o.op==19)=true then f2.set o.d.toNat ⟨3,o.n⟩ else if (o.op==27)=true then f2.set o.d.toNat ⟨3,o.n⟩
  else if (o.op==26)=true then (if r=true then f2 else f2.set o.d.toNat ⟨3,o.n⟩)
  else if (o.op==20)=true then f2.set o.d.toNat ⟨3,8⟩ else if (o.op==21)=true then f2.set o.d.toNat ⟨3,8⟩ else if (o.op==22)=true then f2.set o.d.toNat ⟨3,8⟩
  else if (o.op==23)=true then f2.set o.d.toNat ⟨3,-8⟩ else f2
 else f
def midF (d:Int) (f:List XFact) (i:Nat):List XFact:=(f.take i).map (clrF d)++f.drop i
theorem midF_get (d:Int) (f:List XFact) (i:Nat) (h:i < f.length):(midF d f i)[i]? = some (f[i]'h):=by
 simp[midF,h,List.getElem?_append,Nat.min_eq_left (Nat.le_of_lt h)]
theorem midF_step (d:Int) (f:List XFact) (i:Nat) (h:i < f.length):(midF d f i).set i (clrF d (f[i]'h))=midF d f (i+1):=by
 have e1:f.drop i=f[i]'h::f.drop (i+1):=List.drop_eq_getElem_cons h;have e2:f.take (i+1)=f.take i++[f[i]'h]:=by rw[List.take_add_one,List.getElem?_eq_getElem h];rfl
 unfold midF;rw[e1,e2,List.set_append_right _ _ (by simp;omega)];have:i - ((f.take i).map (clrF d)).length=0:=by simp;omega
 rw[this,List.set_cons_zero,List.map_append,List.append_assoc];rfl
theorem midF_same (d:Int) (f:List XFact) (i:Nat) (h:i < f.length) (hs:clrF d (f[i]'h)=f[i]'h):midF d f i=midF d f (i+1):=by
 rw[← midF_step d f i h,hs];apply List.ext_getElem?;intro j;rw[List.getElem?_set];by_cases hj:i=j
 ·subst hj;rw[midF_get d f i h];have:i < (midF d f i).length:=(List.getElem?_eq_some_iff.1 (midF_get d f i h)).1;simp[this]
 ·simp[hj]
theorem midF_end (d:Int) (f:List XFact) (i:Nat) (h:f.length≤i):midF d f i=f.map (clrF d):=by
 unfold midF;rw[List.take_of_length_le h,List.drop_of_length_le h,List.append_nil]
theorem h56:Tryd.prog.funcs[33]? = some f33:=by kernel_rfl
def H56:Nat→Hint:=fun i=>if i=8 then ({ tm:=[0,1,4,5,6,7,9,38],ob:=[4,5,6,9],fin:=some ([0,1,4,5,6,7,9],[4,5,6,9]) }:Hint) else { tm:=[],ob:=[] }
theorem H56_8:H56 8=({ tm:=[0,1,4,5,6,7,9,38],ob:=[4,5,6,9],fin:=some ([0,1,4,5,6,7,9],[4,5,6,9]) }:Hint):=by simp[H56]
theorem loop56 (W:AV) (q d:Int) (f:List XFact) (hf:f.length=8) (o4 o6 o9:Abs.Obj) (A:Nat→Prop) (k:Nat):∀ (m i:Nat) (σ:St),i+m=8→
 σ.keep (H56 8)=⟨[(0,W),(1,.int .i64 q),(4,.ptr 4 (.box 78) []),(5,.ptr 5 (.box 78) []),(6,.ptr 6 (.box 36) []),(7,.int .i64 d),(9,.ptr 9 (.box 76) []),(38,.int .i64 i)],[(4,o4),(5,⟨.box 78,true,[eFacts (midF d f (i))]⟩),(6,o6),(9,o9)]⟩→
 post (H56 8) (aloop ty (arun (env 121 41867983908900975976407270120490995 D0 [(35,c58),(47,c86),(48,c87)] [] A) H56 k (sub (f33.body.getD .skip) [1,1,1,1,1,1,0,1,0,0])) (H56 8) (m+1) σ)=some (.exit 0,⟨[(0,W),(1,.int .i64 q),(4,.ptr 4 (.box 78) []),(5,.ptr 5 (.box 78) []),(6,.ptr 6 (.box 36) []),(7,.int .i64 d),(9,.ptr 9 (.box 76) [])],[(4,o4),(5,⟨.box 78,true,[eFacts (midF d f (8))]⟩),(6,o6),(9,o9)]⟩):=by
 simp only[f33,sub,Option.getD_some,H56_8];intro m
 induction m with
 | zero=>
   intro i σ hi hσ;have h1:¬ ((i:Int) < 8):=by omega
   have h8:midF d f i=midF d f 8:=by rw[show i=8 by omega]
   rw[aloop,hσ];simp only[go_sem,h1];simp[post,St.fin,keepL,aget,h8]
 | succ m ih=>
   intro i σ hi hσ;have h1:(i:Int) < 8:=by omega
   have hlt:i < f.length:=by omega
   have h1c:(i:Int) < (8:Int):=by omega
   have hni:(0:Int)≤(i:Int):=Int.natCast_nonneg i;have hw:IntKind.i64.wrap ((i:Int)+1)=((i+1:Nat):Int):=wrap_nat (by omega);have hget:=midF_get d f i hlt;have hst:=midF_step d f i hlt;have hsm:=midF_same d f i hlt;have hset:=set_map eFact (midF d f i) i ⟨0,0⟩;rw[aloop,hσ];generalize f[i]=x at *;simp only[clrF] at hst hsm;simp only[eFact] at hset;cases hg:(x.sort==2&&x.n==d)
   all_goals
    rw[hg] at hst hsm;simp only[forall_const,BL] at hst hsm;simp only[go_sem,c58_eq,c86_eq,c87_eq,h1,h1c,hni,hget,hw,hg,eFacts,eFact,hset];exact ih (i+1) _ (by omega) (by simp only[go_sem,hst,← hsm,eFacts])
theorem run56 (before:List (List XFact)) (reached:List Bool) (alive:List Int) (fb:Bool) (q:Int) (hp:rels.length≤100000∧0≤q∧q.toNat < ops.length∧q.toNat < before.length∧(before.getD q.toNat []).length=8∧(let o:=ops.getD q.toNat op0;(0≤o.a∧o.a.toNat < 8)∧(0≤o.d∧o.d.toNat < 8)∧((o.op==1)=true→0≤o.n∧o.n.toNat < ints.length))) (A:Nat→Prop):acall (env 121 41867983908900975976407270120490995 D0 [(35,c58),(47,c86),(48,c87)] [] A) (H56) (10) f33 [.ro false 74 (.st 74 [(cd ops ints strs rels),.sl 78 ⟨fb,none,false⟩ (before.map eFacts),.sl 4 ⟨fb,none,false⟩ (reached.map eB),.sl 82 ⟨fb,none,false⟩ (alive.map eU)]),.int .i64 q]=some (eFacts (behindF ops ints rels (before.getD q.toNat []) q)):=by
 obtain⟨hlr,h0,hlt,hbl,hf8,⟨ha0,ha1⟩,⟨hd0,hd1⟩,hn⟩:=hp;have hget:=getD_get (d:=op0) hlt;have hgb:=getD_get (d:=[]) hbl;have e86:=c86_eq ops ints strs rels q hlr;simp only[behindF];generalize ops.getD q.toNat op0=x at *;generalize before.getD q.toNat []=f at *;have e58:=c58_eq x.op x.d x.a x.b x.n;have ha1c:x.a < (8:Int):=by omega
 have hd1c:x.d < (8:Int):=by omega
 have hga:=getD_get (d:=(⟨0,0⟩:XFact)) (show x.a.toNat < f.length by omega);have hga8:x.a.toNat < 8:=ha1;obtain⟨a,ha⟩:∃ a,f.getD x.a.toNat ⟨0,0⟩=a:=⟨_,rfl⟩
 have e87:=c87_eq a.sort a.n x.d x.a;obtain⟨r,hr⟩:∃ r,(rels.any fun r=>r.at_==q)=r:=⟨_,rfl⟩
 obtain⟨mv,hmv⟩:∃ mv,movedF a.sort a.n x.d x.a=mv:=⟨_,rfl⟩
 simp only[ha,hr,hmv] at hga e86 e87 ⊢;cases hd:(formF x.op).d
 ·rw[hd] at e58;simp only[BL] at e58 ⊢;simp only[acall,macall,f33];simp only[go_sem,hd,e58,hget,hgb,h0,eFacts];try rfl
 rw[hd] at e58;simp only[BL] at e58 ⊢;have hz:=set_map eFact ((f.map (clrF x.d))) x.d.toNat ⟨0,0⟩;have hfl:((f.map (clrF x.d)).set x.d.toNat ⟨0,0⟩).length=8:=by simp[hf8]
 have hzl:(f.map (clrF x.d)).length=8:=by simp[hf8]
 have hme:=midF_end x.d f 8 (by omega);have hgd:(f.map (clrF x.d))[x.d.toNat]? = some ((f.map (clrF x.d)).getD x.d.toNat ⟨0,0⟩):=getD_get (by omega);have hm0:midF x.d f 0=f:=rfl;simp only[acall,macall,f33];simp only[go_sem,hd,H56_8,ha1c,hd1c,hf8,eFact,e58,e86,e87,hget,hgb,hga,h0,ha0,eFacts];have hl:=loop56 (.ro false 74 (.st 74 [(cd ops ints strs rels),.sl 78 ⟨fb,none,false⟩ (before.map eFacts),.sl 4 ⟨fb,none,false⟩ (reached.map eB),.sl 82 ⟨fb,none,false⟩ (alive.map eU)])) q x.d f hf8 ⟨.box 78,true,[.ar 78 [zP,zP,zP,zP,zP,zP,zP,zP]]⟩ ⟨.box 36,true,[.st 36 [.int .i64 x.op,.int .i64 x.d,.int .i64 x.a,.int .i64 x.b,.int .i64 x.n]]⟩ ⟨.box 76,true,[.st 76 [.int .i64 a.sort,.int .i64 a.n]]⟩ A 10 8 0;simp only[f33,sub,Option.getD_some,H56_8] at hl;rw[post_le (hl _ (by simp) (by simp only[go_sem,hm0,eFacts,eFact])) (by omega)];rw[hme]
 have hgd2:((f.map (clrF x.d)).set x.d.toNat ⟨0,0⟩)[x.d.toNat]? = some (((f.map (clrF x.d)).set x.d.toNat ⟨0,0⟩).getD x.d.toNat ⟨0,0⟩):=getD_get (by omega);have hset:∀ s n:Int,(((f.map (clrF x.d)).set x.d.toNat ⟨0,0⟩).map eFact).set x.d.toNat (.st 76 [.int .i64 s,.int .i64 n])=(((f.map (clrF x.d)).set x.d.toNat ⟨0,0⟩).set x.d.toNat ⟨s,n⟩).map eFact:=fun s n=>set_map eFact _ _ ⟨s,n⟩
 simp only[eFact] at hz;cases h1:(x.op==1)
 rotate_left
 ·obtain⟨hn0,hn1⟩:=hn h1;have hgn:=getD_get (d:=0) hn1;cases r;all_goals
   simp only[h1,BL];simp only[go_sem,h1,hn0,hgn,hd,ha1c,hd1c,e58,e86,e87,hget,hgb,hga,h0,ha0,ha1,hd0,hd1,hz,eFacts,eFact,hset,hgd,hgd2,hzl,hfl];try rfl
 cases h3:(x.op==3)
 rotate_left
 ·simp only[h1,h3,BL];simp only[go_sem,h1,h3,hd,ha1c,hd1c,e58,e86,e87,hget,hgb,hga,h0,ha0,ha1,hd0,hd1,hz,eFacts,eFact,hset,hgd,hgd2,hzl,hfl];try rfl
 cases h19:(x.op==19)
 rotate_left
 ·simp only[h1,h3,h19,BL];simp only[go_sem,h1,h3,h19,hd,ha1c,hd1c,e58,e86,e87,hget,hgb,hga,h0,ha0,ha1,hd0,hd1,hz,eFacts,eFact,hset,hgd,hgd2,hzl,hfl];try rfl
 cases h27:(x.op==27)
 rotate_left
 ·simp only[h1,h3,h19,h27,BL];simp only[go_sem,h1,h3,h19,h27,hd,ha1c,hd1c,e58,e86,e87,hget,hgb,hga,h0,ha0,ha1,hd0,hd1,hz,eFacts,eFact,hset,hgd,hgd2,hzl,hfl];try rfl
 cases h26:(x.op==26)
 rotate_left
 ·cases r;all_goals
   simp only[h1,h3,h19,h27,h26,BL];simp only[go_sem,h1,h3,h19,h27,h26,hd,ha1c,hd1c,e58,e86,e87,hget,hgb,hga,h0,ha0,ha1,hd0,hd1,hz,eFacts,eFact,hset,hgd,hgd2,hzl,hfl];try rfl
 cases h20:(x.op==20)
 rotate_left
 ·simp only[h1,h3,h19,h27,h26,h20,BL];simp only[go_sem,h1,h3,h19,h27,h26,h20,hd,ha1c,hd1c,e58,e86,e87,hget,hgb,hga,h0,ha0,ha1,hd0,hd1,hz,eFacts,eFact,hset,hgd,hgd2,hzl,hfl];try rfl
 cases h21:(x.op==21)
 rotate_left
 ·simp only[h1,h3,h19,h27,h26,h20,h21,BL];simp only[go_sem,h1,h3,h19,h27,h26,h20,h21,hd,ha1c,hd1c,e58,e86,e87,hget,hgb,hga,h0,ha0,ha1,hd0,hd1,hz,eFacts,eFact,hset,hgd,hgd2,hzl,hfl];try rfl
 cases h22:(x.op==22)
 rotate_left
 ·simp only[h1,h3,h19,h27,h26,h20,h21,h22,BL];simp only[go_sem,h1,h3,h19,h27,h26,h20,h21,h22,hd,ha1c,hd1c,e58,e86,e87,hget,hgb,hga,h0,ha0,ha1,hd0,hd1,hz,eFacts,eFact,hset,hgd,hgd2,hzl,hfl];try rfl
 cases h23:(x.op==23)
 rotate_left
 ·simp only[h1,h3,h19,h27,h26,h20,h21,h22,h23,BL];simp only[go_sem,h1,h3,h19,h27,h26,h20,h21,h22,h23,hd,ha1c,hd1c,e58,e86,e87,hget,hgb,hga,h0,ha0,ha1,hd0,hd1,hz,eFacts,eFact,hset,hgd,hgd2,hzl,hfl];try rfl
 simp only[h1,h3,h19,h27,h26,h20,h21,h22,h23,BL];simp only[go_sem,h1,h3,h19,h27,h26,h20,h21,h22,h23,hd,ha1c,hd1c,e58,e86,e87,hget,hgb,hga,h0,ha0,ha1,hd0,hd1,hz,eFacts,eFact,hset,hgd,hgd2,hzl,hfl];try rfl
noncomputable def c56:=famP (α:=(List XOp) × (List Int) × (List ByteArray) × (List XRel) × (List (List XFact)) × (List Bool) × (List Int) × Bool × Int) (fun (ops,ints,strs,rels,before,reached,alive,fb,q)=>rels.length≤100000∧0≤q∧q.toNat < ops.length∧q.toNat < before.length∧(before.getD q.toNat []).length=8∧(let o:=ops.getD q.toNat op0;(0≤o.a∧o.a.toNat < 8)∧(0≤o.d∧o.d.toNat < 8)∧((o.op==1)=true→0≤o.n∧o.n.toNat < ints.length))) (fun (ops,ints,strs,rels,before,reached,alive,fb,q)=>[.ro false 74 (.st 74 [(cd ops ints strs rels),.sl 78 ⟨fb,none,false⟩ (before.map eFacts),.sl 4 ⟨fb,none,false⟩ (reached.map eB),.sl 82 ⟨fb,none,false⟩ (alive.map eU)]),.int .i64 q]) (fun (ops,ints,strs,rels,before,reached,alive,fb,q)=>eFacts (behindF ops ints rels (before.getD q.toNat []) q))
theorem c56_eq (before:List (List XFact)) (reached:List Bool) (alive:List Int) (fb:Bool) (q:Int) (hp:rels.length≤100000∧0≤q∧q.toNat < ops.length∧q.toNat < before.length∧(before.getD q.toNat []).length=8∧(let o:=ops.getD q.toNat op0;(0≤o.a∧o.a.toNat < 8)∧(0≤o.d∧o.d.toNat < 8)∧((o.op==1)=true→0≤o.n∧o.n.toNat < ints.length))):c56 [.ro false 74 (.st 74 [(cd ops ints strs rels),.sl 78 ⟨fb,none,false⟩ (before.map eFacts),.sl 4 ⟨fb,none,false⟩ (reached.map eB),.sl 82 ⟨fb,none,false⟩ (alive.map eU)]),.int .i64 q]=some (eFacts (behindF ops ints rels (before.getD q.toNat []) q)):=fam_eq (fun X Y hp hp' h'=>by
 obtain⟨ops,ints,strs,rels,before,reached,alive,fb,q⟩:=X;obtain⟨ops',ints',strs',rels',before',reached',alive',fb',q'⟩:=Y;simp only[INJ] at h';obtain⟨rfl,rfl,rfl,rfl,rfl,rfl,_,rfl,_,rfl,rfl⟩:=h';rfl) (ops,ints,strs,rels,before,reached,alive,fb,q) hp
theorem snd56:Snd 33 c56:=fam_snd h56 rfl rfl fun (ops,ints,strs,rels,before,reached,alive,fb,q) hp=>rc h56 (fun A=>run56 ops ints strs rels before reached alive fb q hp A) (fun i=>match i with | 17=>[0,0,2,6,14,30,0,64,254,510,1022,2047,4095] | _=>[]) rfl rfl rfl (by kernel_rfl) ⟨snd58,snd86,snd87,trivial⟩ trivial
theorem allF_get (p:Nat→Bool):∀ (m i:Nat),allF p i m=true→∀ j,i≤j→j < i+m→p j=true
 | 0,i,_,j,h1,h2=>by omega
 | m+1,i,h,j,h1,h2=>by
   simp only[allF,Bool.and_eq_true] at h;by_cases hj:j=i
   ·subst hj;exact h.1
   ·exact allF_get p m (i+1) h.2 j (by omega) (by omega)
structure Good (ops:List XOp) (li ls:Nat) (rels:List XRel):Prop where
 pos:0 < ops.length
 len:ops.length≤500
 right:∀ i,i < ops.length→rightF ops li ls i=true
 last:((ops.getD (ops.length - 1) op0).op==40)=true
 rel:∀ i,i < rels.length→relOkF ops rels i=true
theorem check_good {ops:List XOp} {ints:List Int} {strs:List ByteArray} {rels:List XRel} (h:checkF ops ints strs rels=true):Good ops ints.length strs.length rels:=by
 unfold checkF at h;split at h
 ·rename_i h1;split at h
  ·cases h
  ·split at h
   ·cases h
   ·split at h
    ·cases h
    ·split at h
     ·cases h
     ·rename_i h5;split at h
      ·split at h
       ·rename_i h7;simp only[Bool.and_eq_true,decide_eq_true_eq] at h1;exact⟨by omega,by omega,fun i hi=>allF_get _ _ _ h7 i (Nat.zero_le _) (by omega),by simpa using h5,fun i hi=>allF_get _ _ _ h i (Nat.zero_le _) (by omega)⟩
       ·cases h
      ·cases h
 ·cases h
structure OpOk (lo li ls:Nat) (q:Int) (o:XOp):Prop where
 d:0≤o.d∧o.d.toNat < 8
 a:0≤o.a∧o.a.toNat < 8
 b:0≤o.b∧o.b.toNat < 8
 fit:fitsF lo li ls q o.op o.n=true
 name:((formF o.op).name.toList==(⟨#[]⟩:ByteArray).toList)=false
 rd:regF (formF o.op).d o.d=true
 ra:regF (formF o.op).a o.a=true
 rb:regF (formF o.op).b o.b=true
theorem reg_range {has:Bool} {n:Int} (h:regF has n=true):0≤n∧n.toNat < 8:=by
 unfold regF at h;simp only[Bool.or_eq_true,Bool.and_eq_true,decide_eq_true_eq,Bool.not_eq_true',beq_iff_eq] at h;rcases h with h | h <;> omega
theorem right_ok {ops:List XOp} {li ls:Nat} {q:Int} (h:rightF ops li ls q=true):OpOk ops.length li ls q (ops.getD q.toNat op0):=by
 unfold rightF at h;dsimp only at h;generalize ops.getD q.toNat op0=o at *;split at h
 ·rename_i h1;split at h
  ·rename_i h2;split at h
   ·rename_i h3;split at h
    ·rename_i h4;exact⟨reg_range h2,reg_range h3,reg_range h4,h,by simpa using h1,h2,h3,h4⟩
    ·cases h
   ·cases h
  ·cases h
 ·cases h
theorem fits_int {lo li ls:Nat} {q o n:Int} (h:fitsF lo li ls q o n=true) (ho:(o==1)=true):0≤n∧n.toNat < li:=by
 unfold fitsF at h;rw[if_pos ho] at h;simp only[inF,Bool.and_eq_true,decide_eq_true_eq] at h;omega
theorem fits_jump {lo li ls:Nat} {q o n:Int} (h:fitsF lo li ls q o n=true) (ho:o=24∨o=25):q+1≤n∧n≤(lo:Int) - 1:=by
 unfold fitsF at h;rcases ho with rfl | rfl
 ·simp[inF] at h;omega
 ·simp[inF] at h;omega
theorem next_ok {ops:List XOp} {li ls:Nat} {rels:List XRel} (hg:Good ops li ls rels) (q:Nat) (hq:q < ops.length):∀ k ∈ nextF ops q,(q:Int) < k∧k.toNat < ops.length:=by
 have ho:=right_ok (hg.right q hq);have hlast:(ops.getD q op0).op ≠ 40→(q:Int)+1 < ops.length:=fun h=>by
  rcases Nat.lt_or_ge (q+1) ops.length with h1 | h1
  ·omega
  ·exfalso;have:=hg.last;rw[show ops.length - 1=q by omega] at this;exact h (by simpa using this)
 intro k hk;unfold nextF at hk;simp only[Int.toNat_natCast] at hk ho;generalize ops.getD q op0=o at *;split at hk
 ·simp at hk
 ·rename_i h40;have h40':o.op ≠ 40:=by simpa using h40
  have hl:=hlast h40';split at hk
  ·rename_i h24;have:=fits_jump ho.fit (.inl (by simpa using h24));simp at hk;subst hk;omega
  ·split at hk
   ·rename_i h25;have:=fits_jump ho.fit (.inr (by simpa using h25));split at hk
    ·simp at hk;subst hk;omega
    ·simp at hk;rcases hk with rfl | rfl <;> omega
   ·simp at hk;subst hk;omega
theorem uses_nonneg {lo li ls:Nat} {q:Int} {o:XOp} (h:OpOk lo li ls q o):∀ r ∈ usesF o.op o.a o.b,0≤r:=by
 intro r hr;unfold usesF at hr;simp only[List.mem_append] at hr;rcases hr with hr | hr
 ·split at hr
  ·simp at hr;subst hr;exact h.a.1
  ·simp at hr
 ·split at hr
  ·simp at hr;subst hr;exact h.b.1
  ·simp at hr
def z0:XFact:=⟨0,0⟩
def join1 (x y:XFact):XFact:=if (!(x.sort==y.sort&&x.n==y.n))=true then z0 else x
def joinF (a b:List XFact):List XFact:=List.zipWith join1 a b
def step1 (out:List XFact) (s:List (List XFact) × List Bool) (k:Int):List (List XFact) × List Bool:=
 if s.2.getD k.toNat false=true then (s.1.set k.toNat (joinF (s.1.getD k.toNat []) out),s.2) else (s.1.set k.toNat out,s.2.set k.toNat true)
def stepAt (ops:List XOp) (ints:List Int) (rels:List XRel) (i:Nat) (s:List (List XFact) × List Bool):List (List XFact) × List Bool:=
 if s.2.getD i false=true then (nextF ops i).foldl (step1 (behindF ops ints rels (s.1.getD i []) i)) s else s
def flowFrom (ops:List XOp) (ints:List Int) (rels:List XRel):Nat→Nat→List (List XFact) × List Bool→List (List XFact) × List Bool
 | 0,_,s=>s
 | m+1,i,s=>flowFrom ops ints rels m (i+1) (stepAt ops ints rels i s)
def orF (al:List Int) (s k:Int):Int:=bits2 .or .u8 s (al.getD k.toNat 0)
def liveAt (ops:List XOp) (q:Nat) (al:List Int):Int:=
 let o:=ops.getD q op0
 let s0:=(nextF ops q).foldl (orF al) 0
 let s1:=if (formF o.op).d=true then withoutF s0 o.d else s0
 (usesF o.op o.a o.b).foldl withF s1
def livesF (ops:List XOp):Nat→List Int→List Int
 | 0,al=>al
 | m+1,al=>livesF ops m (al.set m (liveAt ops m al))
def Shape (n:Nat) (s:List (List XFact) × List Bool):Prop:=s.1.length=n∧s.2.length=n∧∀ f ∈ s.1,f.length=8
theorem Shape.get {n:Nat} {s:List (List XFact) × List Bool} (h:Shape n s) {i:Nat} (hi:i < n):(s.1.getD i []).length=8:=by
 have h1:i < s.1.length:=by rw[h.1];exact hi
 have:=List.mem_of_getElem? (getD_get (d:=[]) h1);exact h.2.2 _ this
theorem shape_set {n:Nat} {s:List (List XFact) × List Bool} (h:Shape n s) (k:Nat) {f:List XFact} (hf:f.length=8) (r:List Bool) (hr:r.length=n):Shape n (s.1.set k f,r):=
 ⟨by simpa using h.1,hr,fun g hg=>by
   rcases List.mem_or_eq_of_mem_set hg with hg | rfl
   ·exact h.2.2 g hg
   ·exact hf⟩
theorem join_len {a b:List XFact} (ha:a.length=8) (hb:b.length=8):(joinF a b).length=8:=by simp[joinF,ha,hb]
theorem shape_step1 {n:Nat} {s:List (List XFact) × List Bool} (h:Shape n s) {out:List XFact} (ho:out.length=8) (k:Int) (hk:k.toNat < n):Shape n (step1 out s k):=by
 unfold step1;split
 ·exact shape_set h _ (join_len (h.get hk) ho) _ h.2.1
 ·exact shape_set h _ ho _ (by simpa using h.2.1)
theorem behind_len {ops:List XOp} {ints:List Int} {rels:List XRel} {f:List XFact} {q:Int} (h:f.length=8):(behindF ops ints rels f q).length=8:=by
 unfold behindF;dsimp only;repeat' split
 all_goals simp[h]
theorem shape_fold {n:Nat} {out:List XFact} (ho:out.length=8):∀ (l:List Int) (s:List (List XFact) × List Bool),Shape n s→(∀ k ∈ l,k.toNat < n)→Shape n (l.foldl (step1 out) s)
 | [],s,h,_=>h
 | k::l,s,h,hl=>shape_fold ho l _ (shape_step1 h ho k (hl k (by simp))) fun k hk=>hl k (by simp[hk])
def midJ (b out:List XFact) (r:Nat):List XFact:=(joinF b out).take r++b.drop r
theorem midJ_get (b out:List XFact) (r:Nat) (h:r < b.length) (h2:r < out.length):(midJ b out r)[r]? = some (b[r]'h):=by
 simp[midJ,joinF,List.getElem?_append,h,h2];rw[show min r (min b.length out.length)=r by omega];simp[h]
theorem midJ_step (b out:List XFact) (r:Nat) (h:r < b.length) (h2:r < out.length):(midJ b out r).set r (join1 (b[r]'h) (out[r]'h2))=midJ b out (r+1):=by
 have e1:b.drop r=b[r]'h::b.drop (r+1):=List.drop_eq_getElem_cons h;have hl:r < (joinF b out).length:=by simp[joinF];omega
 have e2:(joinF b out).take (r+1)=(joinF b out).take r++[join1 (b[r]'h) (out[r]'h2)]:=by
  rw[List.take_add_one,List.getElem?_eq_getElem hl];simp[joinF]
 unfold midJ;rw[e1,e2,List.set_append_right _ _ (by simp;omega)];have:r - ((joinF b out).take r).length=0:=by simp;omega
 rw[this,List.set_cons_zero,List.append_assoc];rfl
theorem midJ_same (b out:List XFact) (r:Nat) (h:r < b.length) (h2:r < out.length) (hs:join1 (b[r]'h) (out[r]'h2)=b[r]'h):midJ b out r=midJ b out (r+1):=by
 rw[← midJ_step b out r h h2,hs];apply List.ext_getElem?;intro j;rw[List.getElem?_set];by_cases hj:r=j
 ·subst hj;rw[midJ_get b out r h h2];have:r < (midJ b out r).length:=(List.getElem?_eq_some_iff.1 (midJ_get b out r h h2)).1;simp[this]
 ·simp[hj]
theorem midJ_end (b out:List XFact) (hb:b.length=8) (ho:out.length=8) (r:Nat) (h:8≤r):midJ b out r=joinF b out:=by
 unfold midJ;rw[List.take_of_length_le (by rw[join_len hb ho];exact h),List.drop_of_length_le (by omega),List.append_nil]
theorem set_same {α:Type} (l:List α) (i:Nat) (x:α) (h:l[i]? = some x):l.set i x=l:=by
 apply List.ext_getElem?;intro j;rw[List.getElem?_set];by_cases hj:i=j
 ·subst hj;have:i < l.length:=(List.getElem?_eq_some_iff.1 h).1;rw[if_pos rfl,if_pos this,h]
 ·simp[hj]
def H34:Nat→Hint:=fun i=>if i=6 then ({ tm:=[1,3,4,39,40],ob:=[1,23,25,27,29],fin:=some ([1,3,4],[1,23,25,27,29]) }:Hint) else if i=11 then ({ tm:=[1,3,4,6,39,40,56,57,58],ob:=[1,6,23,25,27,29],fin:=some ([1,3,4,39,40],[1,23,25,27,29]) }:Hint) else if i=16 then ({ tm:=[1,3,4,6,8,39,40,56,57,58,83],ob:=[1,6,23,25,27,29],fin:=some ([1,3,4,6,39,40,56,57,58],[1,6,23,25,27,29]) }:Hint) else if i=24 then ({ tm:=[1,4,10],ob:=[1,23,25,27,29],fin:=some ([1,4],[1,23,25,27,29]) }:Hint) else if i=28 then ({ tm:=[1,4,10,11,119,120,121],ob:=[1,23,25,27,29],fin:=some ([1,4,10,11],[1,23,25,27,29]) }:Hint) else if i=36 then ({ tm:=[1,4,10,11,153,154,155],ob:=[1,23,25,27,29],fin:=some ([1,4,10,11],[1,23,25,27,29]) }:Hint) else { tm:=[],ob:=[] }
theorem H34_6:H34 6=({ tm:=[1,3,4,39,40],ob:=[1,23,25,27,29],fin:=some ([1,3,4],[1,23,25,27,29]) }:Hint):=by simp[H34]
theorem H34_11:H34 11=({ tm:=[1,3,4,6,39,40,56,57,58],ob:=[1,6,23,25,27,29],fin:=some ([1,3,4,39,40],[1,23,25,27,29]) }:Hint):=by simp[H34]
theorem H34_16:H34 16=({ tm:=[1,3,4,6,8,39,40,56,57,58,83],ob:=[1,6,23,25,27,29],fin:=some ([1,3,4,6,39,40,56,57,58],[1,6,23,25,27,29]) }:Hint):=by simp[H34]
theorem H34_24:H34 24=({ tm:=[1,4,10],ob:=[1,23,25,27,29],fin:=some ([1,4],[1,23,25,27,29]) }:Hint):=by simp[H34]
theorem H34_28:H34 28=({ tm:=[1,4,10,11,119,120,121],ob:=[1,23,25,27,29],fin:=some ([1,4,10,11],[1,23,25,27,29]) }:Hint):=by simp[H34]
theorem H34_36:H34 36=({ tm:=[1,4,10,11,153,154,155],ob:=[1,23,25,27,29],fin:=some ([1,4,10,11],[1,23,25,27,29]) }:Hint):=by simp[H34]
theorem h34:Tryd.prog.funcs[18]? = some f18:=by kernel_rfl
def D34:Nat→Option (List DH × List Nat):=fun i=>match i with | 2=>some ([⟨[23,25,27],[],[23,25,27]⟩,⟨[25,27],[],[23,25,27]⟩,⟨[25,27],[23],[25,27]⟩,⟨[23,27],[],[23,25,27]⟩,⟨[23,27],[25],[23,27]⟩,⟨[23,25],[],[23,25,27]⟩,⟨[23,25],[27],[23,25]⟩,⟨[],[],[]⟩,⟨[],[],[]⟩,⟨[],[],[]⟩],[23,25,27]) | 14=>some ([⟨[],[],[]⟩,⟨[],[],[]⟩,⟨[],[],[]⟩,⟨[],[],[]⟩,⟨[],[],[]⟩,⟨[],[],[]⟩,⟨[],[],[]⟩,⟨[],[],[]⟩,⟨[],[],[]⟩,⟨[25],[],[]⟩,⟨[25],[],[]⟩,⟨[],[],[]⟩,⟨[],[25],[]⟩,⟨[],[],[]⟩,⟨[],[],[]⟩],[]) | _=>none
theorem D34_2:D34 2=some ([⟨[23,25,27],[],[23,25,27]⟩,⟨[25,27],[],[23,25,27]⟩,⟨[25,27],[23],[25,27]⟩,⟨[23,27],[],[23,25,27]⟩,⟨[23,27],[25],[23,27]⟩,⟨[23,25],[],[23,25,27]⟩,⟨[23,25],[27],[23,25]⟩,⟨[],[],[]⟩,⟨[],[],[]⟩,⟨[],[],[]⟩],[23,25,27]):=rfl
theorem D34_14:D34 14=some ([⟨[],[],[]⟩,⟨[],[],[]⟩,⟨[],[],[]⟩,⟨[],[],[]⟩,⟨[],[],[]⟩,⟨[],[],[]⟩,⟨[],[],[]⟩,⟨[],[],[]⟩,⟨[],[],[]⟩,⟨[25],[],[]⟩,⟨[25],[],[]⟩,⟨[],[],[]⟩,⟨[],[25],[]⟩,⟨[],[],[]⟩,⟨[],[],[]⟩],[]):=rfl
theorem D34_18:D34 18=none:=rfl
theorem loop34_16 (v1 v3 v39 v40:AV) (o1:Abs.Obj) (C:AV) (f29:Bool) (n:Nat) (v56 v57 v58:AV) (o25 o27:Abs.Obj) (q:Int) (b out:List XFact) (before:List (List XFact)) (hq0:0≤q) (hqn:q.toNat < n) (hbn:before.length=n) (hb:b.length=8) (ho:out.length=8) (A:Nat→Prop) (k:Nat):∀ (m i:Nat) (σ:St),i+m=8→
 σ.keep (H34 16)=⟨[(1,v1),(3,v3),(4,.ptr 29 (.box 74) []),(6,.ptr 6 (.box 78) []),(8,.int .i64 q),(39,v39),(40,v40),(56,v56),(57,v57),(58,v58),(83,.int .i64 i)],[(1,o1),(6,⟨.box 78,true,[eFacts out]⟩),(23,⟨.row 78,true,(before.set q.toNat (midJ b out (i))).map eFacts⟩),(25,o25),(27,o27),(29,⟨.box 74,f29,[.st 74 [C,.own 23 78 0 n,.own 25 4 0 n,.own 27 82 0 n]]⟩)]⟩→
 post (H34 16) (aloop ty (arun (env 171 171292023879903695822898525277610645158843576191 D34 [(33,c56),(34,c57),(35,c58),(36,c59),(37,c60),(38,c61)] [] A) H34 k (sub (f18.body.getD .skip) [1,1,1,1,0,1,0,0,1,1,0,0,1,1,1,1,0,0,1,1,0,0,1,1,1,0,0])) (H34 16) (m+1) σ)=some (.exit 4,⟨[(1,v1),(3,v3),(4,.ptr 29 (.box 74) []),(6,.ptr 6 (.box 78) []),(39,v39),(40,v40),(56,v56),(57,v57),(58,v58)],[(1,o1),(6,⟨.box 78,true,[eFacts out]⟩),(23,⟨.row 78,true,(before.set q.toNat (midJ b out (8))).map eFacts⟩),(25,o25),(27,o27),(29,⟨.box 74,f29,[.st 74 [C,.own 23 78 0 n,.own 25 4 0 n,.own 27 82 0 n]]⟩)]⟩):=by
 simp only[f18,sub,Option.getD_some,H34_16];intro m
 induction m with
 | zero=>
   intro i σ hi hσ;have h1:¬ ((i:Int) < 8):=by omega
   have h8:midJ b out i=midJ b out 8:=by rw[show i=8 by omega]
   rw[aloop,hσ];simp only[go_sem,h1];simp[post,St.fin,keepL,aget,h8]
 | succ m ih=>
   intro i σ hi hσ;have h1:(i:Int) < 8:=by omega
   have h1c:(i:Int) < (8:Int):=by omega
   have hni:(0:Int)≤(i:Int):=Int.natCast_nonneg i;have hw:IntKind.i64.wrap ((i:Int)+1)=((i+1:Nat):Int):=wrap_nat (by omega);have hqi:q < (n:Int):=by omega
   have hlt:i < b.length:=by omega
   have hlt2:i < out.length:=by omega
   have hget:=midJ_get b out i hlt hlt2;have hgo:out[i]? = some (out[i]'hlt2):=List.getElem?_eq_getElem hlt2;have hst:=midJ_step b out i hlt hlt2;have hsm:=midJ_same b out i hlt hlt2;have hset1:=set_map eFact (midJ b out i) i z0;have hgq:(before.set q.toNat (midJ b out i))[q.toNat]? = some (midJ b out i):=by
    rw[List.getElem?_set];simp;omega
   have hsetA:∀ M',(List.map eFacts (before.set q.toNat (midJ b out i))).set q.toNat (.ar 78 (List.map eFact M'))=List.map eFacts (before.set q.toNat M'):=fun M'=>by
    have:=set_map eFacts (before.set q.toNat (midJ b out i)) q.toNat M';simp only[List.set_set] at this;exact this
   rw[aloop,hσ];generalize b[i]=x at *;generalize out[i]=y at *;simp only[join1] at hst hsm;simp only[z0,eFact] at hset1;cases hg:(x.sort==y.sort&&x.n==y.n)
   all_goals
    rw[hg] at hst hsm;simp only[forall_const,z0,BL] at hst hsm;simp only[go_sem,D34_2,D34_14,D34_18,h1,h1c,hni,hqi,hq0,hget,hgo,hgq,hw,hg,eFacts,eFact,hset1,hsetA,hbn];exact ih (i+1) _ (by omega) (by simp only[go_sem,hst,← hsm,eFacts])
theorem loop34_11 (v1 v3 v39 v40:AV) (o1:Abs.Obj) (C:AV) (f29:Bool) (n:Nat) (o27:Abs.Obj) (out:List XFact) (ks:List Int) (hks:ks.length≤2) (hkn:∀ q ∈ ks,0≤q∧q.toNat < n) (ho:out.length=8) (A:Nat→Prop) (k:Nat) (hk9:9≤k):∀ (m j:Nat) (before:List (List XFact)) (reached:List Bool) (σ:St),Shape n (before,reached)→j+m=ks.length→
 σ.keep (H34 11)=⟨[(1,v1),(3,v3),(4,.ptr 29 (.box 74) []),(6,.ptr 6 (.box 78) []),(39,v39),(40,v40),(56,.sl 3 gT (ks.map eI)),(57,.int .i64 ks.length),(58,.int .i64 j)],[(1,o1),(6,⟨.box 78,true,[eFacts out]⟩),(23,⟨.row 78,true,(before).map eFacts⟩),(25,⟨.row 4,true,(reached).map eB⟩),(27,o27),(29,⟨.box 74,f29,[.st 74 [C,.own 23 78 0 n,.own 25 4 0 n,.own 27 82 0 n]]⟩)]⟩→
 post (H34 11) (aloop ty (arun (env 171 171292023879903695822898525277610645158843576191 D34 [(33,c56),(34,c57),(35,c58),(36,c59),(37,c60),(38,c61)] [] A) H34 k (sub (f18.body.getD .skip) [1,1,1,1,0,1,0,0,1,1,0,0,1,1,1,1,0,0])) (H34 11) (m+1) σ)=some (.exit 2,⟨[(1,v1),(3,v3),(4,.ptr 29 (.box 74) []),(39,v39),(40,v40)],[(1,o1),(23,⟨.row 78,true,(((ks.drop j).foldl (step1 out) (before,reached)).1).map eFacts⟩),(25,⟨.row 4,true,(((ks.drop j).foldl (step1 out) (before,reached)).2).map eB⟩),(27,o27),(29,⟨.box 74,f29,[.st 74 [C,.own 23 78 0 n,.own 25 4 0 n,.own 27 82 0 n]]⟩)]⟩):=by
 simp only[f18,sub,Option.getD_some,H34_11];intro m
 induction m with
 | zero=>
   intro j before reached σ hsh hj hσ;have h1:¬ ((j:Int) < (ks.length:Int)):=by omega
   have h8:ks.drop j=[]:=List.drop_of_length_le (by omega);rw[aloop,hσ];simp only[go_sem,h1];simp[post,St.fin,keepL,aget,h8]
 | succ m ih=>
   intro j before reached σ hsh hj hσ;have h1:(j:Int) < (ks.length:Int):=by omega
   have hlt:j < ks.length:=by omega
   have hni:(0:Int)≤(j:Int):=Int.natCast_nonneg j;have hw:IntKind.i64.wrap ((j:Int)+1)=((j+1:Nat):Int):=wrap_nat (by omega);have hgk:ks[j]? = some (ks[j]'hlt):=List.getElem?_eq_getElem hlt;have hd:ks.drop j=ks[j]'hlt::ks.drop (j+1):=List.drop_eq_getElem_cons hlt;obtain⟨hq0,hqn⟩:=hkn _ (List.getElem_mem hlt);rw[aloop,hσ,hd,List.foldl_cons];generalize ks[j]=q at *;have hqi:q < (n:Int):=by omega
   have hgr:=getD_get (d:=false) (show q.toNat < reached.length by rw[hsh.2.1];exact hqn);have hgb:=getD_get (d:=[]) (show q.toNat < before.length by rw[hsh.1];exact hqn);have hbl:=hsh.get hqn;have hsh':=shape_step1 hsh ho q hqn;have hsr:∀ b,(List.map eB reached).set q.toNat (.bool b)=List.map eB (reached.set q.toNat b):=fun b=>set_map eB reached q.toNat b
   have hsb:(List.map eFacts before).set q.toNat (.ar 78 (List.map eFact out))=List.map eFacts (before.set q.toNat out):=set_map eFacts before q.toNat out;have hlr:reached.length=n:=hsh.2.1;have hlb:before.length=n:=hsh.1;simp only[step1] at hsh' ⊢;cases hr:reached.getD q.toNat false
   ·rw[hr] at hgr hsh';simp only[BL] at hsh' ⊢;simp only[go_sem,D34_2,D34_14,D34_18,h1,hni,hqi,hq0,hgk,hgr,hgb,hw,hsr,hsb,hlr,hlb,H34_16,eFacts];exact ih (j+1) _ _ _ hsh' (by omega) (by simp only[go_sem,eFacts])
   ·rw[hr] at hgr hsh';simp only[BL] at hsh' ⊢;have hl:=loop34_16 v1 v3 v39 v40 o1 C f29 n (.sl 3 gT (ks.map eI)) (.int .i64 ks.length) (.int .i64 j) ⟨.row 4,true,reached.map eB⟩ o27 q (before.getD q.toNat []) out before hq0 hqn hlb hbl ho A k 8 0;simp only[f18,sub,Option.getD_some,H34_16] at hl;have hm0:before.set q.toNat (midJ (before.getD q.toNat []) out 0)=before:=set_same _ _ _ hgb;have hm8:midJ (before.getD q.toNat []) out 8=joinF (before.getD q.toNat []) out:=midJ_end _ _ hbl ho 8 (Nat.le_refl _);simp only[go_sem,D34_2,D34_14,D34_18,h1,hni,hqi,hq0,hgk,hgr,hgb,hw,hsr,hsb,hlr,hlb,H34_16];rw[post_le (hl _ (by simp) (by simp only[go_sem,hm0])) hk9];rw[hm8];simp only[go_sem,D34_2,D34_14,D34_18,h1,hni,hqi,hq0,hgk,hgr,hgb,hw,hsr,hsb,hlr,hlb,H34_16];exact ih (j+1) _ _ _ hsh' (by omega) (by simp only[go_sem])
theorem loop34_6 (alive:List Int) (hp:((LM ops ints strs rels)∧∀ r ∈ rels,r.str.size≤9223372036854775807∧r.mem.size≤9223372036854775807)∧checkF ops ints strs rels=true) (A:Nat→Prop) (k:Nat) (hk9:9≤k):∀ (m i:Nat) (before:List (List XFact)) (reached:List Bool) (σ:St),Shape ops.length (before,reached)→alive.length=ops.length→i+m=ops.length→
 σ.keep (H34 6)=⟨[(1,.ptr 1 (.box 27) []),(3,.int .i64 ops.length),(4,.ptr 29 (.box 74) []),(39,.int .i64 ops.length),(40,.int .i64 i)],[(1,(bC ops ints strs rels)),(23,⟨.row 78,true,(before).map eFacts⟩),(25,⟨.row 4,true,(reached).map eB⟩),(27,⟨.row 82,true,(alive).map eU⟩),(29,⟨.box 74,false,[.st 74 [(cd ops ints strs rels),.own 23 78 0 ops.length,.own 25 4 0 ops.length,.own 27 82 0 ops.length]]⟩)]⟩→
 post (H34 6) (aloop ty (arun (env 171 171292023879903695822898525277610645158843576191 D34 [(33,c56),(34,c57),(35,c58),(36,c59),(37,c60),(38,c61)] [] A) H34 k (sub (f18.body.getD .skip) [1,1,1,1,0,1,0,0])) (H34 6) (m+1) σ)=some (.exit 0,⟨[(1,.ptr 1 (.box 27) []),(3,.int .i64 ops.length),(4,.ptr 29 (.box 74) [])],[(1,(bC ops ints strs rels)),(23,⟨.row 78,true,((flowFrom ops ints rels m i (before,reached)).1).map eFacts⟩),(25,⟨.row 4,true,((flowFrom ops ints rels m i (before,reached)).2).map eB⟩),(27,⟨.row 82,true,(alive).map eU⟩),(29,⟨.box 74,false,[.st 74 [(cd ops ints strs rels),.own 23 78 0 ops.length,.own 25 4 0 ops.length,.own 27 82 0 ops.length]]⟩)]⟩):=by
 simp only[f18,sub,Option.getD_some,H34_6];have hg:=check_good hp.2;have hlim:=hp.1.1;intro m
 induction m with
 | zero=>
   intro i before reached σ hsh hal hi hσ;have h1:¬ ((i:Int) < (ops.length:Int)):=by omega
   rw[aloop,hσ];simp only[go_sem,h1];simp[post,St.fin,keepL,aget,flowFrom]
 | succ m ih=>
   intro i before reached σ hsh hal hi hσ;have h1:(i:Int) < (ops.length:Int):=by omega
   have hlt:i < ops.length:=by omega
   have hni:(0:Int)≤(i:Int):=Int.natCast_nonneg i;have hw:IntKind.i64.wrap ((i:Int)+1)=((i+1:Nat):Int):=wrap_nat (by omega);have hlr:reached.length=ops.length:=hsh.2.1;have hlb:before.length=ops.length:=hsh.1;have hgr:=getD_get (d:=false) (show i < reached.length by omega);have hgb:=getD_get (d:=[]) (show i < before.length by omega);have hbl:=hsh.get hlt;have hok:=right_ok (hg.right i hlt);have e56:=c56_eq ops ints strs rels before reached alive false i ⟨hlim.2.2.2,hni,by simpa using hlt,by simp only[Int.toNat_natCast];omega,by simpa using hbl,⟨hok.a,hok.d,fun h=>fits_int hok.fit h⟩⟩;have e57:=c57_eq ops ints strs rels i hp.1;have hin:(decide (0≤(i:Int))&&decide ((i:Int)≤(ops.length:Int) - 1))=true:=by simp;omega
   simp only[nextEF,hp.2,hin,Int.toNat_natCast,BL] at e56 e57;have hnl:=next_ok hg i hlt;rw[aloop,hσ];simp only[flowFrom,stepAt];cases hr:reached.getD i false
   ·rw[hr] at hgr;simp only[BL] at ⊢;simp only[go_sem,D34_2,D34_14,D34_18,h1,hni,hgr,hgb,hw,e56,e57,hlr,hlb,hal,H34_11,eFacts];exact ih (i+1) _ _ _ hsh hal (by omega) (by simp only[go_sem])
   ·rw[hr] at hgr;simp only[BL];have hbo:=behind_len (ops:=ops) (ints:=ints) (rels:=rels) (q:=(i:Int)) hbl;have hks:(nextF ops i).length≤2:=by
     unfold nextF;dsimp only;split
     ·simp
     split
     ·simp
     split
     ·split <;> simp
     simp
    have hkn:∀ q ∈ nextF ops i,0≤q∧q.toNat < ops.length:=fun q hq=>by have:=hnl q hq;omega
    generalize behindF ops ints rels (before.getD i []) i=out at *;generalize nextF ops i=ks at *;have hl:=loop34_11 (.ptr 1 (.box 27) []) (.int .i64 ops.length) (.int .i64 ops.length) (.int .i64 i) (bC ops ints strs rels) ((cd ops ints strs rels)) false ops.length ⟨.row 82,true,alive.map eU⟩ out ks hks hkn hbo A k hk9 ks.length 0 before reached;simp only[f18,sub,Option.getD_some,H34_11,List.drop_zero] at hl;have hsf:=shape_fold hbo ks _ hsh fun q hq=>(hkn q hq).2
    simp only[go_sem,D34_2,D34_14,D34_18,h1,hni,hgr,hgb,hw,e56,e57,hlr,hlb,hal,H34_11,eFacts];rw[post_le (hl _ hsh (by simp) (by simp only[go_sem,eFacts])) (by omega)];simp only[go_sem,D34_2,D34_14,D34_18,h1,hni,hgr,hgb,hw,e56,e57,hlr,hlb,hal,H34_11,eFacts];exact ih (i+1) _ _ _ hsf hal (by omega) (by simp only[go_sem])
theorem loop34_28 (v1 v10:AV) (o1 o23 o25:Abs.Obj) (C:AV) (f29:Bool) (n:Nat) (ks al:List Int) (hks:ks.length≤2) (hal:al.length=n) (hkn:∀ q ∈ ks,0≤q∧q.toNat < n) (A:Nat→Prop) (k:Nat):∀ (m j:Nat) (s:Int) (σ:St),j+m=ks.length→
 σ.keep (H34 28)=⟨[(1,v1),(4,.ptr 29 (.box 74) []),(10,v10),(11,.int .u8 s),(119,.sl 3 gT (ks.map eI)),(120,.int .i64 ks.length),(121,.int .i64 j)],[(1,o1),(23,o23),(25,o25),(27,⟨.row 82,true,al.map eU⟩),(29,⟨.box 74,f29,[.st 74 [C,.own 23 78 0 n,.own 25 4 0 n,.own 27 82 0 n]]⟩)]⟩→
 post (H34 28) (aloop ty (arun (env 171 171292023879903695822898525277610645158843576191 D34 [(33,c56),(34,c57),(35,c58),(36,c59),(37,c60),(38,c61)] [] A) H34 k (sub (f18.body.getD .skip) [1,1,1,1,1,0,1,0,0,1,0,0,1,0,1,0,0])) (H34 28) (m+1) σ)=some (.exit 8,⟨[(1,v1),(4,.ptr 29 (.box 74) []),(10,v10),(11,.int .u8 ((ks.drop j).foldl (orF al) s))],[(1,o1),(23,o23),(25,o25),(27,⟨.row 82,true,al.map eU⟩),(29,⟨.box 74,f29,[.st 74 [C,.own 23 78 0 n,.own 25 4 0 n,.own 27 82 0 n]]⟩)]⟩):=by
 simp only[f18,sub,Option.getD_some,H34_28];intro m
 induction m with
 | zero=>
   intro j s σ hj hσ;have h1:¬ ((j:Int) < (ks.length:Int)):=by omega
   have h8:ks.drop j=[]:=List.drop_of_length_le (by omega);rw[aloop,hσ];simp only[go_sem,h1];simp[post,St.fin,keepL,aget,h8]
 | succ m ih=>
   intro j s σ hj hσ;have h1:(j:Int) < (ks.length:Int):=by omega
   have hlt:j < ks.length:=by omega
   have hni:(0:Int)≤(j:Int):=Int.natCast_nonneg j;have hw:IntKind.i64.wrap ((j:Int)+1)=((j+1:Nat):Int):=wrap_nat (by omega);have hgk:ks[j]? = some (ks[j]'hlt):=List.getElem?_eq_getElem hlt;have hd:ks.drop j=ks[j]'hlt::ks.drop (j+1):=List.drop_eq_getElem_cons hlt;have hq:=hkn _ (List.getElem_mem hlt);rw[aloop,hσ,hd,List.foldl_cons];generalize ks[j]=q at *;obtain⟨hq0,hqn⟩:=hq;have hqi:q < (n:Int):=by omega
   have hga:=getD_get (d:=0) (show q.toNat < al.length by omega);simp only[orF];simp only[go_sem,D34_2,D34_14,D34_18,h1,hni,hgk,hw,hq0,hqi,hga,hal];exact ih (j+1) _ _ (by omega) (by simp only[go_sem])
theorem loop34_36 (v1 v10:AV) (o1 o23 o25:Abs.Obj) (C:AV) (f29:Bool) (n:Nat) (ks al:List Int) (hks:ks.length≤2) (hkn:∀ q ∈ ks,0≤q) (A:Nat→Prop) (k:Nat):∀ (m j:Nat) (s:Int) (σ:St),j+m=ks.length→
 σ.keep (H34 36)=⟨[(1,v1),(4,.ptr 29 (.box 74) []),(10,v10),(11,.int .u8 s),(153,.sl 3 gT (ks.map eI)),(154,.int .i64 ks.length),(155,.int .i64 j)],[(1,o1),(23,o23),(25,o25),(27,⟨.row 82,true,al.map eU⟩),(29,⟨.box 74,f29,[.st 74 [C,.own 23 78 0 n,.own 25 4 0 n,.own 27 82 0 n]]⟩)]⟩→
 post (H34 36) (aloop ty (arun (env 171 171292023879903695822898525277610645158843576191 D34 [(33,c56),(34,c57),(35,c58),(36,c59),(37,c60),(38,c61)] [] A) H34 k (sub (f18.body.getD .skip) [1,1,1,1,1,0,1,0,0,1,0,0,1,1,1,0,1,0,0])) (H34 36) (m+1) σ)=some (.exit 10,⟨[(1,v1),(4,.ptr 29 (.box 74) []),(10,v10),(11,.int .u8 ((ks.drop j).foldl (withF) s))],[(1,o1),(23,o23),(25,o25),(27,⟨.row 82,true,al.map eU⟩),(29,⟨.box 74,f29,[.st 74 [C,.own 23 78 0 n,.own 25 4 0 n,.own 27 82 0 n]]⟩)]⟩):=by
 simp only[f18,sub,Option.getD_some,H34_36];intro m
 induction m with
 | zero=>
   intro j s σ hj hσ;have h1:¬ ((j:Int) < (ks.length:Int)):=by omega
   have h8:ks.drop j=[]:=List.drop_of_length_le (by omega);rw[aloop,hσ];simp only[go_sem,h1];simp[post,St.fin,keepL,aget,h8]
 | succ m ih=>
   intro j s σ hj hσ;have h1:(j:Int) < (ks.length:Int):=by omega
   have hlt:j < ks.length:=by omega
   have hni:(0:Int)≤(j:Int):=Int.natCast_nonneg j;have hw:IntKind.i64.wrap ((j:Int)+1)=((j+1:Nat):Int):=wrap_nat (by omega);have hgk:ks[j]? = some (ks[j]'hlt):=List.getElem?_eq_getElem hlt;have hd:ks.drop j=ks[j]'hlt::ks.drop (j+1):=List.drop_eq_getElem_cons hlt;have hq:=hkn _ (List.getElem_mem hlt);rw[aloop,hσ,hd,List.foldl_cons];generalize ks[j]=q at *;have e61:=c61_eq s q hq;simp only[go_sem,D34_2,D34_14,D34_18,h1,hni,hgk,hw,e61];exact ih (j+1) _ _ (by omega) (by simp only[go_sem])
theorem loop34_24 (o23 o25:Abs.Obj) (hp:((LM ops ints strs rels)∧∀ r ∈ rels,r.str.size≤9223372036854775807∧r.mem.size≤9223372036854775807)∧checkF ops ints strs rels=true) (A:Nat→Prop) (k:Nat) (hk9:9≤k):∀ (m:Nat) (al:List Int) (σ:St),al.length=ops.length→m≤ops.length→
 σ.keep (H34 24)=⟨[(1,.ptr 1 (.box 27) []),(4,.ptr 29 (.box 74) []),(10,.int .i64 ((m:Int) - 1))],[(1,(bC ops ints strs rels)),(23,o23),(25,o25),(27,⟨.row 82,true,(al).map eU⟩),(29,⟨.box 74,false,[.st 74 [(cd ops ints strs rels),.own 23 78 0 ops.length,.own 25 4 0 ops.length,.own 27 82 0 ops.length]]⟩)]⟩→
 post (H34 24) (aloop ty (arun (env 171 171292023879903695822898525277610645158843576191 D34 [(33,c56),(34,c57),(35,c58),(36,c59),(37,c60),(38,c61)] [] A) H34 k (sub (f18.body.getD .skip) [1,1,1,1,1,0,1,0,0])) (H34 24) (m+1) σ)=some (.exit 6,⟨[(1,.ptr 1 (.box 27) []),(4,.ptr 29 (.box 74) [])],[(1,(bC ops ints strs rels)),(23,o23),(25,o25),(27,⟨.row 82,true,(livesF ops m al).map eU⟩),(29,⟨.box 74,false,[.st 74 [(cd ops ints strs rels),.own 23 78 0 ops.length,.own 25 4 0 ops.length,.own 27 82 0 ops.length]]⟩)]⟩):=by
 simp only[f18,sub,Option.getD_some,H34_24];have hg:=check_good hp.2;have hlim:=hp.1.1;intro m
 induction m with
 | zero=>
   intro al σ hal hm hσ;have h1:decide ((0:Int)≤((0:Nat):Int) - 1)=false:=by decide
   rw[aloop,hσ];simp only[go_sem,h1];simp[post,St.fin,keepL,aget,livesF]
 | succ m ih=>
   intro al σ hal hm hσ;have hm1:((m+1:Nat):Int) - 1=(m:Int):=by omega
   rw[hm1] at hσ;have h1:decide ((0:Int)≤(m:Int))=true:=by simp
   have hlt:m < ops.length:=by omega
   have hni:(0:Int)≤(m:Int):=Int.natCast_nonneg m;have hmi:(m:Int) < (ops.length:Int):=by omega
   have hw:IntKind.i64.wrap ((m:Int) - 1)=(m:Int) - 1:=wrap_i64 (by omega) (by omega);have hok:=right_ok (hg.right m hlt);have hun:=uses_nonneg hok;have e57:=c57_eq ops ints strs rels m hp.1;have hin:(decide (0≤(m:Int))&&decide ((m:Int)≤(ops.length:Int) - 1))=true:=by simp;omega
   simp only[nextEF,hp.2,hin,Int.toNat_natCast,BL] at e57;have hnl:=next_ok hg m hlt;have hgo:=getD_get (d:=op0) hlt;have hga:=getD_get (d:=0) (show m < al.length by omega);rw[aloop,hσ];simp only[livesF,liveAt];simp only[Int.toNat_natCast] at hok hun;generalize ops.getD m op0=x at *;have hks:(nextF ops m).length≤2:=by
    unfold nextF;dsimp only;split
    ·simp
    split
    ·simp
    split
    ·split <;> simp
    simp
   have hkn:∀ q ∈ nextF ops m,0≤q∧q.toNat < ops.length:=fun q hq=>by have:=hnl q hq;omega
   have hus:(usesF x.op x.a x.b).length≤2:=by
    unfold usesF;split <;> split <;> simp
   have e58:=c58_eq x.op x.d x.a x.b x.n;have e60:=c60_eq x.op x.d x.a x.b x.n;generalize nextF ops m=ks at *;generalize usesF x.op x.a x.b=us at *;have hl:=loop34_28 (.ptr 1 (.box 27) []) (.int .i64 m) (bC ops ints strs rels) o23 o25 ((cd ops ints strs rels)) false ops.length ks al hks hal hkn A k ks.length 0 0;have hl2:=fun s=>loop34_36 (.ptr 1 (.box 27) []) (.int .i64 m) (bC ops ints strs rels) o23 o25 ((cd ops ints strs rels)) false ops.length us al hus hun A k us.length 0 s
   simp only[f18,sub,Option.getD_some,H34_28,H34_36,List.drop_zero] at hl hl2;have hsa:∀ v,(List.map eU al).set m (.int .u8 v)=List.map eU (al.set m v):=fun v=>set_map eU al m v
   simp only[go_sem,D34_2,D34_14,D34_18,h1,hni,hmi,hw,e57,e58,e60,hgo,hga,hal,hsa,H34_28,H34_36];rw[post_le (hl _ (by simp) (by simp only[go_sem])) (by omega)];simp only[go_sem,D34_2,D34_14,D34_18,h1,hni,hmi,hw,e57,e58,e60,hgo,hga,hal,hsa,H34_28,H34_36];generalize ks.foldl (orF al) 0=s0 at *;cases hd:(formF x.op).d
   ·rw[hd] at e58;simp only[BL] at e58 ⊢;simp only[go_sem,D34_2,D34_14,D34_18,h1,hni,hmi,hw,e57,e58,e60,hgo,hga,hal,hsa,H34_28,H34_36];rw[post_le (hl2 s0 _ (by simp) (by simp only[go_sem])) (by omega)];simp only[go_sem,D34_2,D34_14,D34_18,h1,hni,hmi,hw,e57,e58,e60,hgo,hga,hal,hsa,H34_28,H34_36];exact ih _ _ (by simpa using hal) (by omega) (by simp only[go_sem])
   ·rw[hd] at e58;simp only[BL] at e58 ⊢;have e59:=c59_eq s0 x.d hok.d.1;simp only[go_sem,D34_2,D34_14,D34_18,h1,hni,hmi,hw,e57,e58,e60,hgo,hga,hal,hsa,H34_28,H34_36,e59];rw[post_le (hl2 (withoutF s0 x.d) _ (by simp) (by simp only[go_sem])) (by omega)];simp only[go_sem,D34_2,D34_14,D34_18,h1,hni,hmi,hw,e57,e58,e60,hgo,hga,hal,hsa,H34_28,H34_36];exact ih _ _ (by simpa using hal) (by omega) (by simp only[go_sem])
def start0 (n:Nat):List (List XFact) × List Bool:=(List.replicate n (List.replicate 8 z0),(List.replicate n false).set 0 true)
def workS (ops:List XOp) (ints:List Int) (rels:List XRel):List (List XFact) × List Bool:=flowFrom ops ints rels ops.length 0 (start0 ops.length)
def workL (ops:List XOp):List Int:=livesF ops ops.length (List.replicate ops.length 0)
theorem shape0 (n:Nat):Shape n (start0 n):=⟨by simp[start0],by simp[start0],fun f hf=>by simp[start0] at hf;rw[hf.2];rfl⟩
theorem shape_stepAt {ops:List XOp} {ints:List Int} {li ls:Nat} {rels rels':List XRel} (hg:Good ops li ls rels') {i:Nat} (hi:i < ops.length) {s:List (List XFact) × List Bool} (h:Shape ops.length s):Shape ops.length (stepAt ops ints rels i s):=by
 unfold stepAt;split
 ·exact shape_fold (behind_len (h.get hi)) _ _ h fun k hk=>(next_ok hg i hi k hk).2
 ·exact h
theorem shape_flow {ops:List XOp} {ints:List Int} {li ls:Nat} {rels rels':List XRel} (hg:Good ops li ls rels'):∀ (m i:Nat) (s:List (List XFact) × List Bool),i+m≤ops.length→Shape ops.length s→Shape ops.length (flowFrom ops ints rels m i s)
 | 0,_,s,_,h=>h
 | m+1,i,s,hi,h=>shape_flow hg m (i+1) _ (by omega) (shape_stepAt hg (by omega) h)
theorem shape_work {ops:List XOp} {ints:List Int} {li ls:Nat} {rels rels':List XRel} (hg:Good ops li ls rels'):Shape ops.length (workS ops ints rels):=shape_flow hg _ _ _ (by omega) (shape0 _)
theorem lives_len (ops:List XOp):∀ (m:Nat) (al:List Int),(livesF ops m al).length=al.length
 | 0,al=>rfl
 | m+1,al=>by rw[livesF,lives_len ops m];simp
theorem workL_len (ops:List XOp):(workL ops).length=ops.length:=by simp[workL,lives_len]
theorem rep_map {α:Type} (f:α→AV) (n:Nat) (x:α):List.replicate n (f x)=(List.replicate n x).map f:=by simp
theorem run34 (hp:((LM ops ints strs rels)∧∀ r ∈ rels,r.str.size≤9223372036854775807∧r.mem.size≤9223372036854775807)∧checkF ops ints strs rels=true) (A:Nat→Prop):acall (env 171 171292023879903695822898525277610645158843576191 D34 [(33,c56),(34,c57),(35,c58),(36,c59),(37,c60),(38,c61)] [] A) (H34) (600) f18 [(cd ops ints strs rels)]=some (.ro false 74 (.st 74 [(cd ops ints strs rels),.sl 78 gT ((workS ops ints rels).1.map eFacts),.sl 4 gT ((workS ops ints rels).2.map eB),.sl 82 gT ((workL ops).map eU)])):=by
 have hg:=check_good hp.2;have hpos:=hg.pos;have hlen:=hg.len;have h1:decide ((0:Int) < (ops.length:Int))=true:=by simp;omega
 have hpos0:(0:Int) < (ops.length:Int):=by omega
 have hwl:IntKind.i64.wrap ((ops.length:Int) - 1)=(ops.length:Int) - 1:=wrap_i64 (by omega) (by omega);have hroom1:((ops.length:Int) * 128≤140737488355328)=True:=by simp;omega
 have hroom2:((ops.length:Int) * 1≤140737488355328)=True:=by simp;omega
 have hroom3:=hroom2;have he8:eFacts (List.replicate 8 z0) = .ar 78 [zP,zP,zP,zP,zP,zP,zP,zP]:=rfl;have hrep1:(List.replicate ops.length (.ar 78 [zP,zP,zP,zP,zP,zP,zP,zP]):List AV)=(List.replicate ops.length (List.replicate 8 z0)).map eFacts:=by rw[← he8];exact rep_map eFacts _ _
 have hrep2:(List.replicate ops.length (.bool false):List AV)=(List.replicate ops.length false).map eB:=rep_map eB _ _;have hrep3:(List.replicate ops.length (.int .u8 0):List AV)=(List.replicate ops.length (0:Int)).map eU:=rep_map eU _ _;have hset0:((List.replicate ops.length false).map eB).set 0 (.bool true)=((List.replicate ops.length false).set 0 true).map eB:=set_map eB _ 0 true;have hget0:(List.map eB (List.replicate ops.length false))[0]? = some (AV.bool false):=by
  rw[List.getElem?_map,List.getElem?_replicate,if_pos (by omega)];rfl
 have hl6:=loop34_6 ops ints strs rels (List.replicate ops.length 0) hp A 600 (by omega) ops.length 0 (start0 ops.length).1 (start0 ops.length).2;have hl24:=loop34_24 ops ints strs rels ⟨.row 78,true,(workS ops ints rels).1.map eFacts⟩ ⟨.row 4,true,(workS ops ints rels).2.map eB⟩ hp A 600 (by omega) ops.length (List.replicate ops.length 0);simp only[f18,sub,Option.getD_some,H34_6,H34_24] at hl6 hl24;simp only[acall,macall,f18];simp only[go_sem,D34_2,D34_14,D34_18,h1,hroom1,hroom2,hroom3,hrep1,hrep2,hrep3,hset0,hget0,hpos0,List.length_replicate,H34_6,H34_24,hwl];rw[post_le (hl6 _ (shape0 _) (by simp) (by omega) (by simp only[go_sem,start0])) (by omega)];simp only[go_sem,D34_2,D34_14,D34_18,h1,hroom1,hroom2,hroom3,hrep1,hrep2,hrep3,hset0,hget0,hpos0,List.length_replicate,H34_6,H34_24,hwl]
 have hwS:flowFrom ops ints rels ops.length 0 ((start0 ops.length).1,(start0 ops.length).2)=workS ops ints rels:=rfl;rw[hwS];have hsh:=shape_work (ints:=ints) (rels:=rels) hg;have hs1:(workS ops ints rels).1.length=ops.length:=hsh.1;have hs2:(workS ops ints rels).2.length=ops.length:=hsh.2.1;have hs3:=workL_len ops;rw[post_le (hl24 _ (by simp) (Nat.le_refl _) (by simp only[go_sem,start0])) (by omega)];have hwL:livesF ops ops.length (List.replicate ops.length 0)=workL ops:=rfl;rw[hwL];simp only[go_sem,D34_2,D34_14,D34_18,h1,hroom1,hroom2,hroom3,hrep1,hrep2,hrep3,hset0,hget0,hpos0,List.length_replicate,H34_6,H34_24,hwl,hs1,hs2,hs3];try rfl
noncomputable def c34:=famP (α:=(List XOp) × (List Int) × (List ByteArray) × (List XRel)) (fun (ops,ints,strs,rels)=>((LM ops ints strs rels)∧∀ r ∈ rels,r.str.size≤9223372036854775807∧r.mem.size≤9223372036854775807)∧checkF ops ints strs rels=true) (fun (ops,ints,strs,rels)=>[(cd ops ints strs rels)]) (fun (ops,ints,strs,rels)=> .ro false 74 (.st 74 [(cd ops ints strs rels),.sl 78 gT ((workS ops ints rels).1.map eFacts),.sl 4 gT ((workS ops ints rels).2.map eB),.sl 82 gT ((workL ops).map eU)]))
theorem c34_eq (hp:((LM ops ints strs rels)∧∀ r ∈ rels,r.str.size≤9223372036854775807∧r.mem.size≤9223372036854775807)∧checkF ops ints strs rels=true):c34 [(cd ops ints strs rels)]=some (.ro false 74 (.st 74 [(cd ops ints strs rels),.sl 78 gT ((workS ops ints rels).1.map eFacts),.sl 4 gT ((workS ops ints rels).2.map eB),.sl 82 gT ((workL ops).map eU)])):=fam_eq (fun X Y hp hp' h'=>by
 obtain⟨ops,ints,strs,rels⟩:=X;obtain⟨ops',ints',strs',rels'⟩:=Y;simp only[INJ] at h';obtain⟨rfl,rfl,rfl,rfl⟩:=h';rfl) (ops,ints,strs,rels) hp
theorem snd34:Snd 18 c34:=fam_snd h34 rfl rfl fun (ops,ints,strs,rels) hp=>rc h34 (fun A=>run34 ops ints strs rels hp A) (fun i=>match i with | 2=>[0,0,2,0,8,0,32,127,255,511] | 14=>[0,1,3,7,0,0,32,96,224,0,0,511,2559,8191,16383] | 18=>[0,1,3,7,0,0,31,127,255,0,512,1536,4095] | _=>[]) rfl rfl rfl (by kernel_rfl) ⟨snd56,snd57,snd58,snd59,snd60,snd61,trivial⟩ trivial


end Go.Proofs.Tryd
end
