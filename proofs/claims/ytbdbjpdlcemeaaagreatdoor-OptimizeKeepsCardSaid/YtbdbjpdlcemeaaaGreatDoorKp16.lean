/- Part of the proof of one statement of this seat: an abstract machine for the program, its contracts, and the statement (no condition of our own). -/
import Derived.Test.YtbdbjpdlcemeaaaGreatDoorKp14
import Derived.Test.YtbdbjpdlcemeaaaGreatDoorKp15
set_option linter.unusedSimpArgs false
set_option linter.unusedVariables false
section
set_option maxHeartbeats 4000000
set_option maxRecDepth 20000
namespace Go.Proofs.Tryz
open Go Go.Abs
def nmO (o:XOp) (i:Nat):Bool:=((formF o.op).d&&i==o.d.toNat) || (usesF o.op o.a o.b).any fun u=>i==u.toNat
theorem nm_fold (i:Nat):∀ (l:List XOp) (g:Nat→Bool),l.foldl oset g i=(g i || l.any fun o=>nmO o i)
 | [],g=>by simp
 | o::l,g=>by rw[List.foldl_cons,nm_fold i l,List.any_cons];simp[oset,uset,dset,nmO,Bool.or_assoc]
theorem nm_any (ops:List XOp) (i:Nat):nmF ops i=ops.any fun o=>nmO o i:=by rw[nmF,nm_fold];simp
theorem nm_mem {ops:List XOp} {o:XOp} {i:Nat} (h:o ∈ ops) (hi:nmO o i=true):nmF ops i=true:=by
 rw[nm_any,List.any_eq_true];exact⟨o,h,hi⟩
theorem nm_ex {ops:List XOp} {i:Nat} (h:nmF ops i=true):∃ o ∈ ops,nmO o i=true:=by
 rwa [nm_any,List.any_eq_true] at h
theorem nm_set {ops:List XOp} {k:Nat} {o':XOp} (h:∀ i,nmO o' i=true→nmF ops i=true) {i:Nat} (hi:nmF (ops.set k o') i=true):nmF ops i=true:=by
 obtain⟨o,h1,h2⟩:=nm_ex hi
 rcases List.mem_or_eq_of_mem_set h1 with h3 | h3
 ·exact nm_mem h3 h2
 ·subst h3;exact h i h2
theorem nm_map {ops:List XOp} {f:XOp→XOp} (hf:∀ o i,nmO (f o) i=nmO o i) {i:Nat} (hi:nmF (ops.map f) i=true):nmF ops i=true:=by
 obtain⟨o,h1,h2⟩:=nm_ex hi
 obtain⟨o1,h3,rfl⟩:=List.mem_map.1 h1
 rw[hf] at h2
 exact nm_mem h3 h2
theorem nm_removed {ops:List XOp} {ints:List Int} {strs:List ByteArray} {rels:List XRel} {q:Int} {i:Nat} (hi:nmF (removedF ops ints strs rels q).ops i=true):nmF ops i=true:=by
 have h:=nm_map (f:=shOp q) (fun o i=>by unfold shOp;split <;> rfl) hi
 obtain⟨o,h1,h2⟩:=nm_ex h
 exact nm_mem (List.mem_of_mem_eraseIdx h1) h2
theorem nm_pl (op i s:Int) (o:XOp) (k:Nat):nmO (plOp op i s o) k=nmO o k:=by
 unfold plOp
 split
 ·split
  ·rfl
  ·split <;> rfl
 ·rfl
theorem nm_d {o:XOp} (h:(formF o.op).d=true):nmO o o.d.toNat=true:=by simp[nmO,h]
theorem nm_a {o:XOp} (h:(formF o.op).a=true):nmO o o.a.toNat=true:=by simp[nmO,usesF,h]
theorem form_ba {op:Int} (h:(formF op).b=true):(formF op).a=true:=by
 have hall:∀ f ∈ formsL,f.b=true→f.a=true:=by decide
 revert h
 unfold formF
 split
 ·intro h;cases h
 ·intro h
  rcases Nat.lt_or_ge op.toNat formsL.length with hi | hi
  ·rw[List.getD_eq_getElem?_getD,List.getElem?_eq_getElem hi] at h ⊢
   exact hall _ (List.getElem_mem hi) h
  ·rw[List.getD_eq_getElem?_getD,List.getElem?_eq_none hi] at h;cases h
theorem nm_b {o:XOp} (h:(formF o.op).b=true):nmO o o.b.toNat=true:=by
 have ha:=form_ba h
 cases e:(o.b==o.a)
 ·simp[nmO,usesF,h,ha,e]
 ·have:o.b=o.a:=by simpa using e
  rw[this];exact nm_a ha
theorem nm_ldi {d n:Int} {i:Nat} (h:nmO ⟨1,d,0,0,n⟩ i=true):i=d.toNat:=by
 have f1:(formF 1).d=true∧(formF 1).a=false∧(formF 1).b=false:=by decide
 simpa[nmO,usesF,f1] using h
theorem nm_mov {d a:Int} {i:Nat} (h:nmO ⟨3,d,a,0,0⟩ i=true):i=d.toNat∨i=a.toNat:=by
 have f1:(formF 3).d=true∧(formF 3).a=true∧(formF 3).b=false:=by decide
 simpa[nmO,usesF,f1] using h
theorem nm_jmp {n:Int} {i:Nat}:nmO ⟨24,0,0,0,n⟩ i=false:=by
 have f1:(formF 24).d=false∧(formF 24).a=false∧(formF 24).b=false:=by decide
 simp[nmO,usesF,f1]
theorem form_alu {op:Int} (h:4≤op∧op≤22):(formF op).d=true∧(formF op).a=true:=by
 have:op=4∨op=5∨op=6∨op=7∨op=8∨op=9∨op=10∨op=11∨op=12∨op=13∨op=14∨op=15∨op=16∨op=17∨op=18∨op=19∨op=20∨op=21∨op=22:=by omega
 rcases this with rfl | rfl | rfl | rfl | rfl | rfl | rfl | rfl | rfl | rfl | rfl | rfl | rfl | rfl | rfl | rfl | rfl | rfl | rfl <;> exact⟨rfl,rfl⟩
theorem form_bin {op:Int} (h:4≤op∧op≤16):(formF op).b=true:=by
 have:op=4∨op=5∨op=6∨op=7∨op=8∨op=9∨op=10∨op=11∨op=12∨op=13∨op=14∨op=15∨op=16:=by omega
 rcases this with rfl | rfl | rfl | rfl | rfl | rfl | rfl | rfl | rfl | rfl | rfl | rfl | rfl <;> rfl
def NR (ops:List XOp) (f:List XFact):Prop:=∀ x ∈ f,x.sort=2→nmF ops x.n.toNat=true
theorem NR.set {ops:List XOp} {f:List XFact} (h:NR ops f) {i:Nat} {s n:Int} (hn:s=2→nmF ops n.toNat=true):NR ops (f.set i ⟨s,n⟩):=fun x hx=>by
 rcases List.mem_or_eq_of_mem_set hx with h1 | h1
 ·exact h x h1
 ·subst h1;exact hn
theorem NR.getD {ops:List XOp} {f:List XFact} (h:NR ops f) (i:Nat):(f.getD i ⟨0,0⟩).sort=2→nmF ops (f.getD i ⟨0,0⟩).n.toNat=true:=by
 rcases Nat.lt_or_ge i f.length with hi | hi
 ·exact h _ (getD_memF hi)
 ·rw[List.getD_eq_getElem?_getD,List.getElem?_eq_none hi];intro h2;cases h2
theorem behind_NR {ops:List XOp} {ints:List Int} {rels:List XRel} {f:List XFact} (h:NR ops f) {q:Int} (hq:q.toNat < ops.length):NR ops (behindF ops ints rels f q):=by
 have hmem:ops.getD q.toNat op0 ∈ ops:=getD_memG hq
 have hc:NR ops ((f.map (clrF (ops.getD q.toNat op0).d)).set (ops.getD q.toNat op0).d.toNat ⟨0,0⟩):=by
  refine NR.set (fun x hx=>?_) (fun h2=>by cases h2)
  obtain⟨y,h1,rfl⟩:=List.mem_map.1 hx
  unfold clrF
  split
  ·intro h2;cases h2
  ·exact h y h1
 unfold behindF
 dsimp only
 generalize ops.getD q.toNat op0=o at *
 have hm:(o.op==3)=true→(movedF (f.getD o.a.toNat ⟨0,0⟩).sort (f.getD o.a.toNat ⟨0,0⟩).n o.d o.a).1=2→nmF ops (movedF (f.getD o.a.toNat ⟨0,0⟩).sort (f.getD o.a.toNat ⟨0,0⟩).n o.d o.a).2.toNat=true:=by
  intro h3
  have hg:=h.getD o.a.toNat
  have ho:o.op=3:=by simpa using h3
  have ha:nmF ops o.a.toNat=true:=nm_mem hmem (nm_a (by rw[ho];rfl))
  unfold movedF
  repeat' split
  all_goals first | exact hg | exact fun _=>ha | (intro h2;cases h2;done) | (intro h2;dsimp only at h2;omega)
 repeat' split
 all_goals first | exact h | exact hc | exact hc.set (fun h2=>by cases h2) | (refine hc.set (hm ?_);assumption)
theorem join_NR {ops:List XOp} {a b:List XFact} (h:NR ops a):NR ops (joinF a b):=by
 intro x hx
 unfold joinF at hx
 obtain⟨i,hi,rfl⟩:=List.getElem_of_mem hx
 rw[List.getElem_zipWith]
 unfold join1
 split
 ·intro h2;cases h2
 ·exact h _ (List.getElem_mem _)
def SN (ops:List XOp) (s:List (List XFact) × List Bool):Prop:=∀ f ∈ s.1,NR ops f
theorem SN.getD {ops:List XOp} {s:List (List XFact) × List Bool} (h:SN ops s) (i:Nat):NR ops (s.1.getD i []):=by
 rcases Nat.lt_or_ge i s.1.length with hi | hi
 ·exact h _ (getD_memG hi)
 ·rw[List.getD_eq_getElem?_getD,List.getElem?_eq_none hi];intro x hx;simp at hx
theorem SN.set {ops:List XOp} {s:List (List XFact) × List Bool} (h:SN ops s) {i:Nat} {f:List XFact} (hf:NR ops f) (r:List Bool):SN ops (s.1.set i f,r):=fun g hg=>by
 rcases List.mem_or_eq_of_mem_set hg with h1 | h1
 ·exact h g h1
 ·subst h1;exact hf
theorem fold_SN {ops:List XOp} {out:List XFact} (ho:NR ops out):∀ (l:List Int) (s:List (List XFact) × List Bool),SN ops s→SN ops (l.foldl (step1 out) s)
 | [],s,h=>h
 | k::l,s,h=>by
   rw[List.foldl_cons]
   refine fold_SN ho l _ ?_
   unfold step1
   split
   ·exact h.set (join_NR (h.getD _)) _
   ·exact h.set ho _
theorem flow_SN {ops:List XOp} {ints:List Int} {rels:List XRel}:∀ (m i:Nat) (s:List (List XFact) × List Bool),i+m≤ops.length→SN ops s→SN ops (flowFrom ops ints rels m i s)
 | 0,_,s,_,h=>h
 | m+1,i,s,hi,h=>by
   rw[flowFrom]
   refine flow_SN m (i+1) _ (by omega) ?_
   unfold stepAt
   split
   ·exact fold_SN (behind_NR (h.getD _) (by rw[Int.toNat_natCast];omega)) _ _ h
   ·exact h
theorem start_SN (ops:List XOp) (n:Nat):SN ops (start0 n):=fun f hf=>by
 simp only[start0,List.mem_replicate] at hf
 rw[hf.2]
 intro x hx
 rw[(List.mem_replicate.1 hx).2]
 intro h2;cases h2
theorem work_NR (ops:List XOp) (ints:List Int) (rels:List XRel) (q r:Int):(factAt (workS ops ints rels).1 q r).sort=2→nmF ops (factAt (workS ops ints rels).1 q r).n.toNat=true:=
 ((flow_SN ops.length 0 _ (by omega) (start_SN ops ops.length)).getD q.toNat).getD r.toNat
theorem keep_ite' {c:Prop} [Decidable c] {a b:Option XCode} {x:XCode} {K:Prop} (ha:c→a=some x→K) (hb:¬ c→b=some x→K):(if c then a else b)=some x→K:=by
 split
 ·rename_i h;exact ha h
 ·rename_i h;exact hb h
theorem nm_put {ops:List XOp} {ints:List Int} {strs:List ByteArray} {rels:List XRel} {q d n:Int} {c:XCode} (hd:nmF ops d.toNat=true) (h:puttingF ops ints strs rels q d n=some c) {i:Nat} (hi:nmF c.ops i=true):nmF ops i=true:=by
 unfold puttingF at h
 repeat' split at h
 all_goals first | (cases h;done) | (injection h with h;subst h;exact nm_set (fun i hi=>by rw[nm_ldi hi];exact hd) hi)
theorem nm_kset {ops:List XOp} {ints:List Int} {strs:List ByteArray} {rels:List XRel} {k:Nat} {o':XOp} {c:XCode} (ho:∀ i,nmO o' i=true→nmF ops i=true) (h:some (⟨ops.set k o',ints,strs,rels⟩:XCode)=some c) {i:Nat} (hi:nmF c.ops i=true):nmF ops i=true:=by
 injection h with h;subst h;exact nm_set ho hi
theorem nm_krem {ops:List XOp} {ints:List Int} {strs:List ByteArray} {rels:List XRel} {q:Int} {c:XCode} (h:some (removedF ops ints strs rels q)=some c) {i:Nat} (hi:nmF c.ops i=true):nmF ops i=true:=by
 injection h with h;subst h;exact nm_removed hi
theorem fold_nm {ops:List XOp} {ints:List Int} {strs:List ByteArray} {rels:List XRel} {before:List (List XFact)} {reached:List Bool} {q:Int} {c:XCode} (hq:q.toNat < ops.length) {i:Nat} (hi:nmF c.ops i=true):foldF ops ints strs rels before reached q=some c→nmF ops i=true:=by
 have hmem:ops.getD q.toNat op0 ∈ ops:=getD_memG hq
 unfold foldF;dsimp only
 generalize ops.getD q.toNat op0=o at *
 have hk:∀ {a b:Int} {known:Bool},(4≤o.op∧o.op≤22)→foldK ops ints strs rels q o a b known=some c→nmF ops i=true:=fun h1=>by
  unfold foldK
  exact keep_ite (keep_ite (fun h=>nm_put (nm_mem hmem (nm_d (form_alu h1).1)) h hi) (fun h=>by cases h)) (fun h=>by cases h)
 refine keep_ite (keep_ite (fun h=>by cases h) ?_) (fun h=>by cases h)
 refine keep_ite (keep_ite (fun h=>nm_kset (fun i hi=>by rw[nm_jmp] at hi;cases hi) h hi) (fun h=>by cases h)) ?_
 refine keep_ite' (fun h1=>hk ?_) (fun _=>keep_ite' (fun h1=>hk ?_) (fun _=>keep_ite' (fun h1=>hk ?_) (fun _=>keep_ite' (fun h1=>hk ?_) (fun _ h=>by cases h))))
 ·simp only[beq_iff_eq] at h1;omega
 ·simp only[beq_iff_eq] at h1;omega
 ·simp only[beq_iff_eq] at h1;omega
 ·simp only[List.any_cons,List.any_nil,Bool.or_false,Bool.or_eq_true,Bool.and_eq_true,decide_eq_true_eq,beq_iff_eq] at h1
  omega
theorem copies_nm {ops:List XOp} {ints:List Int} {strs:List ByteArray} {rels:List XRel} {reached:List Bool} {q:Int} {c:XCode} (hq:q.toNat < ops.length) {i:Nat} (hi:nmF c.ops i=true):copiesF ops ints strs rels (workS ops ints rels).1 reached q=some c→nmF ops i=true:=by
 have hmem:ops.getD q.toNat op0 ∈ ops:=getD_memG hq
 have hf:=work_NR ops ints rels q
 unfold copiesF;dsimp only
 generalize ops.getD q.toNat op0=o at *
 have ha:=hf o.a
 have hb:=hf o.b
 generalize factAt (workS ops ints rels).1 q o.a=fa at *
 generalize factAt (workS ops ints rels).1 q o.b=fb at *
 generalize ((usesF o.op 1 2).any fun x=>1==x)=ua
 generalize ((usesF o.op 1 2).any fun x=>2==x)=ub
 refine keep_ite (keep_ite (fun h=>nm_kset (fun i hi=>?_) h hi) (fun h=>by cases h)) (fun h=>by cases h)
 have hA:(formF o.op).a=true→nmF ops (if (ua&&fa.sort==2)=true then fa.n else o.a).toNat=true:=fun h=>by
  split
  ·rename_i h2;simp only[Bool.and_eq_true,beq_iff_eq] at h2;exact ha h2.2
  ·exact nm_mem hmem (nm_a h)
 have hB:(formF o.op).b=true→nmF ops (if (ub&&fb.sort==2)=true then fb.n else o.b).toNat=true:=fun h=>by
  split
  ·rename_i h2;simp only[Bool.and_eq_true,beq_iff_eq] at h2;exact hb h2.2
  ·exact nm_mem hmem (nm_b h)
 generalize (if (ua&&fa.sort==2)=true then fa.n else o.a)=a' at *
 generalize (if (ub&&fb.sort==2)=true then fb.n else o.b)=b' at *
 unfold nmO at hi
 simp only[Bool.or_eq_true,Bool.and_eq_true,beq_iff_eq,List.any_eq_true] at hi
 rcases hi with ⟨h1,h2⟩ | ⟨u,h1,h2⟩
 ·subst h2;exact nm_mem hmem (nm_d h1)
 ·subst h2
  unfold usesF at h1
  rcases List.mem_append.1 h1 with h3 | h3 <;> split at h3 <;> rename_i h4
  ·simp only[List.mem_singleton] at h3;subst h3;exact hA h4
  ·cases h3
  ·simp only[List.mem_singleton] at h3;subst h3;simp only[Bool.and_eq_true] at h4;exact hB h4.1
  ·cases h3
theorem ident_nm {ops:List XOp} {ints:List Int} {strs:List ByteArray} {rels:List XRel} {before:List (List XFact)} {reached:List Bool} {q:Int} {c:XCode} (hq:q.toNat < ops.length) {i:Nat} (hi:nmF c.ops i=true):identF ops ints strs rels before reached q=some c→nmF ops i=true:=by
 have hmem:ops.getD q.toNat op0 ∈ ops:=getD_memG hq
 unfold identF moveTo;dsimp only
 generalize ops.getD q.toNat op0=o at *
 refine keep_ite (keep_ite' (fun _ h=>by cases h) (fun h1=>keep_ite' (fun _ h=>by cases h) (fun h2=>?_))) (fun h=>by cases h)
 simp only[decide_eq_true_eq] at h1 h2
 have hd:=nm_mem hmem (nm_d (form_alu (op:=o.op) (by omega)).1)
 have ha:=nm_mem hmem (nm_a (form_alu (op:=o.op) (by omega)).2)
 have hb:=nm_mem hmem (nm_b (form_bin (op:=o.op) (by omega)))
 repeat' refine keep_ite ?_ ?_
 all_goals intro h
 all_goals first
  | (cases h;done)
  | exact nm_put hd h hi
  | exact nm_kset (fun i hi=>by rw[nm_ldi hi];exact hd) h hi
  | exact nm_kset (fun i hi=>by rcases nm_mov hi with rfl | rfl <;> assumption) h hi
theorem step_nm {ops:List XOp} {ints:List Int} {strs:List ByteArray} {rels:List XRel} {reached:List Bool} {alive:List Int} {rule q:Int} {c:XCode} (hq:rule ≠ 8→q.toNat < ops.length) {i:Nat} (hi:nmF c.ops i=true) (h:stepF ops ints strs rels (workS ops ints rels).1 reached alive rule q=some c):nmF ops i=true:=by
 revert h
 unfold stepF
 have hr:∀ {k:Int},(rule==k)=true→k ≠ 8→q.toNat < ops.length:=fun h h2=>hq (by simp only[beq_iff_eq] at h;omega)
 refine keep_ite' (fun h=>fold_nm (hr h (by omega)) hi) (fun _=>keep_ite' (fun h=>copies_nm (hr h (by omega)) hi) (fun _=>keep_ite' (fun h=>?_) (fun _=>keep_ite' (fun h=>?_) (fun _=>keep_ite' (fun h=>?_) (fun _=>keep_ite' (fun h=>?_) (fun _=>keep_ite' (fun h=>ident_nm (hr h (by omega)) hi) (fun _=>keep_ite' (fun h=>?_) (fun _ h=>by cases h))))))))
 ·unfold deadF;dsimp only
  exact keep_ite (fun h=>by cases h) (fun h=>nm_krem h hi)
 ·have hmem:ops.getD q.toNat op0 ∈ ops:=getD_memG (hr h (by omega))
  unfold threadF;dsimp only
  refine keep_ite (keep_ite (fun h=>nm_kset (fun i hi=>nm_mem hmem ?_) h hi) (keep_ite (fun h=>nm_krem h hi) (fun h=>by cases h))) (fun h=>by cases h)
  exact hi
 ·unfold reachF
  exact keep_ite (fun h=>by cases h) (fun h=>nm_krem h hi)
 ·have hmem:ops.getD q.toNat op0 ∈ ops:=getD_memG (hr h (by omega))
  unfold wrapRF;dsimp only
  refine keep_ite' (fun h1=>keep_ite (fun h=>by cases h) (fun h=>nm_kset (fun i hi=>?_) h hi)) (fun _ h=>by cases h)
  have h19:(4:Int)≤(ops.getD q.toNat op0).op∧(ops.getD q.toNat op0).op≤22:=by simp only[beq_iff_eq] at h1;omega
  rcases nm_mov hi with h2 | h2
  ·rw[h2];exact nm_mem hmem (nm_d (form_alu h19).1)
  ·rw[h2];exact nm_mem hmem (nm_a (form_alu h19).2)
 ·unfold poolF
  refine keep_ite (keep_ite (fun h=>by cases h) (fun h=>?_)) (keep_ite (fun h=>by cases h) (fun h=>?_))
  all_goals
   injection h with h;subst h
   exact nm_map (nm_pl _ _ _) hi
def KS (c x:XCode):Prop:=∀ r ∈ x.rels,∃ s ∈ c.rels,kMatch x c r s=true∧kInt x c r s=true
theorem ks_of {x c:XCode} {r s:XRel} (hk:r.kind=s.kind) (hs:r.str=s.str) (hm:r.mem=s.mem) (ho:(x.ops.getD r.at_.toNat op0).op=(c.ops.getD s.at_.toNat op0).op)
 (hi:(c.ops.getD s.at_.toNat op0).op=1→x.ints.getD (x.ops.getD r.at_.toNat op0).n.toNat 0=c.ints.getD (c.ops.getD s.at_.toNat op0).n.toNat 0):kMatch x c r s=true∧kInt x c r s=true:=by
 unfold kMatch kInt
 rw[hk,hs,hm,ho]
 refine⟨by simp,?_⟩
 by_cases h:(c.ops.getD s.at_.toNat op0).op=1
 ·rw[hi h];simp
 ·have e:((c.ops.getD s.at_.toNat op0).op==1)=false:=by simpa using h
  rw[e];rfl
theorem ks_kept {c x:XCode} (h:KS c x) (hl:x.rels.length≤c.rels.length):keptF x c=true:=by
 unfold keptF
 simp only[Bool.and_eq_true,List.all_eq_true,decide_eq_true_eq]
 refine⟨fun r hr=>?_,hl⟩
 obtain⟨s,h1,h2,h3⟩:=h r hr
 unfold kOne
 rw[List.any_eq_true]
 exact⟨s,h1,by rw[h2,h3];rfl⟩
theorem set_self {l:List XOp} {k:Nat} (o:XOp) (h:k < l.length):(l.set k o).getD k op0=o:=by simp[List.getD,h]
theorem set_other {l:List XOp} {k j:Nat} (o:XOp) (h:j ≠ k):(l.set k o).getD j op0=l.getD j op0:=by simp[List.getD,List.getElem?_set,Ne.symm h]
theorem ks_set {ops:List XOp} {ints ints':List Int} {strs:List ByteArray} {rels:List XRel} {q:Int} {o':XOp} (hc:checkF ops ints strs rels=true) (hint:∀ k,k < ints.length→ints'.getD k 0=ints.getD k 0) (hql:q.toNat < ops.length)
 (hq:∀ r ∈ rels,r.at_.toNat=q.toNat→o'.op=(ops.getD q.toNat op0).op∧(o'.op=1→o'.n=(ops.getD q.toNat op0).n)):KS ⟨ops,ints,strs,rels⟩ ⟨ops.set q.toNat o',ints',strs,rels⟩:=by
 intro r hr
 obtain⟨h0,hl⟩:=rel_at hc hr
 have hn:=op_int (ints:=ints) hc h0 hl
 by_cases e:r.at_.toNat=q.toNat
 ·obtain⟨h1,h2⟩:=hq r hr e
  refine⟨r,hr,ks_of rfl rfl rfl ?_ ?_⟩
  ·dsimp only;rw[e,set_self _ hql];exact h1
  ·dsimp only
   rw[e] at hn ⊢
   rw[set_self _ hql]
   intro h3
   rw[h2 (h1.trans h3)]
   exact hint _ (hn (by simpa using h3)).2
 ·refine⟨r,hr,ks_of rfl rfl rfl ?_ ?_⟩
  ·dsimp only;rw[set_other _ e]
  ·dsimp only
   rw[set_other _ e]
   intro h3
   exact hint _ (hn (by simpa using h3)).2
theorem map_getD {l:List XOp} {f:XOp→XOp} {k:Nat} (h:k < l.length):(l.map f).getD k op0=f (l.getD k op0):=by simp[List.getD,h]
theorem ks_removed {ops:List XOp} {ints:List Int} {strs:List ByteArray} {rels:List XRel} {q:Int} (hc:checkF ops ints strs rels=true) (h0:0≤q) (hql:q.toNat < ops.length):KS ⟨ops,ints,strs,rels⟩ (removedF ops ints strs rels q):=by
 intro rx hrx
 simp only[removedF,List.mem_map,fltF] at hrx
 obtain⟨r,h1,rfl⟩:=hrx
 obtain⟨hr,hne⟩:=List.mem_filter.1 h1
 have hne':r.at_ ≠ q:=by simpa using hne
 obtain⟨hr0,hrl⟩:=rel_at hc hr
 have he:((ops.eraseIdx q.toNat).map (shOp q)).getD (shRel q r).at_.toNat op0=shOp q (ops.getD r.at_.toNat op0):=by
  have hlen:(ops.eraseIdx q.toNat).length=ops.length - 1:=by rw[List.length_eraseIdx,if_pos hql]
  rw[map_getD]
  ·congr 1
   simp only[List.getD,List.getElem?_eraseIdx]
   unfold shRel
   split
   ·rename_i h2
    dsimp only
    rw[if_neg (by omega),show (r.at_ - 1).toNat+1=r.at_.toNat by omega]
   ·rw[if_pos (by omega)]
  ·rw[hlen];unfold shRel;split <;> (try dsimp only) <;> omega
 have hop:(shOp q (ops.getD r.at_.toNat op0)).op=(ops.getD r.at_.toNat op0).op:=by unfold shOp;split <;> rfl
 refine⟨r,hr,ks_of ?_ ?_ ?_ ?_ ?_⟩
 ·unfold shRel;split <;> rfl
 ·unfold shRel;split <;> rfl
 ·unfold shRel;split <;> rfl
 ·simp only[removedF];rw[he];exact hop
 ·simp only[removedF];rw[he]
  intro h2
  have:shOp q (ops.getD r.at_.toNat op0)=ops.getD r.at_.toNat op0:=by
   unfold shOp
   rw[if_neg (by rw[h2];simp)]
  rw[this]
theorem rel_op {ops:List XOp} {ints:List Int} {strs:List ByteArray} {rels:List XRel} (hc:checkF ops ints strs rels=true) {r:XRel} (hr:r ∈ rels):(ops.getD r.at_.toNat op0).op=1∨(ops.getD r.at_.toNat op0).op=26:=by
 have hg:=check_good hc
 obtain⟨i,hi,e⟩:=List.getElem_of_mem hr
 have h1:=hg.rel i hi
 unfold relOkF at h1
 dsimp only at h1
 rw[Int.toNat_natCast,List.getD_eq_getElem?_getD,List.getElem?_eq_getElem hi,e] at h1
 simp only[Option.getD_some] at h1
 have hz:(⟨0,0,0,0,0⟩:XOp)=op0:=rfl
 rw[hz] at h1
 generalize (ops.getD r.at_.toNat op0).op=o at *
 split at h1
 ·cases h1
 ·split at h1
  ·simp only[Bool.and_eq_true,beq_iff_eq] at h1;exact .inl h1.1
  ·split at h1
   ·simp only[Bool.and_eq_true,beq_iff_eq] at h1;exact .inl h1.1
   ·split at h1
    ·simp only[Bool.and_eq_true,beq_iff_eq] at h1;exact .inr h1.1
    ·cases h1
theorem ks_kset {ops:List XOp} {ints ints':List Int} {strs:List ByteArray} {rels:List XRel} {q:Int} {o':XOp} {c:XCode} (hc:checkF ops ints strs rels=true) (hql:q.toNat < ops.length)
 (hq:∀ r ∈ rels,r.at_.toNat=q.toNat→o'.op=(ops.getD q.toNat op0).op∧(o'.op=1→o'.n=(ops.getD q.toNat op0).n)) (hint:∀ k,k < ints.length→ints'.getD k 0=ints.getD k 0) (h:some (⟨ops.set q.toNat o',ints',strs,rels⟩:XCode)=some c):KS ⟨ops,ints,strs,rels⟩ c:=by
 injection h with h;subst h;exact ks_set hc hint hql hq
theorem app_getD {l:List Int} {n:Int} {k:Nat} (h:k < l.length):(l++[n]).getD k 0=l.getD k 0:=by simp[List.getD,List.getElem?_append_left h]
theorem ks_put {ops:List XOp} {ints:List Int} {strs:List ByteArray} {rels:List XRel} {q d n:Int} {c:XCode} (hc:checkF ops ints strs rels=true) (hql:q.toNat < ops.length) (hno:∀ r ∈ rels,r.at_.toNat ≠ q.toNat) (h:puttingF ops ints strs rels q d n=some c):KS ⟨ops,ints,strs,rels⟩ c:=by
 unfold puttingF at h
 repeat' split at h
 ·cases h
 ·exact ks_kset hc hql (fun r hr e=>absurd e (hno r hr)) (fun k hk=>app_getD hk) h
 ·exact ks_kset hc hql (fun r hr e=>absurd e (hno r hr)) (fun _ _=>rfl) h
theorem ks_krem {ops:List XOp} {ints:List Int} {strs:List ByteArray} {rels:List XRel} {q:Int} {c:XCode} (hc:checkF ops ints strs rels=true) (h0:0≤q) (hql:q.toNat < ops.length) (h:some (removedF ops ints strs rels q)=some c):KS ⟨ops,ints,strs,rels⟩ c:=by
 injection h with h;subst h;exact ks_removed hc h0 hql
theorem erase_getD {l:List Int} {q k:Nat}:(l.eraseIdx q).getD k 0=l.getD (if k < q then k else k+1) 0:=by
 simp only[List.getD,List.getElem?_eraseIdx];split <;> rfl
theorem ks_pool {ops:List XOp} {ints:List Int} {strs:List ByteArray} {rels:List XRel} {q:Int} {c:XCode} (hc:checkF ops ints strs rels=true) (h0:0≤q) (h:poolF ops ints strs rels q=some c):KS ⟨ops,ints,strs,rels⟩ c:=by
 revert h
 unfold poolF
 refine keep_ite' (fun hq=>keep_ite' (fun _ h=>by cases h) (fun h1 h=>?_)) (fun hq=>keep_ite (fun h=>by cases h) (fun h=>?_))
 all_goals
  injection h with h;subst h
  intro r hr
  obtain⟨hr0,hrl⟩:=rel_at hc hr
  refine⟨r,hr,ks_of rfl rfl rfl ?_ ?_⟩ <;> dsimp only <;> rw[map_getD hrl]
 ·unfold plOp;repeat' split
  all_goals rfl
 ·intro h2
  have hn:=op_int (ints:=ints) hc hr0 hrl (by simpa using h2)
  have hne:(ops.getD r.at_.toNat op0).n ≠ q:=fun e=>by
   have hf:rels.any (fixF ops q)=true:=List.any_eq_true.2 ⟨r,hr,by
    unfold fixF
    have hz:(⟨0,0,0,0,0⟩:XOp)=op0:=rfl
    rw[hz,h2,e];simp⟩
   have hs:sameI ops ints rels q = -1:=by unfold sameI;rw[if_pos hf]
   have ha:(ops.any fun o=>o.op==1&&o.n==q)=true:=List.any_eq_true.2 ⟨_,getD_memG hrl,by rw[h2,e];simp⟩
   rw[hs,ha] at h1
   exact h1 rfl
  generalize ops.getD r.at_.toNat op0=o at *
  unfold plOp
  rw[if_pos (by rw[h2];rfl),if_neg (by simpa using hne)]
  split
  ·rename_i h3
   simp only[decide_eq_true_eq] at h3
   dsimp only
   rw[erase_getD,if_neg (by omega),show (o.n - 1).toNat+1=o.n.toNat by omega]
  ·rename_i h3
   simp only[decide_eq_true_eq] at h3
   rw[erase_getD,if_pos (by omega)]
 ·unfold plOp;repeat' split
  all_goals rfl
 ·intro h2
  generalize ops.getD r.at_.toNat op0=o at *
  unfold plOp
  rw[if_neg (by rw[h2];decide)]
end Go.Proofs.Tryz
end
