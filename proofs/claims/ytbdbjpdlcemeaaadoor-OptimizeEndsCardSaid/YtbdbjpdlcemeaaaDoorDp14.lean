/- Part of the proof of one statement of this seat: an abstract machine for the program, its contracts, and the statement (no condition of our own). -/
import Derived.LoopNIn
import Derived.Test.YtbdbjpdlcemeaaaDoorDp04
import Derived.Test.YtbdbjpdlcemeaaaDoorDp06
import Derived.Test.YtbdbjpdlcemeaaaDoorDp07
import Derived.Test.YtbdbjpdlcemeaaaDoorDp08
import Derived.Test.YtbdbjpdlcemeaaaDoorDp13
set_option linter.unusedSimpArgs false
set_option linter.unusedVariables false
section
set_option maxHeartbeats 4000000
set_option maxRecDepth 20000
namespace Go.Proofs.Tryd
open Go Go.Abs
variable (ops : List XOp) (ints : List Int) (strs : List ByteArray) (rels : List XRel)
def stepF (ops:List XOp) (ints:List Int) (strs:List ByteArray) (rels:List XRel) (before:List (List XFact)) (reached:List Bool) (alive:List Int) (rule q:Int):Option XCode:=
 if (rule==1)=true then foldF ops ints strs rels before reached q else if (rule==2)=true then copiesF ops ints strs rels before reached q else if (rule==3)=true then deadF ops ints strs rels alive q
 else if (rule==4)=true then threadF ops ints strs rels q else if (rule==5)=true then reachF ops ints strs rels reached q else if (rule==6)=true then wrapRF ops ints strs rels before reached q
 else if (rule==7)=true then identF ops ints strs rels before reached q else if (rule==8)=true then poolF ops ints strs rels q else none
def placesF (ops:List XOp) (ints:List Int) (strs:List ByteArray) (rule:Int):Int:=if rule=8 then (ints.length+strs.length:Int) else ops.length
def checkC (c:XCode):Bool:=checkF c.ops c.ints c.strs c.rels
def applyF (ops:List XOp) (ints:List Int) (strs:List ByteArray) (rels:List XRel) (before:List (List XFact)) (reached:List Bool) (alive:List Int) (rule q:Int):Option XCode:=
 if (ruleFn rule).isSome=true then
  if (decide (q < 0))=true then none else if (decide (placesF ops ints strs rule≤q))=true then none
  else (stepF ops ints strs rels before reached alive rule q).bind fun c=>if checkC c=true then some c else none
 else none
structure Keeps (ops:List XOp) (ints:List Int) (strs:List ByteArray) (rels:List XRel) (c:XCode):Prop where
 o:c.ops.length≤ops.length
 i:c.ints.length≤ints.length+1
 s:c.strs.length≤strs.length
 r:c.rels.length≤rels.length
 n:∀ r ∈ c.rels,∃ r0 ∈ rels,r.str=r0.str∧r.mem=r0.mem
theorem Keeps.same {ops ops':List XOp} {ints ints':List Int} {strs strs':List ByteArray} {rels:List XRel} (h1:ops'.length≤ops.length) (h2:ints'.length≤ints.length+1) (h3:strs'.length≤strs.length):Keeps ops ints strs rels ⟨ops',ints',strs',rels⟩:=
 ⟨h1,h2,h3,Nat.le_refl _,fun r hr=>⟨r,hr,rfl,rfl⟩⟩
theorem keeps_removed (q:Int):Keeps ops ints strs rels (removedF ops ints strs rels q):=by
 refine⟨?_,Nat.le_succ _,Nat.le_refl _,?_,fun r hr=>?_⟩
 ·simp only[removedF,List.length_map];exact List.length_eraseIdx_le _ _
 ·simp only[removedF,List.length_map,fltF];exact List.length_filter_le _ _
 ·simp only[removedF,List.mem_map,fltF] at hr;obtain⟨r0,h1,rfl⟩:=hr;refine⟨r0,(List.mem_filter.1 h1).1,?_⟩;unfold shRel;split <;> exact⟨rfl,rfl⟩
theorem keeps_set {ops:List XOp} {ints:List Int} {strs:List ByteArray} {rels:List XRel} {k:Nat} {o:XOp} {c:XCode} (h:some (⟨ops.set k o,ints,strs,rels⟩:XCode)=some c):Keeps ops ints strs rels c:=by
 injection h with h;subst h;exact .same (by simp) (by simp) (Nat.le_refl _)
theorem keeps_rem {ops:List XOp} {ints:List Int} {strs:List ByteArray} {rels:List XRel} {q:Int} {c:XCode} (h:some (removedF ops ints strs rels q)=some c):Keeps ops ints strs rels c:=by
 injection h with h;subst h;exact keeps_removed ..
theorem keep_ite {c:Prop} [Decidable c] {a b:Option XCode} {x:XCode} {K:Prop} (ha:a=some x→K) (hb:b=some x→K):(if c then a else b)=some x→K:=by
 split
 ·exact ha
 ·exact hb
theorem step_keeps {ops:List XOp} {ints:List Int} {strs:List ByteArray} {rels:List XRel} {before:List (List XFact)} {reached:List Bool} {alive:List Int} {rule q:Int} {c:XCode} (h:stepF ops ints strs rels before reached alive rule q=some c):Keeps ops ints strs rels c:=by
 revert h;unfold stepF;refine keep_ite ?_ (keep_ite ?_ (keep_ite ?_ (keep_ite ?_ (keep_ite ?_ (keep_ite ?_ (keep_ite ?_ (keep_ite ?_ (fun h=>by cases h))))))))
 ·unfold foldF foldK;dsimp only;repeat' refine keep_ite ?_ ?_
  all_goals intro h
  all_goals first | (cases h;done) | exact keeps_set h | (injection h with h;subst h;exact .same (by simp) (by simp) (Nat.le_refl _))
 ·unfold copiesF;dsimp only;repeat' refine keep_ite ?_ ?_
  all_goals intro h
  all_goals first | (cases h;done) | exact keeps_set h
 ·unfold deadF;dsimp only;repeat' refine keep_ite ?_ ?_
  all_goals intro h
  all_goals first | (cases h;done) | exact keeps_rem h
 ·unfold threadF;dsimp only;repeat' refine keep_ite ?_ ?_
  all_goals intro h
  all_goals first | (cases h;done) | exact keeps_set h | exact keeps_rem h
 ·unfold reachF;repeat' refine keep_ite ?_ ?_
  all_goals intro h
  all_goals first | (cases h;done) | exact keeps_rem h
 ·unfold wrapRF;dsimp only;repeat' refine keep_ite ?_ ?_
  all_goals intro h
  all_goals first | (cases h;done) | exact keeps_set h
 ·unfold identF moveTo;dsimp only;repeat' refine keep_ite ?_ ?_
  all_goals intro h
  all_goals first | (cases h;done) | exact keeps_set h | (injection h with h;subst h;exact .same (by simp) (by simp) (Nat.le_refl _))
 ·unfold poolF;repeat' refine keep_ite ?_ ?_
  all_goals intro h
  all_goals first | (cases h;done) | (injection h with h;subst h;exact .same (by simp) (by first | (exact Nat.le_succ_of_le (List.length_eraseIdx_le _ _)) | simp) (by first | exact List.length_eraseIdx_le _ _ | exact Nat.le_refl _))
structure XA (ops:List XOp) (ints:List Int) (strs:List ByteArray) (rels:List XRel) (before:List (List XFact)) (reached:List Bool) (alive:List Int):Prop extends XW ops ints strs rels before reached alive where
 str:∀ r ∈ rels,r.str.size≤9223372036854775807∧r.mem.size≤9223372036854775807
theorem XA.pre33 {ops:List XOp} {ints:List Int} {strs:List ByteArray} {rels:List XRel} {before:List (List XFact)} {reached:List Bool} {alive:List Int} (h:XA ops ints strs rels before reached alive) {c:XCode} (hk:Keeps ops ints strs rels c) :
 (LM c.ops c.ints c.strs c.rels)∧∀ r ∈ c.rels,r.str.size≤9223372036854775807∧r.mem.size≤9223372036854775807:=by
 obtain⟨l1,l2,l3,l4⟩:=h.lim;have:=h.i200;refine⟨⟨by have:=hk.o;omega,by have:=hk.i;omega,by have:=hk.s;omega,by have:=hk.r;omega⟩,fun r hr=>?_⟩;obtain⟨r0,h1,h2,h3⟩:=hk.n r hr;rw[h2,h3];exact h.str r0 h1
theorem XW.pre {ops:List XOp} {ints:List Int} {strs:List ByteArray} {rels:List XRel} {before:List (List XFact)} {reached:List Bool} {alive:List Int} (h:XW ops ints strs rels before reached alive) {q:Int} (h0:0≤q) (hq:q.toNat < ops.length) :
 (LM ops ints strs rels)∧0≤q∧q.toNat < ops.length∧(∀ o ∈ ops,o.n < 9223372036854775808)∧(∀ r ∈ rels,r.at_ < 9223372036854775808):=
 ⟨h.lim,h0,hq,fun o ho=>by have:=h.opn o ho;unfold InR at this;omega,fun r hr=>by have:=h.rel r hr;have:=h.lim.1;omega⟩
theorem XW.dpos {ops:List XOp} {ints:List Int} {strs:List ByteArray} {rels:List XRel} {before:List (List XFact)} {reached:List Bool} {alive:List Int} (h:XW ops ints strs rels before reached alive):∀ o ∈ ops,0≤o.d:=fun o ho=>by
 obtain⟨i,hi,e⟩:=List.getElem_of_mem ho;have:=(h.op i hi).2.2.1;rw[List.getD_eq_getElem?_getD,List.getElem?_eq_getElem hi,e] at this;exact this
theorem h35:Tryd.prog.funcs[20]? = some f20:=by kernel_rfl
theorem run35 (before:List (List XFact)) (reached:List Bool) (alive:List Int) (rule q:Int) (hp:XA ops ints strs rels before reached alive) :∃ r,wk r (eOut (applyF ops ints strs rels before reached alive rule q))∧∀ A,acall (env 50 140739635839483 D0 [(41,c62),(40,c63),(16,c33),(50,c89),(51,c90),(52,c91),(53,c92),(54,c93),(55,c94),(56,c95),(57,c96)] [] A) hN (5) f20 [(wv ops ints strs rels before reached alive),.st 49 [.int .i64 rule,.int .i64 q]]=some r:=by
 have hw:=hp.toXW;have e63:=c63_eq ops ints strs rels before reached alive rule ⟨hw.lim.2.1,hw.lim.2.2.1⟩;unfold applyF;cases hrf:ruleFn rule
 ·simp only[Option.isSome_some,Option.isSome_none,Option.bind_some,Option.bind_none,BL];apply wkI
  ·intro A;simp only[acall,macall,f20];simp only[go_sem,hrf,c62_eq,lkp124,e63,Option.isSome_some,Option.isSome_none];rfl
  ·simp[WK,eOut,eCode]
 rename_i fn;simp only[Option.isSome_some,Option.isSome_none,Option.bind_some,Option.bind_none,BL];have hpl:placesF ops ints strs rule=if rule=8 then (ints.length+strs.length:Int) else ops.length:=rfl
 rw[← hpl] at e63;cases hq0:decide (q < 0);rotate_left
 ·simp only[Option.isSome_some,Option.isSome_none,Option.bind_some,Option.bind_none,BL];apply wkI
  ·intro A;simp only[acall,macall,f20];simp only[go_sem,hrf,hq0,c62_eq,lkp124,e63,Option.isSome_some,Option.isSome_none];rfl
  ·simp[WK,eOut,eCode]
 cases hq1:decide (placesF ops ints strs rule≤q);rotate_left
 ·simp only[Option.isSome_some,Option.isSome_none,Option.bind_some,Option.bind_none,BL];apply wkI
  ·intro A;simp only[acall,macall,f20];simp only[go_sem,hrf,hq0,hq1,c62_eq,lkp124,e63,Option.isSome_some,Option.isSome_none];rfl
  ·simp[WK,eOut,eCode]
 simp only[Option.isSome_some,Option.isSome_none,Option.bind_some,Option.bind_none,BL];have h0:0≤q:=by simpa using hq0
 have hq2:q < placesF ops ints strs rule:=by simpa using hq1
 have hsk:=fun c=>step_keeps (ops:=ops) (ints:=ints) (strs:=strs) (rels:=rels) (before:=before) (reached:=reached) (alive:=alive) (rule:=rule) (q:=q) (c:=c)
 have e33:=fun (c:XCode) (h:Keeps ops ints strs rels c)=>c33_eq c.ops c.ints c.strs c.rels (hp.pre33 h)
 have hrc:(rule=1∧fn=50)∨(rule=2∧fn=51)∨(rule=3∧fn=52)∨(rule=4∧fn=53)∨(rule=5∧fn=54)∨(rule=6∧fn=55)∨(rule=7∧fn=56)∨(rule=8∧fn=57):=by
  unfold ruleFn at hrf;repeat' split at hrf
  all_goals first | (cases hrf;done) | (injection hrf with hrf;subst hrf;rename_i h;simp only[beq_iff_eq] at h;subst h;simp)
 rcases hrc with ⟨rfl,rfl⟩ | ⟨rfl,rfl⟩ | ⟨rfl,rfl⟩ | ⟨rfl,rfl⟩ | ⟨rfl,rfl⟩ | ⟨rfl,rfl⟩ | ⟨rfl,rfl⟩ | ⟨rfl,rfl⟩
 ·skip
  have hlt:q.toNat < ops.length:=by simp[placesF] at hq2;omega
  have hst:stepF ops ints strs rels before reached alive 1 q=foldF ops ints strs rels before reached q:=rfl;rw[hst] at hsk ⊢;have ef:=c89_eq ops ints strs rels before reached alive q ⟨hw,h0,hlt⟩;generalize foldF ops ints strs rels before reached q=st at *;cases st
  ·simp only[eOut,eCode] at ef;simp only[Option.isSome_some,Option.isSome_none,Option.bind_some,Option.bind_none,BL];apply wkI
   ·intro A;simp only[acall,macall,f20];simp only[go_sem,hrf,hq0,hq1,ef,c62_eq,lkp124,e63,Option.isSome_some,Option.isSome_none];rfl
   ·simp[WK,eOut,eCode]
  ·rename_i c;have ec:=e33 c (hsk c rfl);simp only[eOut,eCode] at ef;simp only[Option.bind_some];have hcc:checkC c=checkF c.ops c.ints c.strs c.rels:=rfl;rw[← hcc] at ec;generalize checkC c=ck at *;cases ck
   ·simp only[errF,BL] at ec ⊢;apply wkI
    ·intro A;simp only[acall,macall,f20];simp only[go_sem,hrf,hq0,hq1,ef,ec,c62_eq,lkp124,e63,Option.isSome_some,Option.isSome_none];rfl
    ·simp[WK,eOut,eCode]
   ·simp only[errF,BL] at ec ⊢;apply wkI
    ·intro A;simp only[acall,macall,f20];simp only[go_sem,hrf,hq0,hq1,ef,ec,c62_eq,lkp124,e63,Option.isSome_some,Option.isSome_none];rfl
    ·simp[WK,eOut,eCode]
 ·skip
  have hlt:q.toNat < ops.length:=by simp[placesF] at hq2;omega
  have hst:stepF ops ints strs rels before reached alive 2 q=copiesF ops ints strs rels before reached q:=rfl;rw[hst] at hsk ⊢;have ef:=c90_eq ops ints strs rels before reached alive q ⟨hw,h0,hlt⟩;generalize copiesF ops ints strs rels before reached q=st at *;cases st
  ·simp only[eOut,eCode] at ef;simp only[Option.isSome_some,Option.isSome_none,Option.bind_some,Option.bind_none,BL];apply wkI
   ·intro A;simp only[acall,macall,f20];simp only[go_sem,hrf,hq0,hq1,ef,c62_eq,lkp124,e63,Option.isSome_some,Option.isSome_none];rfl
   ·simp[WK,eOut,eCode]
  ·rename_i c;have ec:=e33 c (hsk c rfl);simp only[eOut,eCode] at ef;simp only[Option.bind_some];have hcc:checkC c=checkF c.ops c.ints c.strs c.rels:=rfl;rw[← hcc] at ec;generalize checkC c=ck at *;cases ck
   ·simp only[errF,BL] at ec ⊢;apply wkI
    ·intro A;simp only[acall,macall,f20];simp only[go_sem,hrf,hq0,hq1,ef,ec,c62_eq,lkp124,e63,Option.isSome_some,Option.isSome_none];rfl
    ·simp[WK,eOut,eCode]
   ·simp only[errF,BL] at ec ⊢;apply wkI
    ·intro A;simp only[acall,macall,f20];simp only[go_sem,hrf,hq0,hq1,ef,ec,c62_eq,lkp124,e63,Option.isSome_some,Option.isSome_none];rfl
    ·simp[WK,eOut,eCode]
 ·skip
  have hlt:q.toNat < ops.length:=by simp[placesF] at hq2;omega
  have hst:stepF ops ints strs rels before reached alive 3 q=deadF ops ints strs rels alive q:=rfl;rw[hst] at hsk ⊢;have ef:=c91_eq ops ints strs rels before reached alive q ⟨hw.pre h0 hlt,hw.al,hw.dpos⟩;generalize deadF ops ints strs rels alive q=st at *;cases st
  ·simp only[eOut,eCode] at ef;simp only[Option.isSome_some,Option.isSome_none,Option.bind_some,Option.bind_none,BL];apply wkI
   ·intro A;simp only[acall,macall,f20];simp only[go_sem,hrf,hq0,hq1,ef,c62_eq,lkp124,e63,Option.isSome_some,Option.isSome_none];rfl
   ·simp[WK,eOut,eCode]
  ·rename_i c;have ec:=e33 c (hsk c rfl);simp only[eOut,eCode] at ef;simp only[Option.bind_some];have hcc:checkC c=checkF c.ops c.ints c.strs c.rels:=rfl;rw[← hcc] at ec;generalize checkC c=ck at *;cases ck
   ·simp only[errF,BL] at ec ⊢;apply wkI
    ·intro A;simp only[acall,macall,f20];simp only[go_sem,hrf,hq0,hq1,ef,ec,c62_eq,lkp124,e63,Option.isSome_some,Option.isSome_none];rfl
    ·simp[WK,eOut,eCode]
   ·simp only[errF,BL] at ec ⊢;apply wkI
    ·intro A;simp only[acall,macall,f20];simp only[go_sem,hrf,hq0,hq1,ef,ec,c62_eq,lkp124,e63,Option.isSome_some,Option.isSome_none];rfl
    ·simp[WK,eOut,eCode]
 ·skip
  have hlt:q.toNat < ops.length:=by simp[placesF] at hq2;omega
  have hst:stepF ops ints strs rels before reached alive 4 q=threadF ops ints strs rels q:=rfl;rw[hst] at hsk ⊢;have ef:=c92_eq ops ints strs rels before reached alive q ⟨hw.pre h0 hlt,hw.jmp⟩;generalize threadF ops ints strs rels q=st at *;cases st
  ·simp only[eOut,eCode] at ef;simp only[Option.isSome_some,Option.isSome_none,Option.bind_some,Option.bind_none,BL];apply wkI
   ·intro A;simp only[acall,macall,f20];simp only[go_sem,hrf,hq0,hq1,ef,c62_eq,lkp124,e63,Option.isSome_some,Option.isSome_none];rfl
   ·simp[WK,eOut,eCode]
  ·rename_i c;have ec:=e33 c (hsk c rfl);simp only[eOut,eCode] at ef;simp only[Option.bind_some];have hcc:checkC c=checkF c.ops c.ints c.strs c.rels:=rfl;rw[← hcc] at ec;generalize checkC c=ck at *;cases ck
   ·simp only[errF,BL] at ec ⊢;apply wkI
    ·intro A;simp only[acall,macall,f20];simp only[go_sem,hrf,hq0,hq1,ef,ec,c62_eq,lkp124,e63,Option.isSome_some,Option.isSome_none];rfl
    ·simp[WK,eOut,eCode]
   ·simp only[errF,BL] at ec ⊢;apply wkI
    ·intro A;simp only[acall,macall,f20];simp only[go_sem,hrf,hq0,hq1,ef,ec,c62_eq,lkp124,e63,Option.isSome_some,Option.isSome_none];rfl
    ·simp[WK,eOut,eCode]
 ·skip
  have hlt:q.toNat < ops.length:=by simp[placesF] at hq2;omega
  have hst:stepF ops ints strs rels before reached alive 5 q=reachF ops ints strs rels reached q:=rfl;rw[hst] at hsk ⊢;have ef:=c93_eq ops ints strs rels before reached alive q ⟨hw.pre h0 hlt,by have:=hw.rl;omega⟩;generalize reachF ops ints strs rels reached q=st at *;cases st
  ·simp only[eOut,eCode] at ef;simp only[Option.isSome_some,Option.isSome_none,Option.bind_some,Option.bind_none,BL];apply wkI
   ·intro A;simp only[acall,macall,f20];simp only[go_sem,hrf,hq0,hq1,ef,c62_eq,lkp124,e63,Option.isSome_some,Option.isSome_none];rfl
   ·simp[WK,eOut,eCode]
  ·rename_i c;have ec:=e33 c (hsk c rfl);simp only[eOut,eCode] at ef;simp only[Option.bind_some];have hcc:checkC c=checkF c.ops c.ints c.strs c.rels:=rfl;rw[← hcc] at ec;generalize checkC c=ck at *;cases ck
   ·simp only[errF,BL] at ec ⊢;apply wkI
    ·intro A;simp only[acall,macall,f20];simp only[go_sem,hrf,hq0,hq1,ef,ec,c62_eq,lkp124,e63,Option.isSome_some,Option.isSome_none];rfl
    ·simp[WK,eOut,eCode]
   ·simp only[errF,BL] at ec ⊢;apply wkI
    ·intro A;simp only[acall,macall,f20];simp only[go_sem,hrf,hq0,hq1,ef,ec,c62_eq,lkp124,e63,Option.isSome_some,Option.isSome_none];rfl
    ·simp[WK,eOut,eCode]
 ·skip
  have hlt:q.toNat < ops.length:=by simp[placesF] at hq2;omega
  have hst:stepF ops ints strs rels before reached alive 6 q=wrapRF ops ints strs rels before reached q:=rfl;rw[hst] at hsk ⊢;have ef:=c94_eq ops ints strs rels before reached alive q ⟨hw,h0,hlt⟩;generalize wrapRF ops ints strs rels before reached q=st at *;cases st
  ·simp only[eOut,eCode] at ef;simp only[Option.isSome_some,Option.isSome_none,Option.bind_some,Option.bind_none,BL];apply wkI
   ·intro A;simp only[acall,macall,f20];simp only[go_sem,hrf,hq0,hq1,ef,c62_eq,lkp124,e63,Option.isSome_some,Option.isSome_none];rfl
   ·simp[WK,eOut,eCode]
  ·rename_i c;have ec:=e33 c (hsk c rfl);simp only[eOut,eCode] at ef;simp only[Option.bind_some];have hcc:checkC c=checkF c.ops c.ints c.strs c.rels:=rfl;rw[← hcc] at ec;generalize checkC c=ck at *;cases ck
   ·simp only[errF,BL] at ec ⊢;apply wkI
    ·intro A;simp only[acall,macall,f20];simp only[go_sem,hrf,hq0,hq1,ef,ec,c62_eq,lkp124,e63,Option.isSome_some,Option.isSome_none];rfl
    ·simp[WK,eOut,eCode]
   ·simp only[errF,BL] at ec ⊢;apply wkI
    ·intro A;simp only[acall,macall,f20];simp only[go_sem,hrf,hq0,hq1,ef,ec,c62_eq,lkp124,e63,Option.isSome_some,Option.isSome_none];rfl
    ·simp[WK,eOut,eCode]
 ·skip
  have hlt:q.toNat < ops.length:=by simp[placesF] at hq2;omega
  have hst:stepF ops ints strs rels before reached alive 7 q=identF ops ints strs rels before reached q:=rfl;rw[hst] at hsk ⊢;have ef:=c95_eq ops ints strs rels before reached alive q ⟨hw,h0,hlt⟩;generalize identF ops ints strs rels before reached q=st at *;cases st
  ·simp only[eOut,eCode] at ef;simp only[Option.isSome_some,Option.isSome_none,Option.bind_some,Option.bind_none,BL];apply wkI
   ·intro A;simp only[acall,macall,f20];simp only[go_sem,hrf,hq0,hq1,ef,c62_eq,lkp124,e63,Option.isSome_some,Option.isSome_none];rfl
   ·simp[WK,eOut,eCode]
  ·rename_i c;have ec:=e33 c (hsk c rfl);simp only[eOut,eCode] at ef;simp only[Option.bind_some];have hcc:checkC c=checkF c.ops c.ints c.strs c.rels:=rfl;rw[← hcc] at ec;generalize checkC c=ck at *;cases ck
   ·simp only[errF,BL] at ec ⊢;apply wkI
    ·intro A;simp only[acall,macall,f20];simp only[go_sem,hrf,hq0,hq1,ef,ec,c62_eq,lkp124,e63,Option.isSome_some,Option.isSome_none];rfl
    ·simp[WK,eOut,eCode]
   ·simp only[errF,BL] at ec ⊢;apply wkI
    ·intro A;simp only[acall,macall,f20];simp only[go_sem,hrf,hq0,hq1,ef,ec,c62_eq,lkp124,e63,Option.isSome_some,Option.isSome_none];rfl
    ·simp[WK,eOut,eCode]
 ·skip
  have hlt:q.toNat < ints.length+strs.length:=by simp[placesF] at hq2;omega
  have hst:stepF ops ints strs rels before reached alive 8 q=poolF ops ints strs rels q:=rfl;rw[hst] at hsk ⊢;have ef:=c96_eq ops ints strs rels before reached alive q ⟨hw,h0,hlt⟩;generalize poolF ops ints strs rels q=st at *;cases st
  ·simp only[eOut,eCode] at ef;simp only[Option.isSome_some,Option.isSome_none,Option.bind_some,Option.bind_none,BL];apply wkI
   ·intro A;simp only[acall,macall,f20];simp only[go_sem,hrf,hq0,hq1,ef,c62_eq,lkp124,e63,Option.isSome_some,Option.isSome_none];rfl
   ·simp[WK,eOut,eCode]
  ·rename_i c;have ec:=e33 c (hsk c rfl);simp only[eOut,eCode] at ef;simp only[Option.bind_some];have hcc:checkC c=checkF c.ops c.ints c.strs c.rels:=rfl;rw[← hcc] at ec;generalize checkC c=ck at *;cases ck
   ·simp only[errF,BL] at ec ⊢;apply wkI
    ·intro A;simp only[acall,macall,f20];simp only[go_sem,hrf,hq0,hq1,ef,ec,c62_eq,lkp124,e63,Option.isSome_some,Option.isSome_none];rfl
    ·simp[WK,eOut,eCode]
   ·simp only[errF,BL] at ec ⊢;apply wkI
    ·intro A;simp only[acall,macall,f20];simp only[go_sem,hrf,hq0,hq1,ef,ec,c62_eq,lkp124,e63,Option.isSome_some,Option.isSome_none];rfl
    ·simp[WK,eOut,eCode]
noncomputable def c35:=famP (α:=(List XOp) × (List Int) × (List ByteArray) × (List XRel) × (List (List XFact)) × (List Bool) × (List Int) × Int × Int) (fun (ops,ints,strs,rels,before,reached,alive,rule,q)=>XA ops ints strs rels before reached alive) (fun (ops,ints,strs,rels,before,reached,alive,rule,q)=>[(wv ops ints strs rels before reached alive),.st 49 [.int .i64 rule,.int .i64 q]]) (fun (ops,ints,strs,rels,before,reached,alive,rule,q)=>eOut (applyF ops ints strs rels before reached alive rule q))
theorem c35_eq (before:List (List XFact)) (reached:List Bool) (alive:List Int) (rule q:Int) (hp:XA ops ints strs rels before reached alive):c35 [(wv ops ints strs rels before reached alive),.st 49 [.int .i64 rule,.int .i64 q]]=some (eOut (applyF ops ints strs rels before reached alive rule q)):=fam_eq (fun X Y hp hp' h'=>by
 obtain⟨ops,ints,strs,rels,before,reached,alive,rule,q⟩:=X;obtain⟨ops',ints',strs',rels',before',reached',alive',rule',q'⟩:=Y;simp only[INJ] at h';obtain⟨rfl,rfl,rfl,rfl,rfl,rfl,rfl,rfl,rfl⟩:=h';rfl) (ops,ints,strs,rels,before,reached,alive,rule,q) hp
theorem snd35:Snd 20 c35:=fam_snd h35 rfl rfl fun (ops,ints,strs,rels,before,reached,alive,rule,q) hp=>let ⟨_,hw,hr⟩:=run35 ops ints strs rels before reached alive rule q hp;(rc h35 hr (fun i=>match i with | 1=>[0,0,2,7,15,31,31,63,255] | 2=>[0,1,3,7,15,31,63,127,255,511,255,255,2303,7423,16383,32767] | _=>[]) rfl rfl rfl (by kernel_rfl) ⟨snd62,snd63,snd33,snd89,snd90,snd91,snd92,snd93,snd94,snd95,snd96,trivial⟩ trivial).weak hw
end Go.Proofs.Tryd
end
section
namespace Go.Proofs.Tryd
open Go Go.Abs
theorem inr_wrap (x:Int):InR (IntKind.i64.wrap x):=by
 have e:IntKind.i64.wrap x=if (IntKind.i64.signed&&decide (x % (2 ^ 64:Int) ≥ (2 ^ 63:Int)))=true then x % (2 ^ 64:Int) - (2 ^ 64:Int) else x % (2 ^ 64:Int):=rfl
 have hs:IntKind.i64.signed=true:=rfl;rw[e];simp only[hs,Bool.true_and,decide_eq_true_eq,ge_iff_le];unfold InR;split <;> omega
theorem inr_bits (op:BinOp) (x y:Int):InR (bits2 op .i64 x y):=inr_wrap _
theorem inr_shl (x y:Int):InR (shl2 .i64 x y):=inr_wrap _
theorem inr_tmod {a:Int} (h:InR a) (b:Int):InR (a.tmod b):=by
 unfold InR at *;have h1:=Int.natAbs_tmod a b;have h2:=Nat.mod_le a.natAbs b.natAbs;rcases Int.le_total 0 a with ha | ha
 ·have:=Int.tmod_nonneg b ha;omega
 ·have h3:(-a).tmod b = -(a.tmod b):=Int.neg_tmod a b;have h4:=Int.tmod_nonneg b (show 0≤ -a by omega);omega
theorem inr_shr {a:Int} (h:InR a) (y:Int):InR (shr2 .i64 a y):=by
 unfold InR shr2 at *;have hp:(0:Int) < 2 ^ (min y.toNat IntKind.i64.bits):=Int.pow_pos (by decide);generalize (2:Int) ^ (min y.toNat IntKind.i64.bits)=d at *;rw[Int.fdiv_eq_ediv_of_nonneg _ (Int.le_of_lt hp)];constructor
 ·refine (Int.le_ediv_iff_mul_le hp).2 ?_;omega
 ·refine Int.ediv_le_of_le_mul hp ?_;omega
theorem inr_wrapK {f:FuncId} {v:Int} (h:InR v):InR (wrapK f v):=by
 unfold wrapK;repeat' split
 all_goals first | exact inr_wrap _ | exact h | (unfold InR;omega)
theorem inr_alu {o a b:Int} (ha:InR a):InR (aluF o a b).1:=by
 have h0:InR 0:=by unfold InR;omega
 have h1:InR 1:=by unfold InR;omega
 have hi:∀ (c:Prop) [Decidable c] (x y:Int),InR x→InR y→InR (if c then x else y):=fun c _ x y hx hy=>by split <;> assumption
 have hd:InR (divF o a b):=hi _ _ _ (inr_wrap _) (hi _ _ _ (inr_wrap _) (hi _ _ _ (inr_wrap _) (inr_tmod ha b)));have hk:∀ (c:Prop) [Decidable c] (x y:Int × Int),InR x.1→InR y.1→InR (if c then x else y).1:=fun c _ x y hx hy=>by split <;> assumption
 unfold aluF;refine hk _ _ _ (inr_wrap _) (hk _ _ _ (inr_wrap _) (hk _ _ _ (inr_wrap _) ?_));refine hk _ _ _ (hk _ _ _ h0 hd) (hk _ _ _ (hk _ _ _ h0 hd) (hk _ _ _ (hk _ _ _ h0 hd) (hk _ _ _ (hk _ _ _ h0 hd) ?_)));refine hk _ _ _ (inr_bits .and a b) (hk _ _ _ (inr_bits .or a b) (hk _ _ _ (inr_bits .xor a b) ?_));refine hk _ _ _ (inr_shl a _) (hk _ _ _ (inr_wrap _) (hk _ _ _ (inr_shr ha _) ?_));refine hk _ _ _ (inr_wrap _) (hk _ _ _ (inr_bits .xor (-1) a) (hk _ _ _ ?_ ?_))
 ·split
  ·exact h0
  ·exact hi _ _ _ (inr_wrapK ha) h0
 exact hk _ _ _ (hi _ _ _ h1 h0) (hk _ _ _ (hi _ _ _ h1 h0) (hk _ _ _ (hi _ _ _ h1 h0) h0))
structure XIn (ops:List XOp) (ints:List Int) (strs:List ByteArray) (rels:List XRel):Prop where
 lim:ops.length≤100000∧ints.length≤100000∧strs.length≤100000∧rels.length≤100000
 str:∀ r ∈ rels,r.str.size≤9223372036854775807∧r.mem.size≤9223372036854775807
 opn:∀ o ∈ ops,InR o.n
 int:∀ x ∈ ints,InR x
theorem XIn.getI {ops:List XOp} {ints:List Int} {strs:List ByteArray} {rels:List XRel} (h:XIn ops ints strs rels) (i:Nat):InR (ints.getD i 0):=by
 rcases Nat.lt_or_ge i ints.length with hi | hi
 ·exact h.int _ (getD_memG hi)
 ·rw[List.getD_eq_getElem?_getD,List.getElem?_eq_none hi];unfold InR;simp
theorem XIn.getO {ops:List XOp} {ints:List Int} {strs:List ByteArray} {rels:List XRel} (h:XIn ops ints strs rels) (i:Nat):InR (ops.getD i op0).n:=by
 rcases Nat.lt_or_ge i ops.length with hi | hi
 ·exact h.opn _ (getD_memG hi)
 ·rw[List.getD_eq_getElem?_getD,List.getElem?_eq_none hi];unfold InR;simp[op0]
def FR (f:List XFact):Prop:=∀ x ∈ f,InR x.n
theorem FR.set {f:List XFact} (h:FR f) {i:Nat} {s n:Int} (hn:InR n):FR (f.set i ⟨s,n⟩):=fun x hx=>by
 rcases List.mem_or_eq_of_mem_set hx with h1 | h1
 ·exact h x h1
 ·subst h1;exact hn
theorem inr0:InR 0:=by unfold InR;omega
theorem FR.getD {f:List XFact} (h:FR f) (i:Nat):InR (f.getD i ⟨0,0⟩).n:=by
 rcases Nat.lt_or_ge i f.length with hi | hi
 ·exact h _ (getD_memF hi)
 ·rw[List.getD_eq_getElem?_getD,List.getElem?_eq_none hi];exact inr0
theorem behind_FR {ops:List XOp} {ints:List Int} {strs:List ByteArray} {rels:List XRel} (hin:XIn ops ints strs rels) {f:List XFact} (h:FR f) {q:Int} (hq:0≤(ops.getD q.toNat op0).a∧(ops.getD q.toNat op0).a.toNat < 8):FR (behindF ops ints rels f q):=by
 have hon:=hin.getO q.toNat;have hc:FR ((f.map (clrF (ops.getD q.toNat op0).d)).set (ops.getD q.toNat op0).d.toNat ⟨0,0⟩):=by
  refine FR.set (fun x hx=>?_) inr0;obtain⟨y,h1,rfl⟩:=List.mem_map.1 hx;unfold clrF;split
  ·exact inr0
  ·exact h y h1
 unfold behindF;dsimp only;generalize ops.getD q.toNat op0=o at *;have hm:InR (movedF (f.getD o.a.toNat ⟨0,0⟩).sort (f.getD o.a.toNat ⟨0,0⟩).n o.d o.a).2:=by
  have hg:=h.getD o.a.toNat;unfold movedF;repeat' split
  all_goals first | exact hg | exact inr0 | (unfold InR;dsimp only;omega)
 have h8:InR 8:=by unfold InR;omega
 have h8':InR (-8):=by unfold InR;omega
 repeat' split
 all_goals first | exact h | exact hc | exact hc.set hon | exact hc.set h8 | exact hc.set h8' | exact hc.set hm | exact hc.set (hin.getI _)
theorem join_FR {a b:List XFact} (h:FR a):FR (joinF a b):=by
 intro x hx;unfold joinF at hx;obtain⟨i,hi,rfl⟩:=List.getElem_of_mem hx;rw[List.getElem_zipWith];unfold join1;split
 ·exact inr0
 ·exact h _ (List.getElem_mem _)
def SR (s:List (List XFact) × List Bool):Prop:=∀ f ∈ s.1,FR f
theorem SR.getD {s:List (List XFact) × List Bool} (h:SR s) (i:Nat):FR (s.1.getD i []):=by
 rcases Nat.lt_or_ge i s.1.length with hi | hi
 ·exact h _ (getD_memG hi)
 ·rw[List.getD_eq_getElem?_getD,List.getElem?_eq_none hi];intro x hx;simp at hx
theorem SR.set {s:List (List XFact) × List Bool} (h:SR s) {i:Nat} {f:List XFact} (hf:FR f) (r:List Bool):SR (s.1.set i f,r):=fun g hg=>by
 rcases List.mem_or_eq_of_mem_set hg with h1 | h1
 ·exact h g h1
 ·subst h1;exact hf
theorem fold_SR {out:List XFact} (ho:FR out):∀ (l:List Int) (s:List (List XFact) × List Bool),SR s→SR (l.foldl (step1 out) s)
 | [],s,h=>h
 | k::l,s,h=>by
   rw[List.foldl_cons];refine fold_SR ho l _ ?_;unfold step1;split
   ·exact h.set (join_FR (h.getD _)) _
   ·exact h.set ho _
theorem flow_SR {ops:List XOp} {ints:List Int} {strs:List ByteArray} {rels:List XRel} (hin:XIn ops ints strs rels) (hop:∀ i,i < ops.length→0≤(ops.getD i op0).a∧(ops.getD i op0).a.toNat < 8):∀ (m i:Nat) (s:List (List XFact) × List Bool),i+m≤ops.length→SR s→SR (flowFrom ops ints rels m i s)
 | 0,_,s,_,h=>h
 | m+1,i,s,hi,h=>by
   rw[flowFrom];refine flow_SR hin hop m (i+1) _ (by omega) ?_;unfold stepAt;split
   ·exact fold_SR (behind_FR hin (h.getD _) (by rw[Int.toNat_natCast];exact hop i (by omega))) _ _ h
   ·exact h
theorem start_SR (n:Nat):SR (start0 n):=fun f hf=>by
 simp only[start0,List.mem_replicate] at hf;rw[hf.2];intro x hx;rw[(List.mem_replicate.1 hx).2];exact inr0
theorem check_i200 {ops:List XOp} {ints:List Int} {strs:List ByteArray} {rels:List XRel} (h:checkF ops ints strs rels=true):ints.length≤200∧strs.length≤200∧rels.length≤500:=by
 unfold checkF at h;split at h
 ·split at h
  ·cases h
  ·rename_i h2;split at h
   ·cases h
   ·rename_i h3;split at h
    ·cases h
    ·rename_i h4;simp only[decide_eq_true_eq] at h2 h3 h4;omega
 ·cases h
theorem work_xa {ops:List XOp} {ints:List Int} {strs:List ByteArray} {rels:List XRel} (hin:XIn ops ints strs rels) (hc:checkF ops ints strs rels=true) :
 XA ops ints strs rels (workS ops ints rels).1 (workS ops ints rels).2 (workL ops):=by
 have hg:=check_good hc;have hsh:=shape_work (ints:=ints) (rels:=rels) hg;have hi:=check_i200 hc;have hok:∀ i,i < ops.length→OpOk ops.length ints.length strs.length (i:Int) (ops.getD i op0):=fun i h=>by
  have:=right_ok (hg.right i h)
  rwa [Int.toNat_natCast] at this
 have hsr:SR (workS ops ints rels):=flow_SR hin (fun i h=>(hok i h).a) _ _ _ (by omega) (start_SR _);exact {
  lim:=hin.lim,i200:=hi.1,bl:=hsh.1,rl:=hsh.2.1,al:=workL_len ops
  b8:=fun i h=>hsh.get h
  op:=fun i h=>⟨(hok i h).a,(hok i h).b,(hok i h).d⟩
  opn:=hin.opn
  fn:=fun i h=>hsr.getD i
  rel:=fun r hr=>by
   obtain⟨i,hi,e⟩:=List.getElem_of_mem hr;have h1:=hg.rel i hi;unfold relOkF at h1;dsimp only at h1;rw[Int.toNat_natCast,List.getD_eq_getElem?_getD,List.getElem?_eq_getElem hi,e] at h1;simp only[Option.getD_some] at h1;split at h1
   ·cases h1
   ·rename_i h2;simp only[Bool.or_eq_true,Bool.not_eq_true',Bool.and_eq_false_iff,decide_eq_false_iff_not,not_or] at h2;have:=hg.pos;omega
  jmp:=fun o ho hj=>by
   obtain⟨i,hi,e⟩:=List.getElem_of_mem ho;have h1:=hok i hi;rw[List.getD_eq_getElem?_getD,List.getElem?_eq_getElem hi,e] at h1;simp only[Option.getD_some] at h1;have:=fits_jump h1.fit (by simpa using hj);omega
  str:=hin.str }
structure Rng (c:XCode):Prop where
 o:∀ o ∈ c.ops,InR o.n
 i:∀ x ∈ c.ints,InR x
section
variable {ops:List XOp} {ints:List Int} {strs:List ByteArray} {rels:List XRel} {before:List (List XFact)} {reached:List Bool} {alive:List Int} {q:Int} {c:XCode}
theorem rng_set (hin:XIn ops ints strs rels) {k:Nat} {o:XOp} (ho:InR o.n) (h:some (⟨ops.set k o,ints,strs,rels⟩:XCode)=some c):Rng c:=by
 injection h with h;subst h
 refine⟨fun x hx=>?_,hin.int⟩;rcases List.mem_or_eq_of_mem_set hx with h1 | h1
 ·exact hin.opn x h1
 ·subst h1;exact ho
theorem rng_rem (hin:XIn ops ints strs rels) (hq:0≤q) (h:some (removedF ops ints strs rels q)=some c):Rng c:=by
 injection h with h;subst h
 refine⟨fun x hx=>?_,hin.int⟩;simp only[removedF,List.mem_map] at hx;obtain⟨y,h1,rfl⟩:=hx;have hy:=hin.opn y (List.mem_of_mem_eraseIdx h1);unfold shOp;split
 ·rename_i h2;simp only[Bool.and_eq_true,decide_eq_true_eq] at h2;unfold InR at *;dsimp only;omega
 ·exact hy
theorem rng_put (hin:XIn ops ints strs rels) {d n:Int} (hn:InR n) (h:puttingF ops ints strs rels q d n=some c):Rng c:=by
 have hl:=hin.lim;have hf:=firstF_le (putP ops ints rels n) ints.length 0;have hi:∀ (k:Nat),k≤100000→InR (k:Int):=fun k hk=>by unfold InR;omega
 unfold puttingF at h;split at h
 ·split at h
  ·cases h
  ·injection h with h;subst h
   refine⟨fun x hx=>?_,fun x hx=>?_⟩
   ·rcases List.mem_or_eq_of_mem_set hx with h1 | h1
    ·exact hin.opn x h1
    ·subst h1;exact hi _ hl.2.1
   ·rcases List.mem_append.1 hx with h1 | h1
    ·exact hin.int x h1
    ·simp only[List.mem_singleton] at h1;subst h1;exact hn
 ·exact rng_set hin (hi _ (by omega)) h
theorem rng_pl (hin:XIn ops ints strs rels) {p i s:Int} (hi:0≤i) (hs:InR s) {ints':List Int} {strs':List ByteArray} (hi':∀ x ∈ ints',InR x) (h:some (⟨ops.map (plOp p i s),ints',strs',rels⟩:XCode)=some c):Rng c:=by
 injection h with h;subst h
 refine⟨fun x hx=>?_,hi'⟩;obtain⟨y,h1,rfl⟩:=List.mem_map.1 hx;have hy:=hin.opn y h1;unfold plOp;split
 ·split
  ·exact hs
  ·split
   ·rename_i h2;simp only[decide_eq_true_eq] at h2;unfold InR at *;dsimp only;omega
   ·exact hy
 ·exact hy
theorem sameR_rng (p:Nat→Bool) (i:Nat) (hi:i≤100000) (s:Int):InR (sameR p i s):=by
 unfold sameR InR;split
 ·omega
 ·split <;> omega
theorem idxAt_rng {α:Type} (p:α→Bool) (l:List α) (hl:l.length≤100000):InR (idxAt p l 0):=by
 rcases idxAt_spec p l 0 with ⟨h,_⟩ | ⟨k,h1,h,_⟩ <;> rw[h] <;> unfold InR <;> omega
theorem step_rng (hw:XA ops ints strs rels before reached alive) (hin:XIn ops ints strs rels) {rule:Int} (h0:0≤q) (hq:q < placesF ops ints strs rule) (h:stepF ops ints strs rels before reached alive rule q=some c):Rng c:=by
 have hl:=hin.lim;have hpl:placesF ops ints strs rule≤200000:=by unfold placesF;split <;> omega
 have hq1:InR (q+1):=by unfold InR;omega
 have h0':InR 0:=inr0;have hops:(rule==8)=false→q.toNat < ops.length:=fun h8=>by
  have:rule ≠ 8:=by simpa using h8
  unfold placesF at hq;rw[if_neg this] at hq;omega
 have hO:=hin.getO;have hfa:(rule==8)=false→InR (factAt before q (ops.getD q.toNat op0).a).n∧InR (factAt before q (ops.getD q.toNat op0).b).n:=fun h8=>by
  have:=hw.op _ (hops h8);exact⟨hw.fact (hops h8) this.1.2,hw.fact (hops h8) this.2.1.2⟩
 have hO':=hO q.toNat;have hint:=hin.int;have hint':∀ x ∈ ints.eraseIdx q.toNat,InR x:=fun x hx=>hint x (List.mem_of_mem_eraseIdx hx)
 revert h;unfold stepF;by_cases h8:(rule==8)=true
 ·have hr:rule=8:=by simpa using h8
  subst hr;rw[if_neg (by decide),if_neg (by decide),if_neg (by decide),if_neg (by decide),if_neg (by decide),if_neg (by decide),if_neg (by decide),if_pos (by decide)];unfold poolF;have hp8:q < (ints.length+strs.length:Int):=hq;by_cases hqi:decide (q < (ints.length:Int))=true
  ·rw[if_pos hqi];refine keep_ite (fun h=>by cases h) fun h=>rng_pl hin h0 ?_ hint' h
   unfold sameI;split
   ·unfold InR;omega
   ·refine sameR_rng _ _ ?_ _;simp at hqi;omega
  ·rw[if_neg hqi];simp only[decide_eq_true_eq] at hqi;refine keep_ite (fun h=>by cases h) fun h=>rng_pl hin (by omega) ?_ hint h
   exact idxAt_rng _ _ (by rw[List.length_take];omega)
 ·have h8':(rule==8)=false:=by simpa using h8
  obtain⟨ha,hb⟩:=hfa h8';have hmv:∀ d a:Int,InR (⟨3,d,a,0,0⟩:XOp).n:=fun _ _=>h0'
  simp only[h8',Bool.false_eq_true,if_false];refine keep_ite ?_ (keep_ite ?_ (keep_ite ?_ (keep_ite ?_ (keep_ite ?_ (keep_ite ?_ (keep_ite ?_ (fun h=>by cases h)))))))
  ·unfold foldF;dsimp only;have hput:∀ (o b:Int) (known:Bool) (x:XOp),foldK ops ints strs rels q x (factAt before q (ops.getD q.toNat op0).a).n b known=some c→Rng c:=fun o b known x h=>by
    unfold foldK at h;split at h
    ·split at h
     ·exact rng_put hin (inr_alu ha) h
     ·cases h
    ·cases h
   split
   ·split
    ·intro h;cases h
    ·split
     ·split
      ·refine rng_set hin ?_;dsimp only;split
       ·exact hq1
       ·exact hO'
      ·intro h;cases h
     ·split
      ·exact hput 0 _ _ _
      ·split
       ·exact hput 0 _ _ _
       ·split
        ·exact hput 0 _ _ _
        ·split
         ·exact hput 0 _ _ _
         ·intro h;cases h
   ·intro h;cases h
  ·unfold copiesF;dsimp only;split
   ·split
    ·exact rng_set hin hO'
    ·intro h;cases h
   ·intro h;cases h
  ·unfold deadF;dsimp only;split
   ·intro h;cases h
   ·exact rng_rem hin h0
  ·unfold threadF;dsimp only;split
   ·split
    ·exact rng_set hin (hO _)
    ·split
     ·exact rng_rem hin h0
     ·intro h;cases h
   ·intro h;cases h
  ·unfold reachF;split
   ·intro h;cases h
   ·exact rng_rem hin h0
  ·unfold wrapRF;dsimp only;split
   ·split
    ·intro h;cases h
    ·exact rng_set hin h0'
   ·intro h;cases h
  ·have hi:∀ (p:Prop) [Decidable p] (a b:Option XCode),(a=some c→Rng c)→(b=some c→Rng c)→(if p then a else b)=some c→Rng c:=fun p _ a b h1 h2=>keep_ite h1 h2
   have hm:∀ d a:Int,moveTo ops ints strs rels q d a=some c→Rng c:=fun d a h=>rng_set hin (hmv d a) h
   have hp:∀ d:Int,puttingF ops ints strs rels q d 0=some c→Rng c:=fun d h=>rng_put hin h0' h
   have hn:(none:Option XCode)=some c→Rng c:=fun h=>by cases h
   unfold identF;dsimp only;exact hi _ _ _ (hi _ _ _ hn (hi _ _ _ hn (hi _ _ _ (hm _ _) (hi _ _ _ (hm _ _) (hi _ _ _ (hm _ _) (hi _ _ _ (hm _ _) (hi _ _ _ (hm _ _) (hi _ _ _ (hm _ _) (hi _ _ _ (hp _) (hi _ _ _ (hp _) (hi _ _ _ (hp _) (hi _ _ _ (hi _ _ _ (hp _) hn) hn)))))))))))) hn
theorem step_in (hw:XA ops ints strs rels before reached alive) (hin:XIn ops ints strs rels) {rule:Int} (h0:0≤q) (hq:q < placesF ops ints strs rule) (h:stepF ops ints strs rels before reached alive rule q=some c):XIn c.ops c.ints c.strs c.rels:=by
 have hk:=step_keeps h;have hr:=step_rng hw hin h0 hq h;have hp:=hw.pre33 hk;exact⟨hp.1,hp.2,hr.o,hr.i⟩
theorem apply_in (hw:XA ops ints strs rels before reached alive) (hin:XIn ops ints strs rels) {rule:Int} (h:applyF ops ints strs rels before reached alive rule q=some c):XIn c.ops c.ints c.strs c.rels∧checkC c=true:=by
 unfold applyF at h;split at h
 ·split at h
  ·cases h
  ·rename_i h1;split at h
   ·cases h
   ·rename_i h2;simp only[decide_eq_true_eq] at h1 h2;cases hs:stepF ops ints strs rels before reached alive rule q with
    | none=>rw[hs] at h;cases h
    | some c'=>
      rw[hs] at h;simp only[Option.bind_some] at h;split at h
      ·rename_i hc;injection h with h;subst h
       exact⟨step_in hw hin (by omega) (by omega) hs,hc⟩
      ·cases h
 ·cases h
end
end Go.Proofs.Tryd
end
section
set_option maxHeartbeats 4000000
set_option maxRecDepth 20000
namespace Go.Proofs.Tryd
open Go Go.Abs
variable (ops : List XOp) (ints : List Int) (strs : List ByteArray) (rels : List XRel)
def applyW (ops:List XOp) (ints:List Int) (strs:List ByteArray) (rels:List XRel) (rule q:Int):Option XCode:=applyF ops ints strs rels (workS ops ints rels).1 (workS ops ints rels).2 (workL ops) rule q
def applyE (ops:List XOp) (ints:List Int) (strs:List ByteArray) (rels:List XRel) (rule q:Int):Option XCode × Int:=
 if checkF ops ints strs rels=true then (match applyW ops ints strs rels rule q with | some c=>(some c,0) | none=>(none,170)) else (none,150)
def eOutE (r:Option XCode × Int):AV:= .tup [eCode (r.1.getD ⟨[],[],[],[]⟩),.int .i64 r.2]
theorem h11:Tryd.prog.funcs[12]? = some f12:=by kernel_rfl
def D11:Nat→Option (List DH × List Nat):=fun i=>match i with | 4=>some ([⟨[7],[],[7]⟩,⟨[7],[],[7]⟩,⟨[7],[],[7]⟩,⟨[7],[],[7]⟩,⟨[7],[],[7]⟩,⟨[7],[],[7]⟩,⟨[7],[],[7]⟩,⟨[],[7],[]⟩,⟨[],[7],[]⟩,⟨[],[],[]⟩],[7]) | _=>none
theorem D11_4:D11 4=some ([⟨[7],[],[7]⟩,⟨[7],[],[7]⟩,⟨[7],[],[7]⟩,⟨[7],[],[7]⟩,⟨[7],[],[7]⟩,⟨[7],[],[7]⟩,⟨[7],[],[7]⟩,⟨[],[7],[]⟩,⟨[],[7],[]⟩,⟨[],[],[]⟩],[7]):=rfl
theorem run11 (rule q:Int) (hp:XIn ops ints strs rels) :∃ r,wk r (eOutE (applyE ops ints strs rels rule q))∧∀ A,acall (env 26 8393215 D11 [(16,c33),(18,c34),(20,c35)] [] A) hN (5) f12 [(cd ops ints strs rels),.st 49 [.int .i64 rule,.int .i64 q]]=some r:=by
 have e33:=c33_eq ops ints strs rels ⟨hp.lim,hp.str⟩;unfold applyE;cases hc:checkF ops ints strs rels
 ·rw[hc] at e33;simp only[errF,BL] at e33 ⊢;have e34:=trivial;have e35:=trivial;apply wkI
  ·intro A;simp only[acall,macall,f12];simp only[go_sem,D11_4,e33,e34,e35];rfl
  ·simp[WK,eOut,eCode,eOutE]
 ·have e34:=c34_eq ops ints strs rels ⟨⟨hp.lim,hp.str⟩,hc⟩;have e35:=c35_eq ops ints strs rels (workS ops ints rels).1 (workS ops ints rels).2 (workL ops) rule q (work_xa hp hc);rw[hc] at e33;simp only[errF,BL] at e33 ⊢;have hw:applyW ops ints strs rels rule q=applyF ops ints strs rels (workS ops ints rels).1 (workS ops ints rels).2 (workL ops) rule q:=rfl;rw[← hw] at e35;generalize applyW ops ints strs rels rule q=ap at *;cases ap;all_goals
   simp only[eOut,eCode] at e35;apply wkI
   ·intro A;simp only[acall,macall,f12];simp only[go_sem,D11_4,e33,e34,e35];rfl
   ·simp[WK,eOut,eCode,eOutE]
noncomputable def c11:=famP (α:=(List XOp) × (List Int) × (List ByteArray) × (List XRel) × Int × Int) (fun (ops,ints,strs,rels,rule,q)=>XIn ops ints strs rels) (fun (ops,ints,strs,rels,rule,q)=>[(cd ops ints strs rels),.st 49 [.int .i64 rule,.int .i64 q]]) (fun (ops,ints,strs,rels,rule,q)=>eOutE (applyE ops ints strs rels rule q))
theorem c11_eq (rule q:Int) (hp:XIn ops ints strs rels):c11 [(cd ops ints strs rels),.st 49 [.int .i64 rule,.int .i64 q]]=some (eOutE (applyE ops ints strs rels rule q)):=fam_eq (fun X Y hp hp' h'=>by
 obtain⟨ops,ints,strs,rels,rule,q⟩:=X;obtain⟨ops',ints',strs',rels',rule',q'⟩:=Y;simp only[INJ] at h';obtain⟨rfl,rfl,rfl,rfl,rfl,rfl⟩:=h';rfl) (ops,ints,strs,rels,rule,q) hp
theorem snd11:Snd 12 c11:=fam_snd h11 rfl rfl fun (ops,ints,strs,rels,rule,q) hp=>let ⟨_,hw,hr⟩:=run11 ops ints strs rels rule q hp;(rc h11 hr (fun i=>match i with | 4=>[0,1,0,7,15,31,31,0,191,511] | _=>[]) rfl rfl rfl (by kernel_rfl) ⟨snd33,snd34,snd35,trivial⟩ trivial).weak hw
theorem h14:Tryd.prog.funcs[15]? = some f15:=by kernel_rfl
theorem run14 (rule q:Int) (hp:XIn ops ints strs rels) (A:Nat→Prop):acall (env 14 95 D0 [(12,c11)] [] A) hN (5) f15 [(cd ops ints strs rels),.st 49 [.int .i64 rule,.int .i64 q]]=some (.int .i64 (applyE ops ints strs rels rule q).2):=by
 have e11:=c11_eq ops ints strs rels rule q hp;simp only[eOutE,eCode] at e11;generalize applyE ops ints strs rels rule q=ap at *;generalize ap.1.getD ⟨[],[],[],[]⟩=cc at *;simp only[acall,macall,f15];simp only[go_sem,e11]
noncomputable def c14:=famP (α:=(List XOp) × (List Int) × (List ByteArray) × (List XRel) × Int × Int) (fun (ops,ints,strs,rels,rule,q)=>XIn ops ints strs rels) (fun (ops,ints,strs,rels,rule,q)=>[(cd ops ints strs rels),.st 49 [.int .i64 rule,.int .i64 q]]) (fun (ops,ints,strs,rels,rule,q)=> .int .i64 (applyE ops ints strs rels rule q).2)
theorem c14_eq (rule q:Int) (hp:XIn ops ints strs rels):c14 [(cd ops ints strs rels),.st 49 [.int .i64 rule,.int .i64 q]]=some (.int .i64 (applyE ops ints strs rels rule q).2):=fam_eq (fun X Y hp hp' h'=>by
 obtain⟨ops,ints,strs,rels,rule,q⟩:=X;obtain⟨ops',ints',strs',rels',rule',q'⟩:=Y;simp only[INJ] at h';obtain⟨rfl,rfl,rfl,rfl,rfl,rfl⟩:=h';rfl) (ops,ints,strs,rels,rule,q) hp
theorem snd14:Snd 15 c14:=fam_snd h14 rfl rfl fun (ops,ints,strs,rels,rule,q) hp=>rc h14 (fun A=>run14 ops ints strs rels rule q hp A) (fun _=>[]) rfl rfl rfl (by kernel_rfl) ⟨snd11,trivial⟩ trivial
theorem h72:Tryd.prog.funcs[39]? = some f39:=by kernel_rfl
def H72:Nat→Hint:=fun _=>{ tm:=[],ob:=[] }
theorem ev72a (before:List (List XFact)) (reached:List Bool) (alive:List Int)  (A:Nat→Prop):arun (env 36 17179984635 D0 [(20,c35),(40,c63)] [] A) H72 5 (sub (f39.body.getD .skip) [0]) ⟨[(0,.undef),(1,.ro false 55 ((wv ops ints strs rels before reached alive)))],[]⟩=some (.norm,⟨[(3,.int .i64 1),(0,.undef),(1,.ro false 55 ((wv ops ints strs rels before reached alive)))],[]⟩):=by
 simp only[f39,sub,Option.getD_some];simp only[go_sem,sub,Option.getD_some];try rfl
theorem ev72b (before:List (List XFact)) (reached:List Bool) (alive:List Int) (r:Int) (hr:decide (r≤8)=true) (A:Nat→Prop):arun (env 36 17179984635 D0 [(20,c35),(40,c63)] [] A) H72 5 (sub (f39.body.getD .skip) [1,0,0,0]) ⟨[(0,.undef),(1,.ro false 55 ((wv ops ints strs rels before reached alive))),(3,.int .i64 r)],[]⟩=some (.norm,⟨[(9,.bool true),(0,.undef),(1,.ro false 55 ((wv ops ints strs rels before reached alive))),(3,.int .i64 r)],[]⟩):=by
 simp only[f39,sub,Option.getD_some];simp only[go_sem,sub,Option.getD_some,hr];try rfl
theorem ev72b0 (before:List (List XFact)) (reached:List Bool) (alive:List Int) (r:Int) (hr:decide (r≤8)=false) (A:Nat→Prop):arun (env 36 17179984635 D0 [(20,c35),(40,c63)] [] A) H72 5 (sub (f39.body.getD .skip) [1,0,0,0]) ⟨[(0,.undef),(1,.ro false 55 ((wv ops ints strs rels before reached alive))),(3,.int .i64 r)],[]⟩=some (.exit 0,⟨[(9,.bool false),(0,.undef),(1,.ro false 55 ((wv ops ints strs rels before reached alive))),(3,.int .i64 r)],[]⟩):=by
 simp only[f39,sub,Option.getD_some];simp only[go_sem,sub,Option.getD_some,hr];try rfl
theorem ev72c (before:List (List XFact)) (reached:List Bool) (alive:List Int) (r:Int) (hp:ints.length≤100000∧strs.length≤100000) (A:Nat→Prop):arun (env 36 17179984635 D0 [(20,c35),(40,c63)] [] A) H72 5 (sub (f39.body.getD .skip) [1,0,0,1,0,0,0]) ⟨[(0,.undef),(1,.ro false 55 ((wv ops ints strs rels before reached alive))),(3,.int .i64 r)],[]⟩=some (.norm,⟨[(15,.int .i64 0),(14,.int .i64 (placesF ops ints strs r)),(0,.undef),(1,.ro false 55 ((wv ops ints strs rels before reached alive))),(3,.int .i64 r)],[]⟩):=by
 simp only[f39,sub,Option.getD_some];have e63:=c63_eq ops ints strs rels before reached alive r hp;simp only[go_sem,sub,Option.getD_some,e63];try rfl
theorem ev72d (before:List (List XFact)) (reached:List Bool) (alive:List Int) (r p q:Int) (b:Bool) (hb:decide (q < p)=b) (A:Nat→Prop):arun (env 36 17179984635 D0 [(20,c35),(40,c63)] [] A) H72 5 (sub (f39.body.getD .skip) [1,0,0,1,0,0,1,0,0,0]) ⟨[(0,.undef),(1,.ro false 55 ((wv ops ints strs rels before reached alive))),(3,.int .i64 r),(14,.int .i64 p),(15,.int .i64 q)],[]⟩=some (.norm,⟨[(16,.bool b),(0,.undef),(1,.ro false 55 ((wv ops ints strs rels before reached alive))),(3,.int .i64 r),(14,.int .i64 p),(15,.int .i64 q)],[]⟩):=by
 simp only[f39,sub,Option.getD_some];simp only[go_sem,sub,Option.getD_some,hb];try rfl
theorem ev72e (before:List (List XFact)) (reached:List Bool) (alive:List Int) (r p q:Int) (hp:XA ops ints strs rels before reached alive) (hn:applyF ops ints strs rels before reached alive r q=none) (A:Nat→Prop):arun (env 36 17179984635 D0 [(20,c35),(40,c63)] [] A) H72 5 (sub (f39.body.getD .skip) [1,0,0,1,0,0,1,0,0,1,1,0,0]) ⟨[(0,.undef),(1,.ro false 55 ((wv ops ints strs rels before reached alive))),(3,.int .i64 r),(14,.int .i64 p),(15,.int .i64 q)],[]⟩=some (.norm,⟨[(34,.bool false),(7,.bool false),(6,.ptr 6 (.box 27) []),(5,.ptr 5 (.box 49) []),(4,.int .i64 q),(0,.undef),(1,.ro false 55 ((wv ops ints strs rels before reached alive))),(3,.int .i64 r),(14,.int .i64 p),(15,.int .i64 q)],[(6,⟨.box 27,false,[(cd ([]:List XOp) ([]:List Int) ([]:List ByteArray) ([]:List XRel))]⟩),(5,⟨.box 49,true,[.st 49 [.int .i64 r,.int .i64 q]]⟩)]⟩):=by
 simp only[f39,sub,Option.getD_some];have e35:=c35_eq ops ints strs rels before reached alive r q hp;rw[hn] at e35;simp only[eOut,eCode] at e35;simp only[go_sem,sub,Option.getD_some,e35];try rfl
theorem ev72f (before:List (List XFact)) (reached:List Bool) (alive:List Int) (r p q:Int) (A:Nat→Prop):arun (env 36 17179984635 D0 [(20,c35),(40,c63)] [] A) H72 5 (sub (f39.body.getD .skip) [1,0,0,1,0,0,1,0,0,1,1,0,0,0]) ⟨[(0,.undef),(1,.ro false 55 ((wv ops ints strs rels before reached alive))),(3,.int .i64 r),(14,.int .i64 p),(15,.int .i64 q)],[]⟩=some (.norm,⟨[(4,.int .i64 q),(0,.undef),(1,.ro false 55 ((wv ops ints strs rels before reached alive))),(3,.int .i64 r),(14,.int .i64 p),(15,.int .i64 q)],[]⟩):=by
 simp only[f39,sub,Option.getD_some];simp only[go_sem,sub,Option.getD_some];try rfl
theorem ev72g (before:List (List XFact)) (reached:List Bool) (alive:List Int) (r p q:Int) (A:Nat→Prop):arun (env 36 17179984635 D0 [(20,c35),(40,c63)] [] A) H72 5 (sub (f39.body.getD .skip) [1,0,0,1,0,0,1,0,0,1,1,0,0,1,0]) ⟨[(0,.undef),(1,.ro false 55 ((wv ops ints strs rels before reached alive))),(3,.int .i64 r),(4,.int .i64 q),(14,.int .i64 p),(15,.int .i64 q)],[]⟩=some (.norm,⟨[(5,.ptr 5 (.box 49) []),(0,.undef),(1,.ro false 55 ((wv ops ints strs rels before reached alive))),(3,.int .i64 r),(4,.int .i64 q),(14,.int .i64 p),(15,.int .i64 q)],[(5,⟨.box 49,true,[.st 49 [.int .i64 r,.int .i64 q]]⟩)]⟩):=by
 simp only[f39,sub,Option.getD_some];simp only[go_sem,sub,Option.getD_some];try rfl
theorem ev72h (before:List (List XFact)) (reached:List Bool) (alive:List Int) (r p q:Int) (c:XCode) (hp:XA ops ints strs rels before reached alive) (hn:applyF ops ints strs rels before reached alive r q=some c) (A:Nat→Prop):arun (env 36 17179984635 D0 [(20,c35),(40,c63)] [] A) H72 5 (sub (f39.body.getD .skip) [1,0,0,1,0,0,1,0,0,1,1,0,0,1,1,0]) ⟨[(5,.ptr 5 (.box 49) []),(0,.undef),(1,.ro false 55 ((wv ops ints strs rels before reached alive))),(3,.int .i64 r),(4,.int .i64 q),(14,.int .i64 p),(15,.int .i64 q)],[(5,⟨.box 49,true,[.st 49 [.int .i64 r,.int .i64 q]]⟩)]⟩=some (.norm,⟨[(7,.bool true),(6,.ptr 6 (.box 27) []),(5,.ptr 5 (.box 49) []),(0,.undef),(1,.ro false 55 ((wv ops ints strs rels before reached alive))),(3,.int .i64 r),(4,.int .i64 q),(14,.int .i64 p),(15,.int .i64 q)],[(6,(bC c.ops c.ints c.strs c.rels)),(5,⟨.box 49,true,[.st 49 [.int .i64 r,.int .i64 q]]⟩)]⟩):=by
 simp only[f39,sub,Option.getD_some];have e35:=c35_eq ops ints strs rels before reached alive r q hp;rw[hn] at e35;simp only[eOut,eCode] at e35;simp only[go_sem,sub,Option.getD_some,e35];try rfl
theorem ev72i (before:List (List XFact)) (reached:List Bool) (alive:List Int) (r p q:Int) (hq:q+1 < 1000000) (h0:0≤q) (A:Nat→Prop):arun (env 36 17179984635 D0 [(20,c35),(40,c63)] [] A) H72 5 (sub (f39.body.getD .skip) [1,0,0,1,0,0,1,0,0,1,1,1]) ⟨[(0,.undef),(1,.ro false 55 ((wv ops ints strs rels before reached alive))),(3,.int .i64 r),(14,.int .i64 p),(15,.int .i64 q)],[]⟩=some (.norm,⟨[(15,.int .i64 (q+1)),(0,.undef),(1,.ro false 55 ((wv ops ints strs rels before reached alive))),(3,.int .i64 r),(14,.int .i64 p)],[]⟩):=by
 simp only[f39,sub,Option.getD_some];have hw:IntKind.i64.wrap (q+1)=q+1:=wrap_i64 (by omega) (by omega);simp only[go_sem,sub,Option.getD_some,hw];try rfl
theorem ev72j (before:List (List XFact)) (reached:List Bool) (alive:List Int) (r:Int) (hq:r+1 < 1000000) (h0:0≤r) (A:Nat→Prop):arun (env 36 17179984635 D0 [(20,c35),(40,c63)] [] A) H72 5 (sub (f39.body.getD .skip) [1,0,0,1,1]) ⟨[(0,.undef),(1,.ro false 55 ((wv ops ints strs rels before reached alive))),(3,.int .i64 r)],[]⟩=some (.norm,⟨[(3,.int .i64 (r+1)),(0,.undef),(1,.ro false 55 ((wv ops ints strs rels before reached alive)))],[]⟩):=by
 simp only[f39,sub,Option.getD_some];have hw:IntKind.i64.wrap (r+1)=r+1:=wrap_i64 (by omega) (by omega);simp only[go_sem,sub,Option.getD_some,hw];try rfl
noncomputable def ops8:Array Oper:=match sub (f39.body.getD .skip) [1,0,0,1,0,0,1,0,0,1,1,0,0,1,1,1,0] with | .region _ ops _=>ops | _=>#[]
theorem ev72k (before:List (List XFact)) (reached:List Bool) (alive:List Int) (r p q:Int) (c:XCode) (A:Nat→Prop):aopsM (env 36 17179984635 D0 [(20,c35),(40,c63)] [] A) ops8.toList (ops8.toList.take 2) ⟨[(7,.bool true),(6,.ptr 6 (.box 27) []),(5,.ptr 5 (.box 49) []),(0,.undef),(1,.ro false 55 ((wv ops ints strs rels before reached alive))),(3,.int .i64 r),(4,.int .i64 q),(14,.int .i64 p),(15,.int .i64 q)],[(6,(bC c.ops c.ints c.strs c.rels)),(5,⟨.box 49,true,[.st 49 [.int .i64 r,.int .i64 q]]⟩)]⟩=some ⟨[(28,.bool true),(27,.bool true),(7,.bool true),(6,.ptr 6 (.box 27) []),(5,.ptr 5 (.box 49) []),(0,.undef),(1,.ro false 55 ((wv ops ints strs rels before reached alive))),(3,.int .i64 r),(4,.int .i64 q),(14,.int .i64 p),(15,.int .i64 q)],[(6,(bC c.ops c.ints c.strs c.rels)),(5,⟨.box 49,true,[.st 49 [.int .i64 r,.int .i64 q]]⟩)]⟩:=by
 simp only[ops8,f39,sub,Option.getD_some,List.take_succ_cons,List.take_zero];simp only[go_sem,sub,Option.getD_some]
theorem ev72m (before:List (List XFact)) (reached:List Bool) (alive:List Int) (r p q:Int) (c:XCode) (A:Nat→Prop):aopsM (env 36 17179984635 D0 [(20,c35),(40,c63)] [] A) ops8.toList ((ops8.toList.drop 3).take 2) ⟨[(29,.undef),(28,.bool true),(27,.bool true),(7,.bool true),(6,.ptr 6 (.box 27) []),(5,.ptr 5 (.box 49) []),(0,.undef),(1,.ro false 55 ((wv ops ints strs rels before reached alive))),(3,.int .i64 r),(4,.int .i64 q),(14,.int .i64 p),(15,.int .i64 q)],[(6,(bC c.ops c.ints c.strs c.rels)),(5,⟨.box 49,true,[.st 49 [.int .i64 r,.int .i64 q]]⟩)]⟩=some ⟨[(31,(cd c.ops c.ints c.strs c.rels)),(30,.st 49 [.int .i64 r,.int .i64 q]),(29,.undef),(28,.bool true),(27,.bool true),(7,.bool true),(6,.ptr 6 (.box 27) []),(5,.ptr 5 (.box 49) []),(0,.undef),(1,.ro false 55 ((wv ops ints strs rels before reached alive))),(3,.int .i64 r),(4,.int .i64 q),(14,.int .i64 p),(15,.int .i64 q)],[(6,(bC c.ops c.ints c.strs c.rels)),(5,⟨.box 49,true,[.st 49 [.int .i64 r,.int .i64 q]]⟩)]⟩:=by
 simp only[ops8,f39,sub,Option.getD_some,List.take_succ_cons,List.take_zero,List.drop_succ_cons,List.drop_zero];simp only[go_sem,sub,Option.getD_some]
theorem ev72l (before:List (List XFact)) (reached:List Bool) (alive:List Int) (r p q:Int) (b:Bool) (A:Nat→Prop):aopsM (env 36 17179984635 D0 [(20,c35),(40,c63)] [] A) ops8.toList (ops8.toList.drop 6) ⟨[(0,.undef),(1,.ro false 55 ((wv ops ints strs rels before reached alive))),(3,.int .i64 r),(14,.int .i64 p),(15,.int .i64 q),(28,.bool true),(32,.bool b)],[]⟩=some ⟨[(34,.bool !b),(33,.bool !b),(0,.undef),(1,.ro false 55 ((wv ops ints strs rels before reached alive))),(3,.int .i64 r),(14,.int .i64 p),(15,.int .i64 q),(28,.bool true),(32,.bool b)],[]⟩:=by
 simp only[ops8,f39,sub,Option.getD_some,List.drop_succ_cons,List.drop_zero];simp only[go_sem,sub,Option.getD_some]
end Go.Proofs.Tryd
end
section
namespace Go.Proofs.Tryd
open Go Go.Abs Go.RowKit
variable (ops : List XOp) (ints : List Int) (strs : List ByteArray) (rels : List XRel)
def stepsQ (ap:Int→Option XCode) (r:Int):Nat→Int→List (Int × Int × XCode)
 | 0,_=>[]
 | m+1,q=>(match ap q with | some c=>[(r,q,c)] | none=>[])++stepsQ ap r m (q+1)
def stepsR (ap:Int→Int→Option XCode) (pl:Int→Int):Nat→Int→List (Int × Int × XCode)
 | 0,_=>[]
 | m+1,r=>stepsQ (ap r) r (pl r).toNat 0++stepsR ap pl m (r+1)
def encS (s:Int × Int × XCode):List AV:=[.st 49 [.int .i64 s.1,.int .i64 s.2.1],eCode s.2.2]
abbrev wv72 (ops:List XOp) (ints:List Int) (strs:List ByteArray) (rels:List XRel) (before:List (List XFact)) (reached:List Bool) (alive:List Int):AV:=
 .ro false 74 (.st 74 [.st 27 [.sl 36 ⟨false,none,false⟩ (ops.map eOp),.sl 2 ⟨false,none,false⟩ (ints.map eI),.sl 9 ⟨false,none,false⟩ (strs.map eS),.sl 38 ⟨false,none,false⟩ (rels.map eRel)],.sl 78 ⟨true,none,false⟩ (before.map eFacts),.sl 4 ⟨true,none,false⟩ (reached.map eB),.sl 82 ⟨true,none,false⟩ (alive.map eU)])
noncomputable abbrev E72 (A:Nat→Prop):Env:=env 36 17179984635 D0 [(20,c35),(40,c63)] [] A
noncomputable abbrev P72 (p:List Nat):Code:=sub (f39.body.getD .skip) p
theorem cs72 (A:Nat→Prop):CSound Tryd.prog (E72 A):=csnd (C:=[(20,c35),(40,c63)]) (M:=[]) ⟨snd35,snd63,trivial⟩ trivial
theorem body8:∃ id,P72 [1,0,0,1,0,0,1,0,0,1,1,0,0] = .seq (P72 [1,0,0,1,0,0,1,0,0,1,1,0,0,0]) (.seq (P72 [1,0,0,1,0,0,1,0,0,1,1,0,0,1,0]) (.seq (P72 [1,0,0,1,0,0,1,0,0,1,1,0,0,1,1,0])
 (.seq (.region id ops8 false) (.cond (.tmp 34) .ret .skip)))):=⟨_,rfl⟩
theorem body72:f39.body=some (.seq (P72 [0]) (.block 0 (.loop (.seq (P72 [1,0,0,0]) (.seq (.block 1 (.seq (P72 [1,0,0,1,0,0,0]) (.block 2 (.loop (.seq (P72 [1,0,0,1,0,0,1,0,0,0]) (.seq (.cond (.tmp 16) .skip (.exit 2))
 (.seq (.block 3 (P72 [1,0,0,1,0,0,1,0,0,1,1,0,0])) (P72 [1,0,0,1,0,0,1,0,0,1,1,1])))))))) (P72 [1,0,0,1,1])))))):=by kernel_rfl
theorem st72:(straight [0,1] (P72 [0])&&straight [0,1] (P72 [1,0,0,0])&&straight [0,1] (P72 [1,0,0,1,0,0,0])&&straight [0,1] (P72 [1,0,0,1,0,0,1,0,0,0])&&straight [0,1] (P72 [1,0,0,1,0,0,1,0,0,1,1,0,0])&&
 straight [0,1] (P72 [1,0,0,1,0,0,1,0,0,1,1,0,0,0])&&straight [0,1] (P72 [1,0,0,1,0,0,1,0,0,1,1,0,0,1,0])&&straight [0,1] (P72 [1,0,0,1,0,0,1,0,0,1,1,0,0,1,1,0])&&straight [0,1] (P72 [1,0,0,1,0,0,1,0,0,1,1,1])&&straight [0,1] (P72 [1,0,0,1,1]))=true:=by kernel_rfl
theorem ops8_0:List.range ops8.size=List.range' 0 ((ops8.toList.drop 0).take 2).length++[2,3,4,5,6,7]:=by kernel_rfl
theorem ops8_1:[3,4,5,6,7]=List.range' 3 ((ops8.toList.drop 3).take 2).length++[5,6,7]:=by kernel_rfl
theorem ops8_2:[6,7]=List.range' 6 ((ops8.toList.drop 6).take 2).length++[]:=by kernel_rfl
theorem ops8_3:(ops8.toList.drop 6).take 2=ops8.toList.drop 6:=by kernel_rfl
def quiet (S:List Nat) (l:List Oper):Bool:=l.all fun o=>noDefer o.op&&(match o.dst with | some t=> !S.contains t | none=>true)
theorem ops8_q:(quiet [0,1] ((ops8.toList.drop 0).take 2)&&quiet [0,1,29] ((ops8.toList.drop 3).take 2)&&quiet [0,1] ((ops8.toList.drop 6).take 2))=true:=by kernel_rfl
theorem ops8_o2:∃ o,ops8[2]? = some o∧o.op = .move (.tmp 0)∧o.dst=some 29∧o.guard=some (1,true):=⟨_,rfl,rfl,rfl,rfl⟩
theorem ops8_o5:∃ o c,ops8[5]? = some o∧o.op = .call c∧o.dst=some 32∧o.guard=some (1,true)∧c.callee = .value (.tmp 29)∧c.args.toList=[.tmp 30,.tmp 31]:=⟨_,_,rfl,rfl,rfl,rfl,rfl,rfl⟩
theorem ops8_d1:(ops8[1]?).bind (·.dst)=some 28:=rfl
structure It72 (ops:List XOp) (ints:List Int) (strs:List ByteArray) (rels:List XRel) (before:List (List XFact)) (reached:List Bool) (alive:List Int) (okA T0:Nat→Prop) (B l:Nat) (J:Nat→(Nat→Prop)→World→Prop) (Jx:World→Prop) (ys:List (List AV)):Prop where
 hp:XA ops ints strs rels before reached alive
 hT0:∀ k,okA k→¬ T0 k
 hJ:∀ i T W W',J i T W→Below W.heap.size W W'→J i T W'
 hJx:∀ W W',Jx W→Below W.heap.size W W'→Jx W'
 hY:∀ i y T W ws,ys[i]? = some y→J i T W→F2 (CR1 ty W fun _ b=>(okA b∨B≤b)∧¬ T b) y ws→
    YieldAt Fence.wide 0 Tryd.prog l ws.toArray W fun e W'=>
     (e = .returned (.bool true)∧∃ T',J (i+1) T' W'∧(∀ k,T' k→(T k∨W.heap.size≤k)∧k < W'.heap.size)∧Abs.Alike T W W')∨(e = .returned (.bool false)∧Jx W'∧Abs.Alike T W W')
section
variable {ops:List XOp} {ints:List Int} {strs:List ByteArray} {rels:List XRel} {before:List (List XFact)} {reached:List Bool} {alive:List Int} {okA T0:Nat→Prop} {B l:Nat} {J:Nat→(Nat→Prop)→World→Prop} {Jx:World→Prop} {ys:List (List AV)} {u:Value} {i:Nat} {a:Act} {W:World}
abbrev Wk72 (ops:List XOp) (ints:List Int) (strs:List ByteArray) (rels:List XRel) (before:List (List XFact)) (reached:List Bool) (alive:List Int) (okA T0:Nat→Prop) (B l:Nat) (J:Nat→(Nat→Prop)→World→Prop) (u:Value) (i:Nat) (a:Act) (W:World):Prop:=
 Wk 36 ty G0 (fun b=>okA b∧b < B) B J T0 (.ro false 55 (wv72 ops ints strs rels before reached alive)) (.func (.yield l) #[] #[]) u i a W
theorem piece72 (hI:It72 ops ints strs rels before reached alive okA T0 B l J Jx ys) (hw:Wk72 ops ints strs rels before reached alive okA T0 B l J u i a W) {tms:List (Nat × AV)} (hl:∀ p ∈ tms,p.1 < 36∧Holds a p) {c:Code} {σ':St} {e:AX} (hs:straight [0,1] c=true)
 (hev:arun (E72 fun b=>okA b∧b < B) H72 5 c ⟨(0,.undef)::(1,.ro false 55 (wv72 ops ints strs rels before reached alive))::tms,[]⟩=some (e,σ')) :
 c.wpIn Fence.wide 0 Tryd.prog (fun ex a' W'=>ex=exOf e∧Wk72 ops ints strs rels before reached alive okA T0 B l J u i a' W'∧∃ β',Sim (E72 fun b=>okA b∧b < B) W σ' a' W' β') a W:=
 wpIn_mono (Wk.piece (E:=E72 fun b=>okA b∧b < B) hw hI.hJ rfl (Nat.le_of_ble_eq_true rfl) (fun _=>rfl) tabs (cs72 _) (fun _ h=>h) hl hs hev) fun ex a' W' h=>⟨h.1,h.2.1,h.2.2.2⟩
def In72 (ops:List XOp) (ints:List Int) (strs:List ByteArray) (rels:List XRel) (before:List (List XFact)) (reached:List Bool) (alive:List Int) (okA T0:Nat→Prop) (B l:Nat) (J:Nat→(Nat→Prop)→World→Prop) (Jx:World→Prop) (u:Value) (i:Nat) (r p q:Int) (ex:Exit) (a:Act) (W:World):Prop:=
 (ex = .normal∧Wk72 ops ints strs rels before reached alive okA T0 B l J u i a W∧Holds a (3,.int .i64 r)∧Holds a (14,.int .i64 p)∧Holds a (15,.int .i64 q))∨(ex = .ret∧a.defers=[]∧Jx W)
theorem some72 (hI:It72 ops ints strs rels before reached alive okA T0 B l J Jx ys) (hw:Wk72 ops ints strs rels before reached alive okA T0 B l J u i a W) {r p q:Int} {c:XCode} (h3:Holds a (3,.int .i64 r)) (h14:Holds a (14,.int .i64 p)) (h15:Holds a (15,.int .i64 q))
 (hc:applyF ops ints strs rels before reached alive r q=some c) (hy:ys[i]? = some (encS (r,q,c))) :
 (P72 [1,0,0,1,0,0,1,0,0,1,1,0,0]).wpIn Fence.wide 0 Tryd.prog (In72 ops ints strs rels before reached alive okA T0 B l J Jx u (i+1) r p q) a W:=by
 have st:=st72;simp only[Bool.and_eq_true] at st;have sq:=ops8_q;simp only[Bool.and_eq_true] at sq;obtain⟨id,hb⟩:=body8;rw[hb];have hGl:∀ {W':World},(∀ g t x,G0 g=some (t,x)→LR ty W' (fun b=>okA b∧b < B) (.ro false t x) (.pointer (some ⟨g,0,none⟩)))→GlobOk (E72 fun b=>okA b∧b < B) W':=fun h g t x hg=>h g t x hg
 refine wpIn_seq (wpIn_mono (piece72 hI hw (tms:=[(3,.int .i64 r),(14,.int .i64 p),(15,.int .i64 q)]) (by simp;exact⟨h3,h14,h15⟩) st.1.1.1.1.2 (ev72f ops ints strs rels before reached alive r p q _)) fun ex a1 W1 h1=>?_);obtain⟨rfl,hw1,β1,S1⟩:=h1;have T1:Sim (E72 fun b=>okA b∧b < B) W1 ⟨(0,.undef)::(1,.ro false 55 (wv72 ops ints strs rels before reached alive))::[(3,.int .i64 r),(4,.int .i64 q),(14,.int .i64 p),(15,.int .i64 q)],[]⟩ a1 W1 (fun _=>none):=
  Wk.sim (E:=E72 fun b=>okA b∧b < B) hw1 rfl (Nat.le_of_ble_eq_true rfl) (show ∀ p ∈ _,p.1 < 36∧Holds a1 p by simp;exact⟨S1.hInt rfl,S1.hInt rfl,S1.hInt rfl,S1.hInt rfl⟩)
 have hG:=hGl hw1.glob;refine wpIn_seq (wpIn_mono (round_sound (S:=[0,1]) (fun _=>rfl) tabs (cs72 _) hG (easy_wide 0) _ _ _ _ st.1.1.1.2 (ev72g ops ints strs rels before reached alive r p q _) a1 W1 _ T1) fun ex a2 W2 h2=>?_);obtain⟨rfl,⟨β2,S2⟩,k2⟩:=h2;refine wpIn_seq (wpIn_mono (round_sound (S:=[0,1]) (fun _=>rfl) tabs (cs72 _) hG (easy_wide 0) _ _ _ _ st.1.1.2 (ev72h ops ints strs rels before reached alive r p q c hI.hp hc _) a2 W2 _ S2) fun ex a3 W3 h3=>?_);obtain⟨rfl,⟨β3,S3⟩,k3⟩:=h3;have k3:=k2.trans k3;refine wpIn_seq (wpIn_region ?_);rw[ops8_0];refine round_ops (S:=[0,1]) tabs (cs72 _) hG (easy_wide 0) _ _ _ a3 W3 β3 (seg 0 2) sq.1.1 (ev72k ops ints strs rels before reached alive r p q c _) S3 k3 fun a4 W4 β4 S4 k4=>?_
 obtain⟨o2,g1,g2,g3,g4⟩:=ops8_o2;have want:∀ {o:Oper} {a':Act} {W':World} {β':Nat→Option Nat} {σ:St},Sim (E72 fun b=>okA b∧b < B) W1 σ a' W' β'→aget 28 σ.tm=some (.bool true)→o.guard=some (1,true)→Region.wanted o (yielded ops8 a'.tmps)=true:=fun {o a' W' β' σ} hs hg ho=>by
  have hh:=hs.bool hg;have h4:a'.tmps[28]? = some (.bool true):=by
   have:28 < a'.tmps.size:=by rw[hs.size];exact Nat.le_of_ble_eq_true rfl
   rw[Array.getD_eq_getD_getElem?] at hh;rw[Array.getElem?_eq_getElem this] at hh ⊢;simpa using hh
  have hy:yielded ops8 a'.tmps 1=some true:=by simp[yielded,ops8_d1,h4]
  simp[Region.wanted,ho,hy]
 refine ops_next g1 (want S4 rfl g4) ⟨fun _ _=>trivial,?_⟩;have hsem:(o2.semAt Fence.wide.round a4.eval).run Tryd.prog W4 = .ok (.value (.func (.yield l) #[] #[])) W4:=by
  show (execOp a4.eval o2).run Tryd.prog W4=_;have e1:a4.eval (.tmp 0) = .func (.yield l) #[] #[]:=by
   show a4.tmps.getD 0 undef=_;rw[k4.1 0 (by simp),hw1.t0]
  simp[execOp,g2,e1]
 rw[hsem,Oper.uponIn_value,g3,ops8_1];have S5:=S4.put (t:=29) (x:= .undef) (v:= .func (.yield l) #[] #[]) (Nat.le_of_ble_eq_true rfl) (.undef _);have k5:Kept [0,1] a1 (a4.put (some 29) (.func (.yield l) #[] #[])):=k4.trans (Kept.put rfl);refine round_ops (S:=[0,1,29]) tabs (cs72 _) hG (easy_wide 0) _ _ _ _ W4 β4 (seg 3 2) sq.1.2 (ev72m ops ints strs rels before reached alive r p q c _) S5 (.refl _ _) fun a6 W6 β6 S6 k6=>?_
 obtain⟨o5,c5,f1,f2,f3,f4,f5,f6⟩:=ops8_o5;refine ops_next f1 (want S6 rfl f4) ?_;have k6':Kept [0,1] a1 a6:=k5.trans ⟨fun t ht=>k6.1 t (by simp at ht ⊢;rcases ht with h | h <;> simp[h]),k6.2⟩;refine Wk.yields (E:=E72 fun b=>okA b∧b < B) (Jx:=Jx) (okA0:=okA) (l:=l) (d:=32) (f:=29) (y:=encS (r,q,c)) hw1 hI.hJ rfl rfl (fun _ h=>h) (fun b hb=>hb) hI.hT0 (fun T W ws=>hI.hY i _ T W ws hy) S6 k6' hG f2 f3 (Nat.le_of_ble_eq_true rfl) f5 ?_ ?_ ?_ fun b W7 hw7 hle=>?_
 ·rw[k6.1 29 (by simp)];have:29 < a4.tmps.size:=by rw[S4.size];exact Nat.le_of_ble_eq_true rfl
  simp[Act.put,Array.getD_eq_getD_getElem?,this]
 ·rw[f6];rfl
 ·simp[encS,eCode,closed,closed.closedL,noTup]
 have hs6:32 < a6.tmps.size:=by rw[S6.size];exact Nat.le_of_ble_eq_true rfl
 have T7:Sim (E72 fun b=>okA b∧b < B) W7 ⟨(0,.undef)::(1,.ro false 55 (wv72 ops ints strs rels before reached alive))::[(3,.int .i64 r),(14,.int .i64 p),(15,.int .i64 q),(28,.bool true),(32,.bool b)],[]⟩ (a6.put (some 32) (.bool b)) W7 (fun _=>none):=
  Wk.sim (E:=E72 fun b=>okA b∧b < B) hw7 rfl (Nat.le_of_ble_eq_true rfl) (show ∀ p ∈ _,p.1 < 36∧Holds _ p by
   simp;exact⟨(S6.hInt rfl).put (by simp) _,(S6.hInt rfl).put (by simp) _,(S6.hInt rfl).put (by simp) _,(S6.hBool rfl).put (by simp) _,Holds.bool_put hs6 b⟩)
 have hG7:=hGl hw7.glob;rw[ops8_2];refine round_ops (S:=[0,1]) tabs (cs72 _) hG7 (easy_wide 0) _ _ _ _ W7 _ (seg 6 2) sq.2 (by rw[ops8_3];exact ev72l ops ints strs rels before reached alive r p q b _) T7 (.refl _ _) fun a8 W8 β8 S8 k8=>?_
 have hw8:=Wk.next (E:=E72 fun b=>okA b∧b < B) hw7 (Jb.mono hI.hJ hI.hJx b) (fun _ h=>h) S8 k8;show (Code.cond (.tmp 34) .ret .skip).wpIn Fence.wide 0 Tryd.prog _ a8 W8;refine wpIn_cond (t:= !b) (S8.bool rfl) ?_;cases b with
 | true=>exact wpIn_skip (.inl ⟨rfl,hw8,S8.hInt rfl,S8.hInt rfl,S8.hInt rfl⟩)
 | false=>
   obtain⟨T,h1,_⟩:=hw8.j;exact wpIn_ret (.inr ⟨rfl,hw8.defers,h1⟩)
theorem none72 (hI:It72 ops ints strs rels before reached alive okA T0 B l J Jx ys) (hw:Wk72 ops ints strs rels before reached alive okA T0 B l J u i a W) {r p q:Int} (h3:Holds a (3,.int .i64 r)) (h14:Holds a (14,.int .i64 p)) (h15:Holds a (15,.int .i64 q))
 (hc:applyF ops ints strs rels before reached alive r q=none) :
 (P72 [1,0,0,1,0,0,1,0,0,1,1,0,0]).wpIn Fence.wide 0 Tryd.prog (In72 ops ints strs rels before reached alive okA T0 B l J Jx u i r p q) a W:=by
 have st:=st72;simp only[Bool.and_eq_true] at st;refine wpIn_mono (piece72 hI hw (tms:=[(3,.int .i64 r),(14,.int .i64 p),(15,.int .i64 q)]) (by simp;exact⟨h3,h14,h15⟩) st.1.1.1.1.1.2 (ev72e ops ints strs rels before reached alive r p q hI.hp hc _)) fun ex a1 W1 h1=>?_
 obtain⟨rfl,hw1,β1,S1⟩:=h1;exact .inl ⟨rfl,hw1,S1.hInt rfl,S1.hInt rfl,S1.hInt rfl⟩
def Q72 (ops:List XOp) (ints:List Int) (strs:List ByteArray) (rels:List XRel) (before:List (List XFact)) (reached:List Bool) (alive:List Int) (okA T0:Nat→Prop) (B l:Nat) (J:Nat→(Nat→Prop)→World→Prop) (Jx:World→Prop) (ys:List (List AV)) (u:Value) (r:Int) (rest:List (List AV)) (e0:Exit) (ex:Exit) (a:Act) (W:World):Prop:=
 (ex=e0∧∃ i,i≤ys.length∧ys.drop i=rest∧Wk72 ops ints strs rels before reached alive okA T0 B l J u i a W∧Holds a (3,.int .i64 r))∨(ex = .ret∧a.defers=[]∧Jx W)
theorem inner72 (hI:It72 ops ints strs rels before reached alive okA T0 B l J Jx ys) {r p:Int} (hp:p < 999999) (rest:List (List AV)):∀ (m:Nat) (q:Int) (i:Nat) (a:Act) (W:World),0≤q→q+m=p→i≤ys.length→ys.drop i=(stepsQ (applyF ops ints strs rels before reached alive r) r m q).map encS++rest→
 Wk72 ops ints strs rels before reached alive okA T0 B l J u i a W→Holds a (3,.int .i64 r)→Holds a (14,.int .i64 p)→Holds a (15,.int .i64 q)→
 Code.roundsIn Fence.wide 0 Tryd.prog (.seq (P72 [1,0,0,1,0,0,1,0,0,0]) (.seq (.cond (.tmp 16) .skip (.exit 2)) (.seq (.block 3 (P72 [1,0,0,1,0,0,1,0,0,1,1,0,0])) (P72 [1,0,0,1,0,0,1,0,0,1,1,1]))))
  (Q72 ops ints strs rels before reached alive okA T0 B l J Jx ys u r rest (.exit 2)) (m+1) a W
 | m,q,i,a,W,hq,hm,hi,hd,hw,h3,h14,h15=>by
   have st:=st72;simp only[Bool.and_eq_true] at st;rw[roundsIn_succ];refine wpIn_seq (wpIn_mono (piece72 hI hw (tms:=[(3,.int .i64 r),(14,.int .i64 p),(15,.int .i64 q)]) (by simp;exact⟨h3,h14,h15⟩) st.1.1.1.1.1.1.2 (ev72d ops ints strs rels before reached alive r p q (decide (q < p)) rfl _)) fun ex a1 W1 h1=>?_);obtain⟨rfl,hw1,β1,S1⟩:=h1;refine wpIn_seq (wpIn_cond (t:=decide (q < p)) (S1.bool rfl) ?_);have g3:Holds a1 (3,.int .i64 r):=S1.hInt rfl;have g14:Holds a1 (14,.int .i64 p):=S1.hInt rfl;have g15:Holds a1 (15,.int .i64 q):=S1.hInt rfl;cases m with
   | zero=>
     have hn:decide (q < p)=false:=by simp;simp at hm;omega
     rw[hn];refine wpIn_exit (.inl ⟨rfl,i,hi,?_,hw1,g3⟩);simpa[stepsQ] using hd
   | succ m=>
     have hn:decide (q < p)=true:=by simp;omega
     rw[hn];refine wpIn_skip ?_;refine wpIn_seq (wpIn_block ?_);have next:∀ (i':Nat) (a2:Act) (W2:World),i'≤ys.length→ys.drop i'=(stepsQ (applyF ops ints strs rels before reached alive r) r m (q+1)).map encS++rest→Wk72 ops ints strs rels before reached alive okA T0 B l J u i' a2 W2→Holds a2 (3,.int .i64 r)→Holds a2 (14,.int .i64 p)→Holds a2 (15,.int .i64 q)→
      (P72 [1,0,0,1,0,0,1,0,0,1,1,1]).wpIn Fence.wide 0 Tryd.prog (Exit.then (Code.roundsIn Fence.wide 0 Tryd.prog (.seq (P72 [1,0,0,1,0,0,1,0,0,0]) (.seq (.cond (.tmp 16) .skip (.exit 2)) (.seq (.block 3 (P72 [1,0,0,1,0,0,1,0,0,1,1,0,0])) (P72 [1,0,0,1,0,0,1,0,0,1,1,1]))))
        (Q72 ops ints strs rels before reached alive okA T0 B l J Jx ys u r rest (.exit 2)) (m+1)) (Q72 ops ints strs rels before reached alive okA T0 B l J Jx ys u r rest (.exit 2))) a2 W2:=fun i' a2 W2 hi' hd' hw2 k3 k14 k15=>by
      refine wpIn_mono (piece72 hI hw2 (tms:=[(3,.int .i64 r),(14,.int .i64 p),(15,.int .i64 q)]) (by simp;exact⟨k3,k14,k15⟩) st.1.2 (ev72i ops ints strs rels before reached alive r p q (by omega) hq _)) fun ex a3 W3 h3=>?_
      obtain⟨rfl,hw3,β3,S3⟩:=h3;exact inner72 hI hp rest m (q+1) i' a3 W3 (by omega) (by omega) hi' hd' hw3 (S3.hInt rfl) (S3.hInt rfl) (S3.hInt rfl)
     rw[stepsQ] at hd;cases hc:applyF ops ints strs rels before reached alive r q with
     | none=>
       rw[hc] at hd;refine wpIn_mono (none72 hI hw1 g3 g14 g15 hc) fun ex a2 W2 h2=>?_
       rcases h2 with ⟨rfl,hw2,k3,k14,k15⟩ | ⟨rfl,h4,h5⟩
       ·exact next i a2 W2 hi (by simpa using hd) hw2 k3 k14 k15
       ·exact .inr ⟨rfl,h4,h5⟩
     | some c=>
       rw[hc] at hd;have hy:ys[i]? = some (encS (r,q,c)):=by
        have:=congrArg (fun l=>l[0]?) hd;simpa using this
       have hi1:i < ys.length:=(List.getElem?_eq_some_iff.1 hy).1;refine wpIn_mono (some72 hI hw1 g3 g14 g15 hc hy) fun ex a2 W2 h2=>?_
       rcases h2 with ⟨rfl,hw2,k3,k14,k15⟩ | ⟨rfl,h4,h5⟩
       ·refine next (i+1) a2 W2 hi1 ?_ hw2 k3 k14 k15;have:=congrArg (fun l=>l.drop 1) hd;simpa[List.drop_drop,Nat.add_comm] using this
       ·exact .inr ⟨rfl,h4,h5⟩
theorem outer72 (hI:It72 ops ints strs rels before reached alive okA T0 B l J Jx ys):∀ (m:Nat) (r:Int) (i:Nat) (a:Act) (W:World),0≤r→r+m=9→i≤ys.length→ys.drop i=(stepsR (applyF ops ints strs rels before reached alive) (placesF ops ints strs) m r).map encS→
 Wk72 ops ints strs rels before reached alive okA T0 B l J u i a W→Holds a (3,.int .i64 r)→
 Code.roundsIn Fence.wide 0 Tryd.prog (.seq (P72 [1,0,0,0]) (.seq (.block 1 (.seq (P72 [1,0,0,1,0,0,0]) (.block 2 (.loop (.seq (P72 [1,0,0,1,0,0,1,0,0,0]) (.seq (.cond (.tmp 16) .skip (.exit 2))
 (.seq (.block 3 (P72 [1,0,0,1,0,0,1,0,0,1,1,0,0])) (P72 [1,0,0,1,0,0,1,0,0,1,1,1])))))))) (P72 [1,0,0,1,1])))
   (Q72 ops ints strs rels before reached alive okA T0 B l J Jx ys u 9 [] (.exit 0)) (m+1) a W
 | m,r,i,a,W,hr,hm,hi,hd,hw,h3=>by
   have st:=st72;simp only[Bool.and_eq_true] at st;obtain⟨l1,l2,l3,l4⟩:=hI.hp.lim;rw[roundsIn_succ];cases m with
   | zero=>
     have:r=9:=by simpa using hm
     subst this;refine wpIn_seq (wpIn_mono (piece72 hI hw (tms:=[(3,.int .i64 9)]) (by simp;exact h3) st.1.1.1.1.1.1.1.1.2 (ev72b0 ops ints strs rels before reached alive 9 rfl _)) fun ex a1 W1 h1=>?_);obtain⟨rfl,hw1,β1,S1⟩:=h1;exact .inl ⟨rfl,i,hi,by simpa[stepsR] using hd,hw1,S1.hInt rfl⟩
   | succ m=>
     refine wpIn_seq (wpIn_mono (piece72 hI hw (tms:=[(3,.int .i64 r)]) (by simp;exact h3) st.1.1.1.1.1.1.1.1.2 (ev72b ops ints strs rels before reached alive r (by simp;omega) _)) fun ex a1 W1 h1=>?_);obtain⟨rfl,hw1,β1,S1⟩:=h1;refine wpIn_seq (wpIn_block (wpIn_seq (wpIn_mono (piece72 hI hw1 (tms:=[(3,.int .i64 r)]) (by simp;exact S1.hInt rfl) st.1.1.1.1.1.1.1.2 (ev72c ops ints strs rels before reached alive r ⟨by omega,by omega⟩ _)) fun ex a2 W2 h2=>?_)));obtain⟨rfl,hw2,β2,S2⟩:=h2;have hpl:0≤placesF ops ints strs r∧placesF ops ints strs r < 999999:=by
      unfold placesF;split <;> omega
     rw[stepsR,List.map_append] at hd;refine wpIn_block (wpIn_mono (wpIn_loop_rounds _ (inner72 hI hpl.2 ((stepsR (applyF ops ints strs rels before reached alive) (placesF ops ints strs) m (r+1)).map encS) (placesF ops ints strs r).toNat 0 i a2 W2 (by omega) (by omega) hi hd hw2 (S2.hInt rfl) (S2.hInt rfl) (S2.hInt rfl))) fun ex a3 W3 h3=>?_);rcases h3 with ⟨rfl,i',hi',hd',hw3,k3⟩ | ⟨rfl,h4,h5⟩
     ·refine wpIn_mono (piece72 hI hw3 (tms:=[(3,.int .i64 r)]) (by simp;exact k3) st.2 (ev72j ops ints strs rels before reached alive r (by omega) hr _)) fun ex a4 W4 h4=>?_
      obtain⟨rfl,hw4,β4,S4⟩:=h4;exact outer72 hI m (r+1) i' a4 W4 (by omega) (by omega) hi' hd' hw4 (S4.hInt rfl)
     ·exact .inr ⟨rfl,h4,h5⟩
end
def stepsW (ops:List XOp) (ints:List Int) (strs:List ByteArray) (rels:List XRel) (before:List (List XFact)) (reached:List Bool) (alive:List Int):List (Int × Int × XCode):=
 stepsR (applyF ops ints strs rels before reached alive) (placesF ops ints strs) 8 1
theorem n72:f39.ntmps=36:=rfl
theorem iter72 (before:List (List XFact)) (reached:List Bool) (alive:List Int) (hp:XA ops ints strs rels before reached alive) :
 Iter Tryd.prog ty G0 39 [.ro false 55 (wv72 ops ints strs rels before reached alive)] ((stepsW ops ints strs rels before reached alive).map encS):=by
 intro okA W0 vs hvs hG l J Jx T0 hT0 hTs hJ hJx hJ0 hY;have hvl:vs.length=1:=hvs.1.symm;obtain⟨u,rfl⟩:∃ u,vs=[u]:=by
  cases vs with
  | nil=>simp at hvl
  | cons u r=>cases r with
    | nil=>exact⟨u,rfl⟩
    | cons _ _=>simp at hvl
 have hu:LR ty W0 okA (.ro false 55 (wv72 ops ints strs rels before reached alive)) u:=hvs.2 0 _ _ rfl rfl;have hI:It72 ops ints strs rels before reached alive okA T0 W0.heap.size l J Jx ((stepsW ops ints strs rels before reached alive).map encS):=⟨hp,hT0,hJ,hJx,hY⟩
 have st:=st72;simp only[Bool.and_eq_true] at st;have hw:Wk72 ops ints strs rels before reached alive okA T0 W0.heap.size l J u 0 { tmps:=#[.func (.yield l) #[] #[]]++[u].toArray++Array.replicate (f39.ntmps - (#[Value.func (.yield l) #[] #[]]++[u].toArray).size) undef,defers:=[] } W0:={
  j:=⟨T0,hJ0,fun k hk=>⟨.inl hk,hTs k hk⟩⟩
  low:=Nat.le_refl _
  cap:=hu.mono fun b hb hl=>⟨⟨hb,hl⟩,hl,rfl⟩
  glob:=fun g t x hg=>(hG g t x hg).mono fun b hb hl=>⟨⟨hb,hl⟩,hl,rfl⟩
  size:=by rw[n72];simp
  defers:=rfl
  t0:=by simp[Array.getD_eq_getD_getElem?,Array.getElem?_append]
  t1:=by simp[Array.getD_eq_getD_getElem?,Array.getElem?_append] }
 refine callsIn_of_wp_marks h72 body72 trivial ?_ rfl;generalize ({ tmps:=#[.func (.yield l) #[] #[]]++[u].toArray++Array.replicate (f39.ntmps - (#[Value.func (.yield l) #[] #[]]++[u].toArray).size) undef,defers:=[] }:Act)=a at hw ⊢;refine wpIn_seq (wpIn_mono (piece72 hI hw (tms:=[]) (by simp) st.1.1.1.1.1.1.1.1.1 (ev72a ops ints strs rels before reached alive _)) fun ex a1 W1 h1=>?_);obtain⟨rfl,hw1,β1,S1⟩:=h1;refine wpIn_block (wpIn_mono (wpIn_loop_rounds _ (outer72 hI 8 1 0 a1 W1 (by omega) (by omega) (Nat.zero_le _) (by simp[stepsW]) hw1 (S1.hInt rfl))) fun ex a2 W2 h2=>?_);have fin:∀ (a2:Act) (W2:World),a2.defers=[]→((∃ T,J ((stepsW ops ints strs rels before reached alive).map encS).length T W2)∨Jx W2)→
  LeavesInM Fence.wide 0 Tryd.prog f39 a2.tmps (fun e W'=>(∃ v,e = .returned v)∧((∃ T,J ((stepsW ops ints strs rels before reached alive).map encS).length T W')∨Jx W')) a2.defers .returning W2:=fun a2 W2 hd hj=>by
  rw[hd];obtain⟨v,hr⟩:∃ v,(results f39 a2.tmps).run Tryd.prog W2 = .ok v W2:=by
   have h0:f39.results = #[]:=rfl;simp[results,h0]
  exact⟨_,hr,⟨_,rfl⟩,hj⟩
 rcases h2 with ⟨rfl,i,hi,hd,hw2,h3⟩ | ⟨rfl,h4,h5⟩
 ·refine fin a2 W2 hw2.defers (.inl ?_);obtain⟨T,h1,_⟩:=hw2.j;have:i=((stepsW ops ints strs rels before reached alive).map encS).length:=by
   have:=congrArg List.length hd;simp only[List.length_drop,List.length_nil] at this;omega
  subst this;exact⟨T,h1⟩
 ·exact fin a2 W2 h4 (.inr h5)
end Go.Proofs.Tryd
end
section
set_option maxHeartbeats 4000000
set_option maxRecDepth 20000
namespace Go.Proofs.Tryd
open Go Go.Abs
variable (ops : List XOp) (ints : List Int) (strs : List ByteArray) (rels : List XRel)
def subR:Code→List Nat→Code
 | c,[]=>c
 | .seq a _,0::p=>subR a p
 | .seq _ b,1::p=>subR b p
 | .cond _ a _,0::p=>subR a p
 | .cond _ _ b,1::p=>subR b p
 | .block _ c,_::p=>subR c p
 | .loop c,_::p=>subR c p
 | .scope c,_::p=>subR c p
 | .rangeFunc _ _ a _,0::p=>subR a p
 | .rangeFunc _ _ _ b,1::p=>subR b p
 | c,_=>c
theorem ret46c (hp:LM ops ints strs rels):Ret Tryd.prog ty G0 17 [(cd ops ints strs rels)] ((cd ops ints strs rels)):=
 RetM.hand (k:=30) tabs (snd46 _ _ _ _ (c46_eq ops ints strs rels hp)).2 (by simp[oldV,oldV.oldL]) (by simp[hand,hand.handL,aget,obind])
def R46c (l:List AV) (r:AV):Prop:=∃ (ops:List XOp) (ints:List Int) (strs:List ByteArray) (rels:List XRel),(LM ops ints strs rels)∧l=[(cd ops ints strs rels)]∧r=(cd ops ints strs rels)
noncomputable def c46c:=famC R46c
theorem c46c_eq (hp:LM ops ints strs rels):c46c [(cd ops ints strs rels)]=some ((cd ops ints strs rels)):=by
 refine famC_eq (fun l r r'=>?_) ⟨ops,ints,strs,rels,hp,rfl,rfl⟩;rintro⟨ops,ints,strs,rels,hp,h,rfl⟩ ⟨ops',ints',strs',rels',hp',h',rfl⟩;rw[h] at h';simp only[List.cons.injEq,AV.st.injEq,AV.sl.injEq,AV.int.injEq,AV.bool.injEq,AV.str.injEq,AV.ro.injEq,AV.fn.injEq,AV.own.injEq,Fl.mk.injEq,Prod.mk.injEq,Abs.Obj.mk.injEq,mOp_inj,mI_inj,mS_inj,mB_inj,mRel_inj,mStep_inj,mFacts_inj,mU_inj,and_true,true_and,and_assoc] at h';obtain⟨rfl,rfl,rfl,rfl⟩:=h';rfl
theorem snd46c:Snd 17 c46c:=fun l r h=>by
 obtain⟨ops,ints,strs,rels,hp,rfl,rfl⟩:=famC_R h;exact⟨⟨f17,h46,rfl,by decide⟩,ret46c ops ints strs rels hp⟩
def H0:Nat→Hint:=fun _=>{ tm:=[],ob:=[] }
theorem h37:Tryd.prog.funcs[19]? = some f19:=by kernel_rfl
theorem ev37 (before:List (List XFact)) (reached:List Bool) (alive:List Int) (A:Nat→Prop):arun (env 4 7 D0 [] [] A) H0 5 (f19.body.getD .skip) ⟨[(0,(wv ops ints strs rels before reached alive))],[]⟩=some (.ret,⟨[(2,.fn 39 [.ptr 1 (.box 55) []]),(1,.ptr 1 (.box 55) []),(0,(wv ops ints strs rels before reached alive))],[(1,⟨.box 55,false,[(wv ops ints strs rels before reached alive)]⟩)]⟩):=by
 simp only[f19,Option.getD_some];simp only[go_sem,subR,Option.getD_some];try rfl
theorem h15:Tryd.prog.funcs[8]? = some f8:=by kernel_rfl
theorem ev15a  (A:Nat→Prop):arun (env 22 50303 D0 [(16,c33),(18,c34)] [] A) H0 5 (subR (f8.body.getD .skip) [0]) ⟨[(0,(cd ops ints strs rels))],[]⟩=some (.norm,⟨[(3,.int .i64 0),(2,.sl 0 gN []),(1,.ptr 1 (.box 27) []),(0,(cd ops ints strs rels))],[(1,(bC ops ints strs rels))]⟩):=by
 simp only[f8,subR,Option.getD_some];simp only[go_sem,subR,Option.getD_some];try rfl
theorem ev15f (hp:XIn ops ints strs rels) (hc:checkF ops ints strs rels=false) (A:Nat→Prop):arun (env 22 50303 D0 [(16,c33),(18,c34)] [] A) H0 5 (subR (f8.body.getD .skip) [1,0]) ⟨[(3,.int .i64 0),(2,.sl 0 gN []),(1,.ptr 1 (.box 27) []),(0,(cd ops ints strs rels))],[(1,(bC ops ints strs rels))]⟩=some (.ret,⟨[(3,.int .i64 150),(2,.sl 0 gN []),(10,.bool true),(4,.int .i64 150),(1,.ptr 1 (.box 27) []),(0,(cd ops ints strs rels))],[(1,(bC ops ints strs rels))]⟩):=by
 simp only[f8,subR,Option.getD_some];have e33:=c33_eq ops ints strs rels ⟨hp.lim,hp.str⟩;rw[hc] at e33;simp only[errF,BL] at e33;simp only[go_sem,subR,Option.getD_some,e33];try rfl
theorem ev15b (hp:XIn ops ints strs rels) (hc:checkF ops ints strs rels=true) (A:Nat→Prop):arun (env 22 50303 D0 [(16,c33),(18,c34)] [] A) H0 5 (subR (f8.body.getD .skip) [1,0]) ⟨[(3,.int .i64 0),(2,.sl 0 gN []),(1,.ptr 1 (.box 27) []),(0,(cd ops ints strs rels))],[(1,(bC ops ints strs rels))]⟩=some (.norm,⟨[(10,.bool false),(4,.int .i64 0),(3,.int .i64 0),(2,.sl 0 gN []),(1,.ptr 1 (.box 27) []),(0,(cd ops ints strs rels))],[(1,(bC ops ints strs rels))]⟩):=by
 simp only[f8,subR,Option.getD_some];have e33:=c33_eq ops ints strs rels ⟨hp.lim,hp.str⟩;rw[hc] at e33;simp only[errF,BL] at e33;simp only[go_sem,subR,Option.getD_some,e33];try rfl
theorem ev15c  (A:Nat→Prop):arun (env 22 50303 D0 [(16,c33),(18,c34)] [] A) H0 5 (subR (f8.body.getD .skip) [1,1,0]) ⟨[(10,.bool false),(4,.int .i64 0),(3,.int .i64 0),(2,.sl 0 gN []),(1,.ptr 1 (.box 27) []),(0,(cd ops ints strs rels))],[(1,(bC ops ints strs rels))]⟩=some (.norm,⟨[(5,.ptr 5 (.box 30) []),(10,.bool false),(4,.int .i64 0),(3,.int .i64 0),(2,.sl 0 gN []),(1,.ptr 1 (.box 27) []),(0,(cd ops ints strs rels))],[(5,⟨.box 30,true,[.sl 49 gN []]⟩),(1,(bC ops ints strs rels))]⟩):=by
 simp only[f8,subR,Option.getD_some];simp only[go_sem,subR,Option.getD_some];try rfl
noncomputable def ops15:Array Oper:=match subR (f8.body.getD .skip) [1,1,1,0,0] with | .region _ ops _=>ops | _=>#[]
theorem ev15d (hp:XIn ops ints strs rels) (hc:checkF ops ints strs rels=true) (A:Nat→Prop):aopsM (env 22 50303 D0 [(16,c33),(18,c34)] [] A) ops15.toList (ops15.toList.take 2) ⟨[(5,.ptr 5 (.box 30) []),(10,.bool false),(4,.int .i64 0),(3,.int .i64 0),(2,.sl 0 gN []),(1,.ptr 1 (.box 27) []),(0,(cd ops ints strs rels))],[(5,⟨.box 30,true,[.sl 49 gN []]⟩),(1,(bC ops ints strs rels))]⟩=some ⟨[(13,.ro false 74 (.st 74 [(cd ops ints strs rels),.sl 78 gT ((workS ops ints rels).1.map eFacts),.sl 4 gT ((workS ops ints rels).2.map eB),.sl 82 gT ((workL ops).map eU)])),(12,(cd ops ints strs rels)),(5,.ptr 5 (.box 30) []),(10,.bool false),(4,.int .i64 0),(3,.int .i64 0),(2,.sl 0 gN []),(1,.ptr 1 (.box 27) []),(0,(cd ops ints strs rels))],[(5,⟨.box 30,true,[.sl 49 gN []]⟩),(1,(bC ops ints strs rels))]⟩:=by
 have e34:=c34_eq ops ints strs rels ⟨⟨hp.lim,hp.str⟩,hc⟩;simp only[ops15,f8,subR,Option.getD_some,List.take_succ_cons,List.take_zero];simp only[go_sem,subR,Option.getD_some,e34];try rfl
theorem ev15g (r q:Int) (c:XCode) (lo:Option Nat) (A L:Nat→Prop):arun (envM 22 50303 D0 [(16,c33),(18,c34)] [] lo A L) H0 5 (subR (f8.body.getD .skip) [1,1,1,0,1,0,0]) ⟨[(16,(cd c.ops c.ints c.strs c.rels)),(15,.st 49 [.int .i64 r,.int .i64 q]),(5,.ptr 5 (.box 30) [])],[(5,⟨.box 30,true,[.sl 49 gN []]⟩),(1,(bC ops ints strs rels))]⟩=some (.norm,⟨[(6,.ptr 6 (.box 49) []),(15,.st 49 [.int .i64 r,.int .i64 q]),(5,.ptr 5 (.box 30) [])],[(6,⟨.box 49,true,[.st 49 [.int .i64 r,.int .i64 q]]⟩),(5,⟨.box 30,true,[.sl 49 gN []]⟩),(1,(bC ops ints strs rels))]⟩):=by
 simp only[f8,subR,Option.getD_some];simp only[go_sem,subR,Option.getD_some];try rfl
theorem ev15h (r q:Int) (lo:Option Nat) (A L:Nat→Prop):arun (envM 22 50303 D0 [(16,c33),(18,c34)] [] lo A L) H0 5 (subR (f8.body.getD .skip) [1,1,1,0,1,0,1]) ⟨[(6,.ptr 6 (.box 49) []),(15,.st 49 [.int .i64 r,.int .i64 q]),(5,.ptr 5 (.box 30) [])],[(6,⟨.box 49,true,[.st 49 [.int .i64 r,.int .i64 q]]⟩),(5,⟨.box 30,true,[.sl 49 gN []]⟩),(1,(bC ops ints strs rels))]⟩=some (.norm,⟨[(6,.ptr 6 (.box 49) []),(15,.st 49 [.int .i64 r,.int .i64 q]),(5,.ptr 5 (.box 30) [])],[(5,⟨.box 30,true,[.own 20 49 0 1]⟩),(20,⟨.row 49,true,[.st 49 [.int .i64 r,.int .i64 q]]⟩),(19,⟨.row 49,true,[.st 49 [.int .i64 r,.int .i64 q]]⟩),(6,⟨.box 49,true,[.st 49 [.int .i64 r,.int .i64 q]]⟩),(1,(bC ops ints strs rels))]⟩):=by
 simp only[f8,subR,Option.getD_some];simp only[go_sem,subR,Option.getD_some];try rfl
theorem ev15i (xs:List XStep) (r0 q0 r q:Int) (c:XCode) (lo:Option Nat) (A L:Nat→Prop):arun (envM 22 50303 D0 [(16,c33),(18,c34)] [] lo A L) H0 5 (subR (f8.body.getD .skip) [1,1,1,0,1,0,0]) ⟨[(16,(cd c.ops c.ints c.strs c.rels)),(15,.st 49 [.int .i64 r,.int .i64 q]),(5,.ptr 5 (.box 30) [])],[(5,⟨.box 30,true,[.own 21 49 0 xs.length]⟩),(21,⟨.row 49,true,(xs.map eStep)⟩),(19,⟨.row 49,true,[.st 49 [.int .i64 r0,.int .i64 q0]]⟩),(6,⟨.box 49,true,[.st 49 [.int .i64 r0,.int .i64 q0]]⟩),(1,(bC ops ints strs rels))]⟩=some (.norm,⟨[(6,.ptr 6 (.box 49) []),(15,.st 49 [.int .i64 r,.int .i64 q]),(5,.ptr 5 (.box 30) [])],[(6,⟨.box 49,true,[.st 49 [.int .i64 r,.int .i64 q]]⟩),(5,⟨.box 30,true,[.own 21 49 0 xs.length]⟩),(21,⟨.row 49,true,(xs.map eStep)⟩),(19,⟨.row 49,true,[.st 49 [.int .i64 r0,.int .i64 q0]]⟩),(1,(bC ops ints strs rels))]⟩):=by
 simp only[f8,subR,Option.getD_some];simp only[go_sem,subR,Option.getD_some];try rfl
theorem ev15j (xs:List XStep) (r0 q0 r q:Int) (hx:xs.length < 10000000) (lo:Option Nat) (A L:Nat→Prop):arun (envM 22 50303 D0 [(16,c33),(18,c34)] [] lo A L) H0 5 (subR (f8.body.getD .skip) [1,1,1,0,1,0,1]) ⟨[(6,.ptr 6 (.box 49) []),(15,.st 49 [.int .i64 r,.int .i64 q]),(5,.ptr 5 (.box 30) [])],[(6,⟨.box 49,true,[.st 49 [.int .i64 r,.int .i64 q]]⟩),(5,⟨.box 30,true,[.own 21 49 0 xs.length]⟩),(21,⟨.row 49,true,(xs.map eStep)⟩),(19,⟨.row 49,true,[.st 49 [.int .i64 r0,.int .i64 q0]]⟩),(1,(bC ops ints strs rels))]⟩=some (.norm,⟨[(6,.ptr 6 (.box 49) []),(15,.st 49 [.int .i64 r,.int .i64 q]),(5,.ptr 5 (.box 30) [])],[(5,⟨.box 30,true,[.own 20 49 0 (xs.length+1)]⟩),(20,⟨.row 49,true,(xs.map eStep++[.st 49 [.int .i64 r,.int .i64 q]])⟩),(19,⟨.row 49,true,[.st 49 [.int .i64 r,.int .i64 q]]⟩),(6,⟨.box 49,true,[.st 49 [.int .i64 r,.int .i64 q]]⟩),(1,(bC ops ints strs rels))]⟩):=by
 simp only[f8,subR,Option.getD_some];have hroom:((xs.length+1) * 16≤140737488355328)=True:=by simp;omega
 have hlen:(xs.length≤140737488355327)=True:=by simp;omega
 simp only[go_sem,subR,Option.getD_some,hroom,hlen];try rfl
theorem ev15k  (A:Nat→Prop):arun (env 22 50303 D0 [(16,c33),(18,c34)] [] A) H0 5 (subR (f8.body.getD .skip) [1,1,1,1]) ⟨[(5,.ptr 5 (.box 30) [])],[(5,⟨.box 30,true,[.sl 49 gN []]⟩),(1,(bC ops ints strs rels))]⟩=some (.ret,⟨[(3,.int .i64 0),(2,.sl 49 gN []),(5,.ptr 5 (.box 30) [])],[(5,⟨.box 30,true,[.sl 49 gN []]⟩),(1,(bC ops ints strs rels))]⟩):=by
 simp only[f8,subR,Option.getD_some];simp only[go_sem,subR,Option.getD_some];try rfl
theorem ev15l (xs:List XStep) (r0 q0:Int) (A:Nat→Prop):arun (env 22 50303 D0 [(16,c33),(18,c34)] [] A) H0 5 (subR (f8.body.getD .skip) [1,1,1,1]) ⟨[(5,.ptr 5 (.box 30) [])],[(5,⟨.box 30,true,[.own 21 49 0 xs.length]⟩),(21,⟨.row 49,true,(xs.map eStep)⟩),(19,⟨.row 49,true,[.st 49 [.int .i64 r0,.int .i64 q0]]⟩),(6,⟨.box 49,true,[.st 49 [.int .i64 r0,.int .i64 q0]]⟩),(1,(bC ops ints strs rels))]⟩=some (.ret,⟨[(3,.int .i64 0),(2,.own 21 49 0 xs.length),(5,.ptr 5 (.box 30) [])],[(5,⟨.box 30,true,[.own 21 49 0 xs.length]⟩),(21,⟨.row 49,true,(xs.map eStep)⟩),(19,⟨.row 49,true,[.st 49 [.int .i64 r0,.int .i64 q0]]⟩),(6,⟨.box 49,true,[.st 49 [.int .i64 r0,.int .i64 q0]]⟩),(1,(bC ops ints strs rels))]⟩):=by
 simp only[f8,subR,Option.getD_some];simp only[go_sem,subR,Option.getD_some];try rfl
noncomputable abbrev E15 (A:Nat→Prop):Env:=env 22 50303 D0 [(16,c33),(18,c34)] [] A
noncomputable abbrev P15 (p:List Nat):Code:=subR (f8.body.getD .skip) p
def ob15 (code:AV) (k:Nat) (xs:List XStep) (s:XStep):List (Nat × Abs.Obj):=[(5,⟨.box 30,true,[.own k 49 0 xs.length]⟩),(k,⟨.row 49,true,xs.map eStep⟩),(19,⟨.row 49,true,[eStep s]⟩),(6,⟨.box 49,true,[eStep s]⟩),(1,⟨.box 27,false,[code]⟩)]
def ren15 (code:AV) (ob ob2:List (Nat × Abs.Obj)):Prop:=∃ xs s,ob=ob15 code 20 xs s∧ob2=ob15 code 21 xs s
theorem ren15_ok (E:Env) (w0:World) {ob ob2:List (Nat × Abs.Obj)} (h:ren15 ((cd ops ints strs rels)) ob ob2):RenOk E w0 [(5,.ptr 5 (.box 30) [])] ob ob2:=by
 obtain⟨xs,s,rfl,rfl⟩:=h;intro a w β hS;exact hS.boxmove (p:=5) (o:=20) (c:=21) (t:=49) (n:=xs.length) rfl rfl (by simp[St.free,St.free.freeT,St.free.freeO,ob15,ment,ment.mentL,eStep]) (by decide) (by decide) (by decide)
def stepOf (s:Int × Int × XCode):XStep:=⟨s.1,s.2.1⟩
theorem stepsQ_len (ap:Int→Option XCode) (r:Int):∀ (m:Nat) (q:Int),(stepsQ ap r m q).length≤m
 | 0,q=>by simp[stepsQ]
 | m+1,q=>by
   have:=stepsQ_len ap r m (q+1);simp only[stepsQ,List.length_append];split <;> simp <;> omega
theorem stepsR_len (ap:Int→Int→Option XCode) (pl:Int→Int) {M:Nat} (hM:∀ r,pl r≤M):∀ (m:Nat) (r:Int),(stepsR ap pl m r).length≤m * M
 | 0,r=>by simp[stepsR]
 | m+1,r=>by
   have h1:=stepsR_len ap pl hM m (r+1);have h2:=stepsQ_len (ap r) r (pl r).toNat 0;have h3:=hM r;simp only[stepsR,List.length_append,Nat.add_mul];omega
theorem rounds15 (ops:List XOp) (ints:List Int) (strs:List ByteArray) (rels:List XRel):∀ (l:List (Int × Int × XCode)) (xs:List XStep) (s:XStep),xs.length+l.length < 10000000→∃ s',
 Rounds (ren15 ((cd ops ints strs rels))) (fun c σ r=>∀ A lo L,arun { E15 A with okA:=A,lo:=lo,lent:=L } H0 5 c σ=some r) [15,16] (P15 [1,1,1,0,1,0,0]) (P15 [1,1,1,0,1,0,1]) [5] [(5,.ptr 5 (.box 30) [])] (l.map encS) (ob15 ((cd ops ints strs rels)) 21 xs s) .norm (ob15 ((cd ops ints strs rels)) 21 (xs++l.map stepOf) s')
 | [],xs,s,_=>⟨s,by simpa using Rounds.done _⟩
 | y::l,xs,s,hl=>by
   obtain⟨s',h⟩:=rounds15 ops ints strs rels l (xs++[stepOf y]) (stepOf y) (by simp at hl ⊢;omega);refine⟨s',.goes (σ2:=⟨[(6,.ptr 6 (.box 49) []),(15,.st 49 [.int .i64 y.1,.int .i64 y.2.1]),(5,.ptr 5 (.box 30) [])],(6,⟨.box 49,true,[.st 49 [.int .i64 y.1,.int .i64 y.2.1]]⟩)::(5,⟨.box 30,true,[.own 21 49 0 xs.length]⟩)::(21,⟨.row 49,true,xs.map eStep⟩)::(19,⟨.row 49,true,[eStep s]⟩)::(1,(bC ops ints strs rels))::[]⟩) (σ3:=⟨[(6,.ptr 6 (.box 49) []),(15,.st 49 [.int .i64 y.1,.int .i64 y.2.1]),(5,.ptr 5 (.box 30) [])],ob15 ((cd ops ints strs rels)) 20 (xs++[stepOf y]) (stepOf y)⟩) rfl (by simp[encS,eCode,oldV,oldV.oldL]) (fun A lo L=>?_) (fun A lo L=>?_) rfl ⟨_,_,rfl,rfl⟩ (by simpa using h)⟩
   ·exact ev15i ops ints strs rels xs s.rule s.at_ y.1 y.2.1 y.2.2 lo A L
   ·refine (ev15j ops ints strs rels xs s.rule s.at_ y.1 y.2.1 (by simp at hl;omega) lo A L).trans ?_;simp[ob15,stepOf,eStep]
theorem rounds15a (y:Int × Int × XCode) (l:List (Int × Int × XCode)) (hl:l.length < 2000000):∃ s',
 Rounds (ren15 ((cd ops ints strs rels))) (fun c σ r=>∀ A lo L,arun { E15 A with okA:=A,lo:=lo,lent:=L } H0 5 c σ=some r) [15,16] (P15 [1,1,1,0,1,0,0]) (P15 [1,1,1,0,1,0,1]) [5] [(5,.ptr 5 (.box 30) [])] ((y::l).map encS) [(5,⟨.box 30,true,[.sl 49 gN []]⟩),(1,(bC ops ints strs rels))] .norm (ob15 ((cd ops ints strs rels)) 21 ((y::l).map stepOf) s'):=by
 obtain⟨s',h⟩:=rounds15 ops ints strs rels l [stepOf y] (stepOf y) (by simp;omega);refine⟨s',.goes (σ2:=⟨[(6,.ptr 6 (.box 49) []),(15,.st 49 [.int .i64 y.1,.int .i64 y.2.1]),(5,.ptr 5 (.box 30) [])],(6,⟨.box 49,true,[.st 49 [.int .i64 y.1,.int .i64 y.2.1]]⟩)::[(5,⟨.box 30,true,[.sl 49 gN []]⟩),(1,(bC ops ints strs rels))]⟩) (σ3:=⟨[(6,.ptr 6 (.box 49) []),(15,.st 49 [.int .i64 y.1,.int .i64 y.2.1]),(5,.ptr 5 (.box 30) [])],ob15 ((cd ops ints strs rels)) 20 [stepOf y] (stepOf y)⟩) rfl (by simp[encS,eCode,oldV,oldV.oldL]) (fun A lo L=>?_) (fun A lo L=>?_) rfl ⟨_,_,rfl,rfl⟩ (by simpa using h)⟩
 ·exact ev15g ops ints strs rels y.1 y.2.1 y.2.2 lo A L
 ·exact (ev15h ops ints strs rels y.1 y.2.1 lo A L).trans (by simp[ob15,stepOf,eStep])
theorem does37 (before:List (List XFact)) (reached:List Bool) (alive:List Int) (ops:List XOp) (ints:List Int) (strs:List ByteArray) (rels:List XRel):RetF Tryd.prog ty G0 19 [wv ops ints strs rels before reached alive] 39 [.ro false 55 (wv ops ints strs rels before reached alive)]:=
 retF_of_does (Ef:=fun A=>env 4 7 D0 [] [] A) (cs:=[.ptr 1 (.box 55) []]) (fun _=>rfl) (fun _=>rfl) (fun _=>rfl) tabs h37 (fun _=>rfl) rfl (Nat.le_of_ble_eq_true rfl) (by simp[oldV,oldV.oldL]) (.inr rfl)
  (fun A w hG=>does_arun (H:=H0) (k:=5) (fun _ h=>h) tabs (csnd (C:=[]) (M:=[]) trivial trivial) hG (draws_of tabs (csnd (C:=[]) (M:=[]) trivial trivial) hm (fun _=>[]) _ (by kernel_rfl)) (ev37 ops ints strs rels before reached alive A))
  (fun A=>rfl) ⟨0,1,.box 55,[],rfl⟩ (fun A=>rfl) (by simp[leafV])
theorem body15:∃ id,f8.body=some (.seq (P15 [0]) (.seq (P15 [1,0]) (.seq (P15 [1,1,0]) (.seq (.seq (.region id ops15 false) (.block 0 (.rangeFunc (.tmp 14) #[15,16] (P15 [1,1,1,0,1,0,0]) (P15 [1,1,1,0,1,0,1])))) (P15 [1,1,1,1]))))):=⟨_,rfl⟩
theorem st15:(straight [5] (P15 [1,1,1,0,1,0,0])&&straight [5] (P15 [1,1,1,0,1,0,1]))=true:=by kernel_rfl
theorem ops15_q:ops15.size=2+1∧((ops15.toList.take 2).all fun o=>noDefer o.op&&(match o.dst with | some t=> !([]:List Nat).contains t | none=>true))=true:=⟨by kernel_rfl,by kernel_rfl⟩
theorem ops15_o:∃ o c,ops15[2]? = some o∧o.guard=none∧o.op = .call c∧o.dst=some 14∧(∃ g,c.callee = .value g∧∀ a:Act,a.eval g = .func (.func 19) #[] #[])∧c.args.toList=[.tmp 13]:=⟨_,_,rfl,rfl,rfl,rfl,⟨_,rfl,fun _=>rfl⟩,rfl⟩
theorem cs15 (A:Nat→Prop):CSound Tryd.prog (E15 A):=csnd (C:=[(16,c33),(18,c34)]) (M:=[]) ⟨snd33,snd34,trivial⟩ trivial
theorem dr15 (A:Nat→Prop):∀ c,certs (E15 A).Q (E15 A).D (fun _=>[]) c=true→Draws Tryd.prog (E15 A) c:=fun c h=>draws_of tabs (cs15 A) hm (fun _=>[]) c h
theorem dq15 (A:Nat→Prop):Draws Tryd.prog (E15 A) (P15 [0])∧Draws Tryd.prog (E15 A) (P15 [1,0])∧Draws Tryd.prog (E15 A) (P15 [1,1,0])∧Draws Tryd.prog (E15 A) (P15 [1,1,1,1]):=
 ⟨dr15 A _ (by kernel_rfl),dr15 A _ (by kernel_rfl),dr15 A _ (by kernel_rfl),dr15 A _ (by kernel_rfl)⟩
def stepsE (ops:List XOp) (ints:List Int) (strs:List ByteArray) (rels:List XRel):List XStep:=
 if checkF ops ints strs rels=true then (stepsW ops ints strs rels (workS ops ints rels).1 (workS ops ints rels).2 (workL ops)).map stepOf else []
theorem does15f (hp:XIn ops ints strs rels) (hc:checkF ops ints strs rels=false) (A:Nat→Prop) (w:World) (hG:GlobOk (E15 A) w) :
 ∃ c,f8.body=some c∧Does Tryd.prog (E15 A) w c ⟨argTms 0 [(cd ops ints strs rels)],[]⟩ .ret ⟨[(3,.int .i64 150),(2,.sl 0 gN []),(10,.bool true),(4,.int .i64 150),(1,.ptr 1 (.box 27) []),(0,(cd ops ints strs rels))],[(1,(bC ops ints strs rels))]⟩:=by
 obtain⟨id,hb⟩:=body15;obtain⟨d1,d2,d3,d4⟩:=dq15 A;exact⟨_,hb,does_seq (does_arun (fun _ h=>h) tabs (cs15 A) hG d1 (ev15a ops ints strs rels A)) (does_seq_x (does_arun (fun _ h=>h) tabs (cs15 A) hG d2 (ev15f ops ints strs rels hp hc A)) (by simp))⟩
theorem does15p (hp:XIn ops ints strs rels) (hc:checkF ops ints strs rels=true) (A:Nat→Prop) (w:World) (hG:GlobOk (E15 A) w) {ob σ'} (h1:(∃ s',ob=ob15 ((cd ops ints strs rels)) 21 ((stepsW ops ints strs rels (workS ops ints rels).1 (workS ops ints rels).2 (workL ops)).map stepOf) s')∨((stepsW ops ints strs rels (workS ops ints rels).1 (workS ops ints rels).2 (workL ops))=[]∧ob=[(5,⟨.box 30,true,[.sl 49 gN []]⟩),(1,(bC ops ints strs rels))]))
 (hr:Rounds (ren15 ((cd ops ints strs rels))) (fun c σ r=>∀ A lo L,arun { E15 A with okA:=A,lo:=lo,lent:=L } H0 5 c σ=some r) [15,16] (P15 [1,1,1,0,1,0,0]) (P15 [1,1,1,0,1,0,1]) [5] [(5,.ptr 5 (.box 30) [])] ((stepsW ops ints strs rels (workS ops ints rels).1 (workS ops ints rels).2 (workL ops)).map encS) [(5,⟨.box 30,true,[.sl 49 gN []]⟩),(1,(bC ops ints strs rels))] .norm ob)
 (h2:arun (E15 A) H0 5 (P15 [1,1,1,1]) ⟨[(5,.ptr 5 (.box 30) [])],ob⟩=some (.ret,σ')) :
 ∃ c,f8.body=some c∧Does Tryd.prog (E15 A) w c ⟨argTms 0 [(cd ops ints strs rels)],[]⟩ .ret σ':=by
 obtain⟨id,hb⟩:=body15;obtain⟨d1,d2,d3,d4⟩:=dq15 A;obtain⟨o,c,g1,g2,g3,g4,⟨g,g5,g6⟩,g7⟩:=ops15_o;have hs:=st15;simp only[Bool.and_eq_true] at hs;refine⟨_,hb,does_seq (does_arun (fun _ h=>h) tabs (cs15 A) hG d1 (ev15a ops ints strs rels A)) (does_seq (does_arun (fun _ h=>h) tabs (cs15 A) hG d2 (ev15b ops ints strs rels hp hc A)) (does_seq (does_arun (fun _ h=>h) tabs (cs15 A) hG d3 (ev15c ops ints strs rels A)) (does_seq (does_seq
  (does_callF (fun _=>rfl) tabs (cs15 A) hG ops15_q.1 ops15_q.2 (ev15d ops ints strs rels hp hc A) g1 g2 g3 g4 (Nat.le_of_ble_eq_true rfl) ⟨f19,h37,rfl,by decide⟩ g5 g6 (by rw[g7];rfl) (by simp[closed,noTup]) (does37 _ _ _ ops ints strs rels) (by simp[leafV]))
  (does_block_x 0 (does_range (tm:=[(5,.ptr 5 (.box 30) [])]) (fun _=>rfl) tabs (cs15 A) hG rfl (fun _ h=>h) rfl (iter72 ops ints strs rels _ _ _ (work_xa hp hc)) rfl (enters ⟨f39,h72,rfl,by decide⟩) (by kernel_rfl) (by kernel_rfl) (show ∀ p ∈ _,p < 22∧_ by simp) hs.1 hs.2 (fun _ _ h=>ren15_ok ops ints strs rels _ _ h) hr) (by simp)))
  (does_arun (fun _ h=>h) tabs (cs15 A) hG d4 h2))))⟩
theorem ret15 (hp:XIn ops ints strs rels):Ret Tryd.prog ty G0 8 [(cd ops ints strs rels)] (.tup [.sl 49 gT ((stepsE ops ints strs rels).map eStep),.int .i64 (errF (checkF ops ints strs rels))]):=by
 have wrap:∀ {r:AV} {σ':St},(∀ A,aresults (E15 A) σ' f8.results.toList=some [(aget 2 σ'.tm).getD .undef,(aget 3 σ'.tm).getD .undef])→(∀ A w,GlobOk (E15 A) w→∃ c,f8.body=some c∧Does Tryd.prog (E15 A) w c ⟨argTms 0 [(cd ops ints strs rels)],[]⟩ .ret σ')→
  (∀ A:Nat→Prop,(obind (hand.handL ty σ'.ob 30 [(aget 2 σ'.tm).getD .undef,(aget 3 σ'.tm).getD .undef]) fun vs=>some (one vs))=some r)→Ret Tryd.prog ty G0 8 [(cd ops ints strs rels)] r:=fun h1 h2 h3=>by
  obtain⟨id,hb⟩:=body15;exact ret_of_does (Ef:=E15) (e:= .ret) (fun _=>rfl) (fun _=>rfl) (fun _=>rfl) tabs h15 (fun _=>rfl) hb (Nat.le_of_ble_eq_true rfl) (by simp[oldV,oldV.oldL]) (.inr rfl) (fun A w hG=>by
   obtain⟨c,e,h⟩:=h2 A w hG;rw[hb] at e;injection e with e;subst e;exact h) (fun A=>by rw[h1 A];exact h3 A)
 cases hc:checkF ops ints strs rels with
 | false=>
   refine Ret.weak (wrap (r:= .tup [.sl 0 gN [],.int .i64 150]) (fun _=>rfl) (fun A w hG=>does15f ops ints strs rels hp hc A w hG) (fun _=>rfl)) ?_;simp[stepsE,hc,one,wk_tup,wkL_cons,wkL_nil,wk_sl,wk_int,errF]
 | true=>
   have hlen:=stepsR_len (applyF ops ints strs rels (workS ops ints rels).1 (workS ops ints rels).2 (workL ops)) (placesF ops ints strs) (M:=200000) (fun r=>by
    obtain⟨l1,l2,l3,l4⟩:=hp.lim;unfold placesF;split <;> omega) 8 1
   cases hl:stepsW ops ints strs rels (workS ops ints rels).1 (workS ops ints rels).2 (workL ops) with
   | nil=>
     refine Ret.weak (wrap (r:= .tup [.sl 49 gN [],.int .i64 0]) (fun _=>rfl) (fun A w hG=>does15p ops ints strs rels hp hc A w hG (.inr ⟨hl,rfl⟩) (by rw[hl];exact .done _) (ev15k ops ints strs rels A)) (fun _=>rfl)) ?_;simp[stepsE,hc,hl,one,wk_tup,wkL_cons,wkL_nil,wk_sl,wk_int,errF]
   | cons y l=>
     have hn:l.length < 2000000:=by
      have:(stepsW ops ints strs rels (workS ops ints rels).1 (workS ops ints rels).2 (workL ops)).length≤8 * 200000:=hlen;rw[hl] at this;simp at this;omega
     obtain⟨s',hr⟩:=rounds15a ops ints strs rels y l hn;refine Ret.weak (wrap (r:= .tup [.sl 49 gT (((y::l).map stepOf).map eStep),.int .i64 0]) (fun _=>rfl) (fun A w hG=>does15p ops ints strs rels hp hc A w hG (.inl ⟨s',by rw[hl];rfl⟩) (by rw[hl];exact hr) (ev15l ops ints strs rels ((y::l).map stepOf) s'.rule s'.at_ A)) (fun _=>?_)) ?_
     ·simp[hand.handL,hand,aget,obind,one]
     ·simp[stepsE,hc,hl,one,wk_tup,wkL_cons,wkL_nil,wk_sl,wk_int,errF]
noncomputable def c15:=famP (α:=(List XOp) × (List Int) × (List ByteArray) × (List XRel)) (fun (ops,ints,strs,rels)=>XIn ops ints strs rels) (fun (ops,ints,strs,rels)=>[(cd ops ints strs rels)]) (fun (ops,ints,strs,rels)=> .tup [.sl 49 gT ((stepsE ops ints strs rels).map eStep),.int .i64 (errF (checkF ops ints strs rels))])
theorem c15_eq (hp:XIn ops ints strs rels):c15 [(cd ops ints strs rels)]=some (.tup [.sl 49 gT ((stepsE ops ints strs rels).map eStep),.int .i64 (errF (checkF ops ints strs rels))]):=fam_eq (fun X Y hp hp' h'=>by
 obtain⟨ops,ints,strs,rels⟩:=X;obtain⟨ops',ints',strs',rels'⟩:=Y;simp only[INJ] at h';obtain⟨rfl,rfl,rfl,rfl⟩:=h';rfl) (ops,ints,strs,rels) hp
theorem snd15:Snd 8 c15:=fam_snd h15 rfl rfl fun (ops,ints,strs,rels) hp=>ret15 ops ints strs rels hp
theorem envZ_ty (Z:Nat→List Nat) (W:FuncId→Bool) (n K:Nat) (D:Nat→Option (List DH × List Nat)) (C:CK) (M:MK) (lo:Option Nat) (A L:Nat→Prop):(envZ Z W n K D C M lo A L).ty=ty:=rfl
theorem envZ_G (Z:Nat→List Nat) (W:FuncId→Bool) (n K:Nat) (D:Nat→Option (List DH × List Nat)) (C:CK) (M:MK) (lo:Option Nat) (A L:Nat→Prop):(envZ Z W n K D C M lo A L).G=G0:=rfl
theorem envZ_n (Z:Nat→List Nat) (W:FuncId→Bool) (n K:Nat) (D:Nat→Option (List DH × List Nat)) (C:CK) (M:MK) (lo:Option Nat) (A L:Nat→Prop):(envZ Z W n K D C M lo A L).n=n:=rfl
theorem envZ_K (Z:Nat→List Nat) (W:FuncId→Bool) (n K:Nat) (D:Nat→Option (List DH × List Nat)) (C:CK) (M:MK) (lo:Option Nat) (A L:Nat→Prop):(envZ Z W n K D C M lo A L).K=K:=rfl
theorem envZ_C (Z:Nat→List Nat) (W:FuncId→Bool) (n K:Nat) (D:Nat→Option (List DH × List Nat)) (C:CK) (M:MK) (lo:Option Nat) (A L:Nat→Prop):(envZ Z W n K D C M lo A L).C=(cOf C):=rfl
theorem envZ_D (Z:Nat→List Nat) (W:FuncId→Bool) (n K:Nat) (D:Nat→Option (List DH × List Nat)) (C:CK) (M:MK) (lo:Option Nat) (A L:Nat→Prop):(envZ Z W n K D C M lo A L).D=D:=rfl
theorem envZ_W (Z:Nat→List Nat) (W:FuncId→Bool) (n K:Nat) (D:Nat→Option (List DH × List Nat)) (C:CK) (M:MK) (lo:Option Nat) (A L:Nat→Prop):(envZ Z W n K D C M lo A L).W=W:=rfl
theorem envZ_M (Z:Nat→List Nat) (W:FuncId→Bool) (n K:Nat) (D:Nat→Option (List DH × List Nat)) (C:CK) (M:MK) (lo:Option Nat) (A L:Nat→Prop):(envZ Z W n K D C M lo A L).M=(mOf M):=rfl
theorem envZ_Q (Z:Nat→List Nat) (W:FuncId→Bool) (n K:Nat) (D:Nat→Option (List DH × List Nat)) (C:CK) (M:MK) (lo:Option Nat) (A L:Nat→Prop):(envZ Z W n K D C M lo A L).Q=freshF:=rfl
theorem envZ_Z (Z:Nat→List Nat) (W:FuncId→Bool) (n K:Nat) (D:Nat→Option (List DH × List Nat)) (C:CK) (M:MK) (lo:Option Nat) (A L:Nat→Prop):(envZ Z W n K D C M lo A L).Z=Z:=rfl
theorem h22:Tryd.prog.funcs[7]? = some f7:=by kernel_rfl
def D22:Nat→Option (List DH × List Nat):=fun i=>match i with | 11=>some ([⟨[],[],[]⟩,⟨[2],[],[]⟩,⟨[],[2],[]⟩,⟨[],[],[]⟩,⟨[],[],[]⟩],[]) | _=>none
theorem D22_11:D22 11=some ([⟨[],[],[]⟩,⟨[2],[],[]⟩,⟨[],[2],[]⟩,⟨[],[],[]⟩,⟨[],[],[]⟩],[]):=rfl
theorem ev22a (c:XCode) (A:Nat→Prop):arun (envX Z0 (fun _=>false) 29 3674623 D22 [(16,c33),(18,c34),(17,c46c)] [] A) H0 5 (subR (f7.body.getD .skip) [0]) ⟨[(0,(cd c.ops c.ints c.strs c.rels))],[]⟩=some (.norm,⟨[(4,.int .i64 0),(3,.sl 0 gN []),(2,.ptr 2 (.box 27) []),(1,.ptr 1 (.box 27) []),(0,(cd c.ops c.ints c.strs c.rels))],[(2,⟨.box 27,true,[n4]⟩),(1,(bC c.ops c.ints c.strs c.rels))]⟩):=by
 simp only[f7,subR,Option.getD_some];simp only[go_sem,subR,Option.getD_some,D22_11];try rfl
theorem ev22f (c:XCode) (hp:XIn c.ops c.ints c.strs c.rels) (hc:checkF c.ops c.ints c.strs c.rels=false) (A:Nat→Prop):arun (envX Z0 (fun _=>false) 29 3674623 D22 [(16,c33),(18,c34),(17,c46c)] [] A) H0 5 (subR (f7.body.getD .skip) [1,0,0]) ⟨[(4,.int .i64 0),(3,.sl 0 gN []),(2,.ptr 2 (.box 27) []),(1,.ptr 1 (.box 27) []),(0,(cd c.ops c.ints c.strs c.rels))],[(2,⟨.box 27,true,[n4]⟩),(1,(bC c.ops c.ints c.strs c.rels))]⟩=some (.ret,⟨[(4,.int .i64 150),(3,.sl 0 gN []),(12,.bool true),(5,.int .i64 150),(2,.ptr 2 (.box 27) []),(1,.ptr 1 (.box 27) []),(0,(cd c.ops c.ints c.strs c.rels))],[(2,⟨.box 27,true,[n4]⟩),(1,(bC c.ops c.ints c.strs c.rels))]⟩):=by
 simp only[f7,subR,Option.getD_some];have e33:=c33_eq c.ops c.ints c.strs c.rels ⟨hp.lim,hp.str⟩;rw[hc] at e33;simp only[errF,BL] at e33;simp only[go_sem,subR,Option.getD_some,D22_11,e33];try rfl
theorem ev22b (c:XCode) (hp:XIn c.ops c.ints c.strs c.rels) (hc:checkF c.ops c.ints c.strs c.rels=true) (A:Nat→Prop):arun (envX Z0 (fun _=>false) 29 3674623 D22 [(16,c33),(18,c34),(17,c46c)] [] A) H0 5 (subR (f7.body.getD .skip) [1,0,0]) ⟨[(4,.int .i64 0),(3,.sl 0 gN []),(2,.ptr 2 (.box 27) []),(1,.ptr 1 (.box 27) []),(0,(cd c.ops c.ints c.strs c.rels))],[(2,⟨.box 27,true,[n4]⟩),(1,(bC c.ops c.ints c.strs c.rels))]⟩=some (.norm,⟨[(12,.bool false),(5,.int .i64 0),(4,.int .i64 0),(3,.sl 0 gN []),(2,.ptr 2 (.box 27) []),(1,.ptr 1 (.box 27) []),(0,(cd c.ops c.ints c.strs c.rels))],[(2,⟨.box 27,true,[n4]⟩),(1,(bC c.ops c.ints c.strs c.rels))]⟩):=by
 simp only[f7,subR,Option.getD_some];have e33:=c33_eq c.ops c.ints c.strs c.rels ⟨hp.lim,hp.str⟩;rw[hc] at e33;simp only[errF,BL] at e33;simp only[go_sem,subR,Option.getD_some,D22_11,e33];try rfl
theorem ev22c (c:XCode) (A:Nat→Prop):arun (envX Z0 (fun _=>false) 29 3674623 D22 [(16,c33),(18,c34),(17,c46c)] [] A) H0 5 (subR (f7.body.getD .skip) [1,0,1,0]) ⟨[(12,.bool false),(5,.int .i64 0),(4,.int .i64 0),(3,.sl 0 gN []),(2,.ptr 2 (.box 27) []),(1,.ptr 1 (.box 27) []),(0,(cd c.ops c.ints c.strs c.rels))],[(2,⟨.box 27,true,[n4]⟩),(1,(bC c.ops c.ints c.strs c.rels))]⟩=some (.norm,⟨[(6,.ptr 6 (.box 30) []),(12,.bool false),(5,.int .i64 0),(4,.int .i64 0),(3,.sl 0 gN []),(2,.ptr 2 (.box 27) []),(1,.ptr 1 (.box 27) []),(0,(cd c.ops c.ints c.strs c.rels))],[(6,⟨.box 30,true,[.sl 49 gN []]⟩),(2,⟨.box 27,true,[n4]⟩),(1,(bC c.ops c.ints c.strs c.rels))]⟩):=by
 simp only[f7,subR,Option.getD_some];simp only[go_sem,subR,Option.getD_some,D22_11];try rfl
theorem ev22d (c:XCode) (hp:XIn c.ops c.ints c.strs c.rels) (A:Nat→Prop):arun (envX Z0 (fun _=>false) 29 3674623 D22 [(16,c33),(18,c34),(17,c46c)] [] A) H0 5 (subR (f7.body.getD .skip) [1,0,1,1,0]) ⟨[(6,.ptr 6 (.box 30) []),(12,.bool false),(5,.int .i64 0),(4,.int .i64 0),(3,.sl 0 gN []),(2,.ptr 2 (.box 27) []),(1,.ptr 1 (.box 27) []),(0,(cd c.ops c.ints c.strs c.rels))],[(6,⟨.box 30,true,[.sl 49 gN []]⟩),(2,⟨.box 27,true,[n4]⟩),(1,(bC c.ops c.ints c.strs c.rels))]⟩=some (.norm,⟨[(6,.ptr 6 (.box 30) []),(12,.bool false),(5,.int .i64 0),(4,.int .i64 0),(3,.sl 0 gN []),(2,.ptr 2 (.box 27) []),(1,.ptr 1 (.box 27) []),(0,(cd c.ops c.ints c.strs c.rels))],[(1,(bC c.ops c.ints c.strs c.rels)),(6,⟨.box 30,true,[.sl 49 gN []]⟩),(2,⟨.box 27,true,[n4]⟩)]⟩):=by
 simp only[f7,subR,Option.getD_some];have e46:=c46c_eq c.ops c.ints c.strs c.rels hp.lim;simp only[go_sem,subR,Option.getD_some,D22_11,e46];try rfl
noncomputable def ops22:Array Oper:=match subR (f7.body.getD .skip) [1,0,1,1,1,1,0,0,0,0,0,0] with | .region _ ops _=>ops | _=>#[]
theorem ev22g (c:XCode) (hp:XIn c.ops c.ints c.strs c.rels) (hc:checkF c.ops c.ints c.strs c.rels=true)  (A:Nat→Prop):aopsM (envX Z0 (fun _=>false) 29 3674623 D22 [(16,c33),(18,c34),(17,c46c)] [] A) ops22.toList (ops22.toList.take 2) ⟨[(1,.ptr 1 (.box 27) []),(2,.ptr 2 (.box 27) []),(6,.ptr 6 (.box 30) [])],[(6,⟨.box 30,true,[.sl 49 gN []]⟩),(1,(bC c.ops c.ints c.strs c.rels)),(2,⟨.box 27,true,[n4]⟩)]⟩=some ⟨[(18,.ro false 74 (.st 74 [(cd c.ops c.ints c.strs c.rels),.sl 78 gT ((workS c.ops c.ints c.rels).1.map eFacts),.sl 4 gT ((workS c.ops c.ints c.rels).2.map eB),.sl 82 gT ((workL c.ops).map eU)])),(17,(cd c.ops c.ints c.strs c.rels)),(1,.ptr 1 (.box 27) []),(2,.ptr 2 (.box 27) []),(6,.ptr 6 (.box 30) [])],[(6,⟨.box 30,true,[.sl 49 gN []]⟩),(1,(bC c.ops c.ints c.strs c.rels)),(2,⟨.box 27,true,[n4]⟩)]⟩:=by
 have e34:=c34_eq c.ops c.ints c.strs c.rels ⟨⟨hp.lim,hp.str⟩,hc⟩;simp only[ops22,f7,subR,Option.getD_some,List.take_succ_cons,List.take_zero];simp only[go_sem,subR,Option.getD_some,D22_11,e34];try rfl
theorem ev22h (c:XCode) (hp:XIn c.ops c.ints c.strs c.rels) (hc:checkF c.ops c.ints c.strs c.rels=true) (xs:List XStep) (A:Nat→Prop):aopsM (envX Z0 (fun _=>false) 29 3674623 D22 [(16,c33),(18,c34),(17,c46c)] [] A) ops22.toList (ops22.toList.take 2) ⟨[(1,.ptr 1 (.box 27) []),(2,.ptr 2 (.box 27) []),(6,.ptr 6 (.box 30) [])],[(6,⟨.box 30,true,[.own 27 49 0 xs.length]⟩),(27,⟨.row 49,true,xs.map eStep⟩),(1,(bC c.ops c.ints c.strs c.rels)),(2,⟨.box 27,true,[n4]⟩)]⟩=some ⟨[(18,.ro false 74 (.st 74 [(cd c.ops c.ints c.strs c.rels),.sl 78 gT ((workS c.ops c.ints c.rels).1.map eFacts),.sl 4 gT ((workS c.ops c.ints c.rels).2.map eB),.sl 82 gT ((workL c.ops).map eU)])),(17,(cd c.ops c.ints c.strs c.rels)),(1,.ptr 1 (.box 27) []),(2,.ptr 2 (.box 27) []),(6,.ptr 6 (.box 30) [])],[(6,⟨.box 30,true,[.own 27 49 0 xs.length]⟩),(27,⟨.row 49,true,xs.map eStep⟩),(1,(bC c.ops c.ints c.strs c.rels)),(2,⟨.box 27,true,[n4]⟩)]⟩:=by
 have e34:=c34_eq c.ops c.ints c.strs c.rels ⟨⟨hp.lim,hp.str⟩,hc⟩;simp only[ops22,f7,subR,Option.getD_some,List.take_succ_cons,List.take_zero];simp only[go_sem,subR,Option.getD_some,D22_11,e34];try rfl
theorem ev22i (c d:XCode) (r q:Int) (lo:Option Nat) (A L:Nat→Prop):arun (envZ Z0 (fun _=>false) 29 3674623 D22 [(16,c33),(18,c34),(17,c46c)] [] lo A L) H0 5 (subR (f7.body.getD .skip) [1,0,1,1,1,1,0,0,0,0,0,1,0,0]) ⟨[(21,(cd d.ops d.ints d.strs d.rels)),(20,.st 49 [.int .i64 r,.int .i64 q]),(1,.ptr 1 (.box 27) []),(2,.ptr 2 (.box 27) []),(6,.ptr 6 (.box 30) [])],[(6,⟨.box 30,true,[.sl 49 gN []]⟩),(1,(bC c.ops c.ints c.strs c.rels)),(2,⟨.box 27,true,[n4]⟩)]⟩=some (.norm,⟨[(8,.ptr 8 (.box 27) []),(7,.ptr 7 (.box 49) []),(21,(cd d.ops d.ints d.strs d.rels)),(20,.st 49 [.int .i64 r,.int .i64 q]),(1,.ptr 1 (.box 27) []),(2,.ptr 2 (.box 27) []),(6,.ptr 6 (.box 30) [])],[(8,(bC d.ops d.ints d.strs d.rels)),(7,⟨.box 49,true,[.st 49 [.int .i64 r,.int .i64 q]]⟩),(6,⟨.box 30,true,[.sl 49 gN []]⟩),(1,(bC c.ops c.ints c.strs c.rels)),(2,⟨.box 27,true,[n4]⟩)]⟩):=by
 simp only[f7,subR,Option.getD_some];simp only[go_sem,subR,Option.getD_some,D22_11,envZ_ty,envZ_G,envZ_n,envZ_K,envZ_C,envZ_D,envZ_W,envZ_M,envZ_Q,envZ_Z];try rfl
theorem ev22j (c d:XCode) (r q:Int) (xs:List XStep) (lo:Option Nat) (A L:Nat→Prop):arun (envZ Z0 (fun _=>false) 29 3674623 D22 [(16,c33),(18,c34),(17,c46c)] [] lo A L) H0 5 (subR (f7.body.getD .skip) [1,0,1,1,1,1,0,0,0,0,0,1,0,0]) ⟨[(21,(cd d.ops d.ints d.strs d.rels)),(20,.st 49 [.int .i64 r,.int .i64 q]),(1,.ptr 1 (.box 27) []),(2,.ptr 2 (.box 27) []),(6,.ptr 6 (.box 30) [])],[(6,⟨.box 30,true,[.own 27 49 0 xs.length]⟩),(27,⟨.row 49,true,xs.map eStep⟩),(1,(bC c.ops c.ints c.strs c.rels)),(2,⟨.box 27,true,[n4]⟩)]⟩=some (.norm,⟨[(8,.ptr 8 (.box 27) []),(7,.ptr 7 (.box 49) []),(21,(cd d.ops d.ints d.strs d.rels)),(20,.st 49 [.int .i64 r,.int .i64 q]),(1,.ptr 1 (.box 27) []),(2,.ptr 2 (.box 27) []),(6,.ptr 6 (.box 30) [])],[(8,(bC d.ops d.ints d.strs d.rels)),(7,⟨.box 49,true,[.st 49 [.int .i64 r,.int .i64 q]]⟩),(6,⟨.box 30,true,[.own 27 49 0 xs.length]⟩),(27,⟨.row 49,true,xs.map eStep⟩),(1,(bC c.ops c.ints c.strs c.rels)),(2,⟨.box 27,true,[n4]⟩)]⟩):=by
 simp only[f7,subR,Option.getD_some];simp only[go_sem,subR,Option.getD_some,D22_11,envZ_ty,envZ_G,envZ_n,envZ_K,envZ_C,envZ_D,envZ_W,envZ_M,envZ_Q,envZ_Z];try rfl
theorem ev22k (c d:XCode) (r q:Int) (lo:Option Nat) (A L:Nat→Prop):arun (envZ Z0 (fun _=>false) 29 3674623 D22 [(16,c33),(18,c34),(17,c46c)] [] lo A L) H0 5 (subR (f7.body.getD .skip) [1,0,1,1,1,1,0,0,0,0,0,1,0,1]) ⟨[(8,.ptr 8 (.box 27) []),(7,.ptr 7 (.box 49) []),(21,(cd d.ops d.ints d.strs d.rels)),(20,.st 49 [.int .i64 r,.int .i64 q]),(1,.ptr 1 (.box 27) []),(2,.ptr 2 (.box 27) []),(6,.ptr 6 (.box 30) [])],[(8,(bC d.ops d.ints d.strs d.rels)),(7,⟨.box 49,true,[.st 49 [.int .i64 r,.int .i64 q]]⟩),(6,⟨.box 30,true,[.sl 49 gN []]⟩),(1,(bC c.ops c.ints c.strs c.rels)),(2,⟨.box 27,true,[n4]⟩)]⟩=some (.exit 1,⟨[(8,.ptr 8 (.box 27) []),(7,.ptr 7 (.box 49) []),(21,(cd d.ops d.ints d.strs d.rels)),(20,.st 49 [.int .i64 r,.int .i64 q]),(1,.ptr 1 (.box 27) []),(2,.ptr 2 (.box 27) []),(6,.ptr 6 (.box 30) [])],[(6,⟨.box 30,true,[.own 26 49 0 1]⟩),(26,⟨.row 49,true,[.st 49 [.int .i64 r,.int .i64 q]]⟩),(25,⟨.row 49,true,[.st 49 [.int .i64 r,.int .i64 q]]⟩),(1,(bC d.ops d.ints d.strs d.rels)),(8,(bC d.ops d.ints d.strs d.rels)),(7,⟨.box 49,true,[.st 49 [.int .i64 r,.int .i64 q]]⟩),(2,⟨.box 27,true,[n4]⟩)]⟩):=by
 simp only[f7,subR,Option.getD_some];simp only[go_sem,subR,Option.getD_some,D22_11,envZ_ty,envZ_G,envZ_n,envZ_K,envZ_C,envZ_D,envZ_W,envZ_M,envZ_Q,envZ_Z];try rfl
theorem ev22l (c d:XCode) (r q:Int) (xs:List XStep) (hx:xs.length < 10000000) (lo:Option Nat) (A L:Nat→Prop):arun (envZ Z0 (fun _=>false) 29 3674623 D22 [(16,c33),(18,c34),(17,c46c)] [] lo A L) H0 5 (subR (f7.body.getD .skip) [1,0,1,1,1,1,0,0,0,0,0,1,0,1]) ⟨[(8,.ptr 8 (.box 27) []),(7,.ptr 7 (.box 49) []),(21,(cd d.ops d.ints d.strs d.rels)),(20,.st 49 [.int .i64 r,.int .i64 q]),(1,.ptr 1 (.box 27) []),(2,.ptr 2 (.box 27) []),(6,.ptr 6 (.box 30) [])],[(8,(bC d.ops d.ints d.strs d.rels)),(7,⟨.box 49,true,[.st 49 [.int .i64 r,.int .i64 q]]⟩),(6,⟨.box 30,true,[.own 27 49 0 xs.length]⟩),(27,⟨.row 49,true,xs.map eStep⟩),(1,(bC c.ops c.ints c.strs c.rels)),(2,⟨.box 27,true,[n4]⟩)]⟩=some (.exit 1,⟨[(8,.ptr 8 (.box 27) []),(7,.ptr 7 (.box 49) []),(21,(cd d.ops d.ints d.strs d.rels)),(20,.st 49 [.int .i64 r,.int .i64 q]),(1,.ptr 1 (.box 27) []),(2,.ptr 2 (.box 27) []),(6,.ptr 6 (.box 30) [])],[(6,⟨.box 30,true,[.own 26 49 0 (xs.length+1)]⟩),(26,⟨.row 49,true,(xs.map eStep++[.st 49 [.int .i64 r,.int .i64 q]])⟩),(25,⟨.row 49,true,[.st 49 [.int .i64 r,.int .i64 q]]⟩),(1,(bC d.ops d.ints d.strs d.rels)),(8,(bC d.ops d.ints d.strs d.rels)),(7,⟨.box 49,true,[.st 49 [.int .i64 r,.int .i64 q]]⟩),(2,⟨.box 27,true,[n4]⟩)]⟩):=by
 simp only[f7,subR,Option.getD_some];have hroom:((xs.length+1) * 16≤140737488355328)=True:=by simp;omega
 have hlen:(xs.length≤140737488355327)=True:=by simp;omega
 simp only[go_sem,subR,Option.getD_some,D22_11,envZ_ty,envZ_G,envZ_n,envZ_K,envZ_C,envZ_D,envZ_W,envZ_M,envZ_Q,envZ_Z,hroom,hlen];try rfl
theorem ev22y (c:XCode) (A:Nat→Prop):arun (envX Z0 (fun _=>false) 29 3674623 D22 [(16,c33),(18,c34),(17,c46c)] [] A) H0 5 (subR (f7.body.getD .skip) [1,0,1,1,1,1,1]) ⟨[(1,.ptr 1 (.box 27) []),(2,.ptr 2 (.box 27) []),(6,.ptr 6 (.box 30) [])],[(6,⟨.box 30,true,[.sl 49 gN []]⟩),(1,(bC c.ops c.ints c.strs c.rels)),(2,⟨.box 27,true,[n4]⟩)]⟩=some (.ret,⟨[(4,.int .i64 0),(3,.sl 49 gN []),(1,.ptr 1 (.box 27) []),(2,.ptr 2 (.box 27) []),(6,.ptr 6 (.box 30) [])],[(2,(bC c.ops c.ints c.strs c.rels)),(6,⟨.box 30,true,[.sl 49 gN []]⟩),(1,(bC c.ops c.ints c.strs c.rels))]⟩):=by
 simp only[f7,subR,Option.getD_some];simp only[go_sem,subR,Option.getD_some,D22_11];try rfl
theorem ev22z (c:XCode) (xs:List XStep) (A:Nat→Prop):arun (envX Z0 (fun _=>false) 29 3674623 D22 [(16,c33),(18,c34),(17,c46c)] [] A) H0 5 (subR (f7.body.getD .skip) [1,0,1,1,1,1,1]) ⟨[(1,.ptr 1 (.box 27) []),(2,.ptr 2 (.box 27) []),(6,.ptr 6 (.box 30) [])],[(6,⟨.box 30,true,[.own 27 49 0 xs.length]⟩),(27,⟨.row 49,true,xs.map eStep⟩),(1,(bC c.ops c.ints c.strs c.rels)),(2,⟨.box 27,true,[n4]⟩)]⟩=some (.ret,⟨[(4,.int .i64 0),(3,.own 27 49 0 xs.length),(1,.ptr 1 (.box 27) []),(2,.ptr 2 (.box 27) []),(6,.ptr 6 (.box 30) [])],[(2,(bC c.ops c.ints c.strs c.rels)),(6,⟨.box 30,true,[.own 27 49 0 xs.length]⟩),(27,⟨.row 49,true,xs.map eStep⟩),(1,(bC c.ops c.ints c.strs c.rels))]⟩):=by
 simp only[f7,subR,Option.getD_some];simp only[go_sem,subR,Option.getD_some,D22_11];try rfl
noncomputable abbrev E22 (A:Nat→Prop):Env:=envX Z0 (fun _=>false) 29 3674623 D22 [(16,c33),(18,c34),(17,c46c)] [] A
noncomputable abbrev P22 (p:List Nat):Code:=subR (f7.body.getD .skip) p
def obA (c:XCode):List (Nat × Abs.Obj):=[(6,⟨.box 30,true,[.sl 49 gN []]⟩),(1,(bC c.ops c.ints c.strs c.rels)),(2,⟨.box 27,true,[n4]⟩)]
def obX (c:XCode) (xs:List XStep):List (Nat × Abs.Obj):=if xs=[] then obA c else [(6,⟨.box 30,true,[.own 27 49 0 xs.length]⟩),(27,⟨.row 49,true,xs.map eStep⟩),(1,(bC c.ops c.ints c.strs c.rels)),(2,⟨.box 27,true,[n4]⟩)]
def ob26 (d:XCode) (xs:List XStep) (s:XStep):List (Nat × Abs.Obj):=[(6,⟨.box 30,true,[.own 26 49 0 xs.length]⟩),(26,⟨.row 49,true,(xs.map eStep)⟩),(25,⟨.row 49,true,[eStep s]⟩),(1,(bC d.ops d.ints d.strs d.rels)),(8,(bC d.ops d.ints d.strs d.rels)),(7,⟨.box 49,true,[eStep s]⟩),(2,⟨.box 27,true,[n4]⟩)]
theorem ren22 (d:XCode) (xs:List XStep) (s:XStep) (hx:xs ≠ []) (E:Env) (w0:World) {P:Program} {c:Code} {σ:St} {e:AX} (h:Does P E w0 c σ e ⟨[(1,.ptr 1 (.box 27) []),(2,.ptr 2 (.box 27) []),(6,.ptr 6 (.box 30) [])],ob26 d xs s⟩):Does P E w0 c σ e ⟨[(1,.ptr 1 (.box 27) []),(2,.ptr 2 (.box 27) []),(6,.ptr 6 (.box 30) [])],obX d xs⟩:=by
 refine (h.ren (ob2:=aput 6 ⟨.box 30,true,[.own 27 49 0 xs.length]⟩ (aput 27 ⟨.row 49,true,xs.map eStep⟩ (adel 26 (ob26 d xs s)))) fun a w β hS=>hS.boxmove (p:=6) (o:=26) (c:=27) (t:=49) (n:=xs.length) rfl rfl (by simp[St.free,St.free.freeT,St.free.freeO,ob26,ment,ment.mentL,eStep]) (by decide) (by decide) (by decide)).less (fun _ _ h=>h) fun o b hb=>?_
 unfold obX at hb;rw[if_neg hx] at hb;rw[aget_aput,aget_aput,aget_adel];by_cases h6:6=o
 ·subst h6;simpa[aget] using hb
 by_cases h27:27=o
 ·subst h27;simpa[aget] using hb
 by_cases h1:1=o
 ·subst h1;simpa[aget,ob26] using hb
 by_cases h2:2=o
 ·subst h2;simpa[aget,ob26] using hb
 ·simp[aget,h6,h27,h1,h2] at hb
theorem st22:(straight [1,2,6] (P22 [1,0,1,1,1,1,0,0,0,0,0,1,0,0])&&straight [1,2,6] (P22 [1,0,1,1,1,1,0,0,0,0,0,1,0,1]))=true:=by kernel_rfl
theorem ops22_q:ops22.size=2+1∧((ops22.toList.take 2).all fun o=>noDefer o.op&&(match o.dst with | some t=> !([]:List Nat).contains t | none=>true))=true:=⟨by kernel_rfl,by kernel_rfl⟩
theorem ops22_o:∃ o c,ops22[2]? = some o∧o.guard=none∧o.op = .call c∧o.dst=some 19∧(∃ g,c.callee = .value g∧∀ a:Act,a.eval g = .func (.func 19) #[] #[])∧c.args.toList=[.tmp 18]:=⟨_,_,rfl,rfl,rfl,rfl,⟨_,rfl,fun _=>rfl⟩,rfl⟩
theorem cs22 (A:Nat→Prop):CSound Tryd.prog (E22 A):=csndX (C:=[(16,c33),(18,c34),(17,c46c)]) (M:=[]) ⟨snd33,snd34,snd46c,trivial⟩ trivial
theorem dr22 (A:Nat→Prop):∀ c,certs (E22 A).Q (E22 A).D (fun i=>match i with | 11=>[0,0,1,7,15] | _=>[]) c=true→Draws Tryd.prog (E22 A) c:=fun c h=>draws_of tabs (cs22 A) hm (fun i=>match i with | 11=>[0,0,1,7,15] | _=>[]) c h
theorem dq22 (A:Nat→Prop):Draws Tryd.prog (E22 A) (P22 [0])∧Draws Tryd.prog (E22 A) (P22 [1,0,0])∧Draws Tryd.prog (E22 A) (P22 [1,0,1,0])∧Draws Tryd.prog (E22 A) (P22 [1,0,1,1,0])∧Draws Tryd.prog (E22 A) (P22 [1,0,1,1,1,1,1]):=
 ⟨dr22 A _ (by kernel_rfl),dr22 A _ (by kernel_rfl),dr22 A _ (by kernel_rfl),dr22 A _ (by kernel_rfl),dr22 A _ (by kernel_rfl)⟩
theorem body22:∃ id,f7.body=some (.seq (P22 [0]) (.scope (.seq (P22 [1,0,0]) (.seq (P22 [1,0,1,0]) (.seq (P22 [1,0,1,1,0]) (.seq (.label 0) (.seq (.block 0 (.loop (.block 1 (.seq (.seq (.region id ops22 false) (.block 2 (.rangeFunc (.tmp 19) #[20,21] (P22 [1,0,1,1,1,1,0,0,0,0,0,1,0,0]) (P22 [1,0,1,1,1,1,0,0,0,0,0,1,0,1])))) (.exit 0))))) (P22 [1,0,1,1,1,1,1])))))))):=⟨_,rfl⟩
def stepsC (c:XCode):List (Int × Int × XCode):=stepsW c.ops c.ints c.strs c.rels (workS c.ops c.ints c.rels).1 (workS c.ops c.ints c.rels).2 (workL c.ops)
def runN:Nat→XCode→Option (XCode × List XStep)
 | 0,_=>none
 | n+1,c=>match stepsC c with
   | []=>some (c,[])
   | y::_=>(runN n y.2.2).map fun p=>(p.1,stepOf y::p.2)
theorem stepsQ_mem {ap:Int→Option XCode} {r:Int}:∀ {m:Nat} {q:Int} {y:Int × Int × XCode},y ∈ stepsQ ap r m q→y.1=r∧ap y.2.1=some y.2.2
 | 0,q,y,h=>by simp[stepsQ] at h
 | m+1,q,y,h=>by
   simp only[stepsQ,List.mem_append] at h;rcases h with h | h
   ·split at h
    ·rename_i c hc;simp at h;subst h;exact⟨rfl,hc⟩
    ·simp at h
   ·exact stepsQ_mem h
theorem stepsR_mem {ap:Int→Int→Option XCode} {pl:Int→Int}:∀ {m:Nat} {r:Int} {y:Int × Int × XCode},y ∈ stepsR ap pl m r→ap y.1 y.2.1=some y.2.2
 | 0,r,y,h=>by simp[stepsR] at h
 | m+1,r,y,h=>by
   simp only[stepsR,List.mem_append] at h;rcases h with h | h
   ·obtain⟨h1,h2⟩:=stepsQ_mem h;rw[h1];exact h2
   ·exact stepsR_mem h
theorem stepsC_in {c:XCode} (hin:XIn c.ops c.ints c.strs c.rels) (hc:checkC c=true) {y:Int × Int × XCode} {r:List (Int × Int × XCode)} (h:stepsC c=y::r):XIn y.2.2.ops y.2.2.ints y.2.2.strs y.2.2.rels∧checkC y.2.2=true:=by
 have hm:y ∈ stepsC c:=by rw[h];simp
 exact apply_in (work_xa hin hc) hin (stepsR_mem hm)
theorem does22r (c:XCode) (hp:XIn c.ops c.ints c.strs c.rels) (hc:checkC c=true) (A:Nat→Prop) (w:World) (hG:GlobOk (E22 A) w) {ob ob':List (Nat × Abs.Obj)} {e:AX} (he:e ≠ .exit 2) {id:Nat}
 (h1:aopsM (E22 A) ops22.toList (ops22.toList.take 2) ⟨[(1,.ptr 1 (.box 27) []),(2,.ptr 2 (.box 27) []),(6,.ptr 6 (.box 30) [])],ob⟩=some ⟨(18,.ro false 74 (.st 74 [(cd c.ops c.ints c.strs c.rels),.sl 78 gT ((workS c.ops c.ints c.rels).1.map eFacts),.sl 4 gT ((workS c.ops c.ints c.rels).2.map eB),.sl 82 gT ((workL c.ops).map eU)]))::(17,(cd c.ops c.ints c.strs c.rels))::[(1,.ptr 1 (.box 27) []),(2,.ptr 2 (.box 27) []),(6,.ptr 6 (.box 30) [])],ob⟩)
 (hr:Rounds (fun _ _=>False) (fun c σ r=>∀ A lo L,arun { E22 A with okA:=A,lo:=lo,lent:=L } H0 5 c σ=some r) [20,21] (P22 [1,0,1,1,1,1,0,0,0,0,0,1,0,0]) (P22 [1,0,1,1,1,1,0,0,0,0,0,1,0,1]) [1,2,6] [(1,.ptr 1 (.box 27) []),(2,.ptr 2 (.box 27) []),(6,.ptr 6 (.box 30) [])] ((stepsC c).map encS) ob e ob') :
 Does Tryd.prog (E22 A) w (.seq (.region id ops22 false) (.block 2 (.rangeFunc (.tmp 19) #[20,21] (P22 [1,0,1,1,1,1,0,0,0,0,0,1,0,0]) (P22 [1,0,1,1,1,1,0,0,0,0,0,1,0,1])))) ⟨[(1,.ptr 1 (.box 27) []),(2,.ptr 2 (.box 27) []),(6,.ptr 6 (.box 30) [])],ob⟩ e ⟨[(1,.ptr 1 (.box 27) []),(2,.ptr 2 (.box 27) []),(6,.ptr 6 (.box 30) [])],ob'⟩:=by
 obtain⟨o,cc,g1,g2,g3,g4,⟨g,g5,g6⟩,g7⟩:=ops22_o;have hs:=st22;simp only[Bool.and_eq_true] at hs;exact does_seq (does_callF (fun _=>rfl) tabs (cs22 A) hG ops22_q.1 ops22_q.2 h1 g1 g2 g3 g4 (Nat.le_of_ble_eq_true rfl) ⟨f19,h37,rfl,by decide⟩ g5 g6 (by rw[g7];rfl) (by simp[closed,noTup]) (does37 _ _ _ c.ops c.ints c.strs c.rels) (by simp[leafV]))
  (does_block_x 2 (does_range (tm:=[(1,.ptr 1 (.box 27) []),(2,.ptr 2 (.box 27) []),(6,.ptr 6 (.box 30) [])]) (fun _=>rfl) tabs (cs22 A) hG rfl (fun _ h=>h) rfl (iter72 c.ops c.ints c.strs c.rels _ _ _ (work_xa hp hc)) rfl (enters ⟨f39,h72,rfl,by decide⟩) (by kernel_rfl) (by kernel_rfl) (show ∀ p ∈ _,p < 29∧_ by simp) hs.1 hs.2 (fun _ _ h=>h.elim) hr) he)
noncomputable abbrev LB22 (id:Nat):Code:= .block 1 (.seq (.seq (.region id ops22 false) (.block 2 (.rangeFunc (.tmp 19) #[20,21] (P22 [1,0,1,1,1,1,0,0,0,0,0,1,0,0]) (P22 [1,0,1,1,1,1,0,0,0,0,0,1,0,1])))) (.exit 0))
theorem ev22gh (c:XCode) (hp:XIn c.ops c.ints c.strs c.rels) (hc:checkC c=true) (xs:List XStep) (A:Nat→Prop):aopsM (E22 A) ops22.toList (ops22.toList.take 2) ⟨[(1,.ptr 1 (.box 27) []),(2,.ptr 2 (.box 27) []),(6,.ptr 6 (.box 30) [])],obX c xs⟩=some ⟨(18,.ro false 74 (.st 74 [(cd c.ops c.ints c.strs c.rels),.sl 78 gT ((workS c.ops c.ints c.rels).1.map eFacts),.sl 4 gT ((workS c.ops c.ints c.rels).2.map eB),.sl 82 gT ((workL c.ops).map eU)]))::(17,(cd c.ops c.ints c.strs c.rels))::[(1,.ptr 1 (.box 27) []),(2,.ptr 2 (.box 27) []),(6,.ptr 6 (.box 30) [])],obX c xs⟩:=by
 unfold obX;split
 ·exact ev22g c hp hc A
 ·exact ev22h c hp hc xs A
theorem does22e (c:XCode) (hp:XIn c.ops c.ints c.strs c.rels) (hc:checkC c=true) (xs:List XStep) (hn:stepsC c=[]) (A:Nat→Prop) (w:World) (hG:GlobOk (E22 A) w) (id:Nat):Does Tryd.prog (E22 A) w (LB22 id) ⟨[(1,.ptr 1 (.box 27) []),(2,.ptr 2 (.box 27) []),(6,.ptr 6 (.box 30) [])],obX c xs⟩ (.exit 0) ⟨[(1,.ptr 1 (.box 27) []),(2,.ptr 2 (.box 27) []),(6,.ptr 6 (.box 30) [])],obX c xs⟩:=
 does_block_x 1 (does_seq (does22r c hp hc A w hG (by simp) (ev22gh c hp hc xs A) (by rw[hn];exact .done _)) (does_exit 0)) (by simp)
theorem does22s (c:XCode) (hp:XIn c.ops c.ints c.strs c.rels) (hc:checkC c=true) (xs:List XStep) (hx:xs.length < 10000000) {y:Int × Int × XCode} {l:List (Int × Int × XCode)} (hn:stepsC c=y::l) (A:Nat→Prop) (w:World) (hG:GlobOk (E22 A) w) (id:Nat):Does Tryd.prog (E22 A) w (LB22 id) ⟨[(1,.ptr 1 (.box 27) []),(2,.ptr 2 (.box 27) []),(6,.ptr 6 (.box 30) [])],obX c xs⟩ .norm ⟨[(1,.ptr 1 (.box 27) []),(2,.ptr 2 (.box 27) []),(6,.ptr 6 (.box 30) [])],obX y.2.2 (xs++[stepOf y])⟩:=by
 refine ren22 y.2.2 (xs++[stepOf y]) (stepOf y) (by simp) _ _ (does_block 1 (does_seq_x (does22r c hp hc A w hG (by simp) (ev22gh c hp hc xs A) ?_) (by simp)));rw[hn];by_cases hx0:xs=[]
 ·subst hx0;refine .stops (i:=1) (σ2:=⟨[(8,.ptr 8 (.box 27) []),(7,.ptr 7 (.box 49) []),(21,(cd y.2.2.ops y.2.2.ints y.2.2.strs y.2.2.rels)),(20,.st 49 [.int .i64 y.1,.int .i64 y.2.1]),(1,.ptr 1 (.box 27) []),(2,.ptr 2 (.box 27) []),(6,.ptr 6 (.box 30) [])],[(8,(bC y.2.2.ops y.2.2.ints y.2.2.strs y.2.2.rels)),(7,⟨.box 49,true,[.st 49 [.int .i64 y.1,.int .i64 y.2.1]]⟩),(6,⟨.box 30,true,[.sl 49 gN []]⟩),(1,(bC c.ops c.ints c.strs c.rels)),(2,⟨.box 27,true,[n4]⟩)]⟩) (σ3:=⟨[(8,.ptr 8 (.box 27) []),(7,.ptr 7 (.box 49) []),(21,(cd y.2.2.ops y.2.2.ints y.2.2.strs y.2.2.rels)),(20,.st 49 [.int .i64 y.1,.int .i64 y.2.1]),(1,.ptr 1 (.box 27) []),(2,.ptr 2 (.box 27) []),(6,.ptr 6 (.box 30) [])],ob26 y.2.2 ([]++[stepOf y]) (stepOf y)⟩) rfl (by simp[encS,eCode,oldV,oldV.oldL]) (fun A lo L=>ev22i c y.2.2 y.1 y.2.1 lo A L) (fun A lo L=>(ev22k c y.2.2 y.1 y.2.1 lo A L).trans ?_) (by kernel_rfl);rfl
 ·have:obX c xs=[(6,⟨.box 30,true,[.own 27 49 0 xs.length]⟩),(27,⟨.row 49,true,xs.map eStep⟩),(1,(bC c.ops c.ints c.strs c.rels)),(2,⟨.box 27,true,[n4]⟩)]:=if_neg hx0;rw[this]
  refine .stops (i:=1) (σ2:=⟨[(8,.ptr 8 (.box 27) []),(7,.ptr 7 (.box 49) []),(21,(cd y.2.2.ops y.2.2.ints y.2.2.strs y.2.2.rels)),(20,.st 49 [.int .i64 y.1,.int .i64 y.2.1]),(1,.ptr 1 (.box 27) []),(2,.ptr 2 (.box 27) []),(6,.ptr 6 (.box 30) [])],[(8,(bC y.2.2.ops y.2.2.ints y.2.2.strs y.2.2.rels)),(7,⟨.box 49,true,[.st 49 [.int .i64 y.1,.int .i64 y.2.1]]⟩),(6,⟨.box 30,true,[.own 27 49 0 xs.length]⟩),(27,⟨.row 49,true,xs.map eStep⟩),(1,(bC c.ops c.ints c.strs c.rels)),(2,⟨.box 27,true,[n4]⟩)]⟩) (σ3:=⟨[(8,.ptr 8 (.box 27) []),(7,.ptr 7 (.box 49) []),(21,(cd y.2.2.ops y.2.2.ints y.2.2.strs y.2.2.rels)),(20,.st 49 [.int .i64 y.1,.int .i64 y.2.1]),(1,.ptr 1 (.box 27) []),(2,.ptr 2 (.box 27) []),(6,.ptr 6 (.box 30) [])],ob26 y.2.2 (xs++[stepOf y]) (stepOf y)⟩) rfl (by simp[encS,eCode,oldV,oldV.oldL]) (fun A lo L=>ev22j c y.2.2 y.1 y.2.1 xs lo A L) (fun A lo L=>(ev22l c y.2.2 y.1 y.2.1 xs hx lo A L).trans ?_) (by kernel_rfl)
  simp[ob26,stepOf,eStep]
theorem loop22 (A:Nat→Prop) (w:World) (hG:GlobOk (E22 A) w) (id:Nat):∀ (n:Nat) (c:XCode) (xs:List XStep) (out:XCode × List XStep),XIn c.ops c.ints c.strs c.rels→checkC c=true→xs.length+n < 10000000→runN n c=some out→DoesR Tryd.prog (E22 A) w (LB22 id) ⟨[(1,.ptr 1 (.box 27) []),(2,.ptr 2 (.box 27) []),(6,.ptr 6 (.box 30) [])],obX c xs⟩ (.exit 0) ⟨[(1,.ptr 1 (.box 27) []),(2,.ptr 2 (.box 27) []),(6,.ptr 6 (.box 30) [])],obX out.1 (xs++out.2)⟩ n
 | 0,c,xs,out,_,_,_,h=>by simp[runN] at h
 | n+1,c,xs,out,hp,hc,hx,h=>by
   rw[runN] at h;split at h
   ·rename_i hn;injection h with h;subst h
    simp only[List.append_nil];exact doesR_last (does22e c hp hc xs hn A w hG id) (by simp)
   ·rename_i y l hn;cases hr:runN n y.2.2 with
    | none=>rw[hr] at h;cases h
    | some p=>
      rw[hr] at h;injection h with h;subst h
      obtain⟨hp',hc'⟩:=stepsC_in hp hc hn;have:=loop22 A w hG id n y.2.2 (xs++[stepOf y]) p hp' hc' (by simp;omega) hr;refine doesR_next (does22s c hp hc xs (by omega) hn A w hG id) ?_;simpa using this
theorem runN_det:∀ {n m:Nat} {c:XCode} {a b:XCode × List XStep},runN n c=some a→runN m c=some b→a=b
 | 0,_,_,_,_,h,_=>by simp[runN] at h
 | _+1,0,_,_,_,_,h=>by simp[runN] at h
 | n+1,m+1,c,a,b,h,k=>by
   rw[runN] at h k;split at h
   ·rename_i hn;rw[hn] at k;injection h with h;injection k with k;rw[← h,← k]
   ·rename_i y l hn;rw[hn] at k;cases hr:runN n y.2.2 with
    | none=>rw[hr] at h;cases h
    | some p=>
      cases hs:runN m y.2.2 with
      | none=>simp only[hs] at k;cases k
      | some q=>
        have:=runN_det hr hs;subst this;rw[hr] at h;simp only[hs] at k;injection h with h;injection k with k
        rw[← h,← k]
theorem less22 {P:Program} {E:Env} {w0:World} {cc:Code} {σ:St} {e:AX} {c:XCode} (h:Does P E w0 cc σ e ⟨[(6,.ptr 6 (.box 30) []),(12,.bool false),(5,.int .i64 0),(4,.int .i64 0),(3,.sl 0 gN []),(2,.ptr 2 (.box 27) []),(1,.ptr 1 (.box 27) []),(0,(cd c.ops c.ints c.strs c.rels))],[(1,(bC c.ops c.ints c.strs c.rels)),(6,⟨.box 30,true,[.sl 49 gN []]⟩),(2,⟨.box 27,true,[n4]⟩)]⟩):Does P E w0 cc σ e ⟨[(1,.ptr 1 (.box 27) []),(2,.ptr 2 (.box 27) []),(6,.ptr 6 (.box 30) [])],obX c []⟩:=by
 refine h.less (fun t x hx=>?_) (fun o b hb=>?_)
 ·by_cases h1:1=t
  ·subst h1;simpa[aget] using hx
  by_cases h2:2=t
  ·subst h2;simpa[aget] using hx
  by_cases h6:6=t
  ·subst h6;simpa[aget] using hx
  ·simp[aget,h6,h1,h2] at hx
 ·have:obX c []=obA c:=if_pos rfl;rw[this] at hb;by_cases h1:1=o
  ·subst h1;simpa[aget,obA] using hb
  by_cases h2:2=o
  ·subst h2;simpa[aget,obA] using hb
  by_cases h6:6=o
  ·subst h6;simpa[aget,obA] using hb
  ·simp[aget,obA,h6,h1,h2] at hb
theorem does22f (c:XCode) (hp:XIn c.ops c.ints c.strs c.rels) (hc:checkC c=false) (A:Nat→Prop) (w:World) (hG:GlobOk (E22 A) w) :
 ∃ b,f7.body=some b∧Does Tryd.prog (E22 A) w b ⟨argTms 0 [(cd c.ops c.ints c.strs c.rels)],[]⟩ .ret ⟨[(4,.int .i64 150),(3,.sl 0 gN []),(12,.bool true),(5,.int .i64 150),(2,.ptr 2 (.box 27) []),(1,.ptr 1 (.box 27) []),(0,(cd c.ops c.ints c.strs c.rels))],[(2,⟨.box 27,true,[n4]⟩),(1,(bC c.ops c.ints c.strs c.rels))]⟩:=by
 obtain⟨id,hb⟩:=body22;obtain⟨d1,d2,d3,d4,d5⟩:=dq22 A;exact⟨_,hb,does_seq (does_arun (fun _ h=>h) tabs (cs22 A) hG d1 (ev22a c A)) (does_scope (does_seq_x (does_arun (fun _ h=>h) tabs (cs22 A) hG d2 (ev22f c hp hc A)) (by simp)))⟩
theorem does22p (c:XCode) (hp:XIn c.ops c.ints c.strs c.rels) (hc:checkC c=true) {n:Nat} {out:XCode × List XStep} (hn:n < 10000000) (hr:runN n c=some out) (A:Nat→Prop) (w:World) (hG:GlobOk (E22 A) w) {σ':St}
 (h2:arun (E22 A) H0 5 (P22 [1,0,1,1,1,1,1]) ⟨[(1,.ptr 1 (.box 27) []),(2,.ptr 2 (.box 27) []),(6,.ptr 6 (.box 30) [])],obX out.1 out.2⟩=some (.ret,σ')) :
 ∃ b,f7.body=some b∧Does Tryd.prog (E22 A) w b ⟨argTms 0 [(cd c.ops c.ints c.strs c.rels)],[]⟩ .ret σ':=by
 obtain⟨id,hb⟩:=body22;obtain⟨d1,d2,d3,d4,d5⟩:=dq22 A;refine⟨_,hb,does_seq (does_arun (fun _ h=>h) tabs (cs22 A) hG d1 (ev22a c A)) (does_scope (does_seq (does_arun (fun _ h=>h) tabs (cs22 A) hG d2 (ev22b c hp hc A)) (does_seq (does_arun (fun _ h=>h) tabs (cs22 A) hG d3 (ev22c c A))
  (does_seq (less22 (does_arun (fun _ h=>h) tabs (cs22 A) hG d4 (ev22d c hp A))) (does_seq (does_label 0) (does_seq (does_block 0 (does_loop (m:=n) ?_)) (does_arun (fun _ h=>h) tabs (cs22 A) hG d5 h2)))))))⟩
 exact loop22 A w hG id n c [] out hp hc (by simpa using hn) hr
theorem ret22 (c:XCode) (n:Nat) (out:XCode × List XStep) (hp:XIn c.ops c.ints c.strs c.rels∧n < 10000000∧(if checkC c=true then runN n c=some out else out=(⟨[],[],[],[]⟩,[]))):Ret Tryd.prog ty G0 7 [(cd c.ops c.ints c.strs c.rels)] (.tup [eCode out.1,.sl 49 gT (out.2.map eStep),.int .i64 (errF (checkC c))]):=by
 obtain⟨hp,hn,ho⟩:=hp;have wrap:∀ {r:AV} {σ':St} {x y z:AV},(∀ A,aresults (E22 A) σ' f7.results.toList=some [x,y,z])→(∀ A w,GlobOk (E22 A) w→∃ b,f7.body=some b∧Does Tryd.prog (E22 A) w b ⟨argTms 0 [(cd c.ops c.ints c.strs c.rels)],[]⟩ .ret σ')→
  (∀ A:Nat→Prop,(obind (hand.handL ty σ'.ob 30 [x,y,z]) fun vs=>some (one vs))=some r)→Ret Tryd.prog ty G0 7 [(cd c.ops c.ints c.strs c.rels)] r:=fun h1 h2 h3=>by
  obtain⟨id,hb⟩:=body22;exact ret_of_does (Ef:=E22) (e:= .ret) (fun _=>rfl) (fun _=>rfl) (fun _=>rfl) tabs h22 (fun _=>rfl) hb (Nat.le_of_ble_eq_true rfl) (by simp[oldV,oldV.oldL]) (.inr rfl) (fun A w hG=>by
   obtain⟨c,e,h⟩:=h2 A w hG;rw[hb] at e;injection e with e;subst e;exact h) (fun A=>by rw[h1 A];exact h3 A)
 cases hc:checkC c with
 | false=>
   rw[hc] at ho;simp only[BL] at ho;subst ho;refine Ret.weak (wrap (r:= .tup [n4,.sl 0 gN [],.int .i64 150]) (fun _=>rfl) (fun A w hG=>does22f c hp hc A w hG) (fun _=>rfl)) ?_;simp[one,wk_tup,wkL_cons,wkL_nil,wk_sl,wk_st,wk_int,errF,eCode]
 | true=>
   rw[hc] at ho;simp only[BL] at ho;obtain⟨d,l⟩:=out;by_cases hl:l=[]
   ·subst hl;have hX:obX d []=obA d:=if_pos rfl;refine Ret.weak (wrap (r:= .tup [eCode d,.sl 49 gN [],.int .i64 0]) (fun _=>rfl) (fun A w hG=>does22p c hp hc hn ho A w hG (by rw[hX];exact ev22y d A)) (fun _=>rfl)) ?_;simp[one,wk_tup,wkL_cons,wkL_nil,wk_sl,wk_st,wk_int,errF,eCode]
   ·have hX:obX d l=_:=if_neg hl;refine Ret.weak (wrap (r:= .tup [eCode d,.sl 49 gT (l.map eStep),.int .i64 0]) (x:=eCode d) (y:= .own 27 49 0 l.length) (z:= .int .i64 0) (fun _=>rfl) (fun A w hG=>does22p c hp hc hn ho A w hG (by rw[hX];exact ev22z d l A)) (fun _=>?_)) ?_
    ·simp[hand.handL,hand,aget,obind,one,eCode]
    ·simp[one,wk_tup,wkL_cons,wkL_nil,wk_sl,wk_st,wk_int,errF,eCode]
def R22 (l:List AV) (r:AV):Prop:=∃ (c:XCode) (n:Nat) (out:XCode × List XStep),(XIn c.ops c.ints c.strs c.rels∧n < 10000000∧(if checkC c=true then runN n c=some out else out=(⟨[],[],[],[]⟩,[])))∧l=[(cd c.ops c.ints c.strs c.rels)]∧r = .tup [eCode out.1,.sl 49 gT (out.2.map eStep),.int .i64 (errF (checkC c))]
noncomputable def c22:=famC R22
theorem c22_eq (c:XCode) (n:Nat) (out:XCode × List XStep) (hp:XIn c.ops c.ints c.strs c.rels∧n < 10000000∧(if checkC c=true then runN n c=some out else out=(⟨[],[],[],[]⟩,[]))):c22 [(cd c.ops c.ints c.strs c.rels)]=some (.tup [eCode out.1,.sl 49 gT (out.2.map eStep),.int .i64 (errF (checkC c))]):=by
 refine famC_eq (fun l r r'=>?_) ⟨c,n,out,hp,rfl,rfl⟩;rintro⟨⟨ops,ints,strs,rels⟩,n,out,hp,h,rfl⟩ ⟨⟨ops',ints',strs',rels'⟩,n',out',hp',h',rfl⟩;rw[h] at h';simp only[List.cons.injEq,AV.st.injEq,AV.sl.injEq,AV.int.injEq,AV.bool.injEq,AV.str.injEq,AV.ro.injEq,AV.fn.injEq,AV.own.injEq,Fl.mk.injEq,Prod.mk.injEq,Abs.Obj.mk.injEq,mOp_inj,mI_inj,mS_inj,mB_inj,mRel_inj,mStep_inj,mFacts_inj,mU_inj,and_true,true_and,and_assoc] at h';obtain⟨rfl,rfl,rfl,rfl⟩:=h';have:out=out':=by
  have h1:=hp.2.2;have h2:=hp'.2.2;split at h1
  ·rename_i hc;rw[if_pos hc] at h2;exact runN_det h1 h2
  ·rename_i hc;rw[if_neg hc] at h2;rw[h1,h2]
 rw[this]
theorem snd22:Snd 7 c22:=fun l r h=>by
 obtain⟨c,n,out,hp,rfl,rfl⟩:=famC_R h;exact⟨⟨f7,h22,rfl,by decide⟩,ret22 c n out hp⟩
def replayF:List XStep→XCode→Int→XCode × Int × Int
 | [],c,i=>(c,i,0)
 | s::r,c,i=>match applyW c.ops c.ints c.strs c.rels s.rule s.at_ with
   | none=>(c,i,170)
   | some d=>replayF r d (i+1)
def replayE (ops:List XOp) (ints:List Int) (strs:List ByteArray) (rels:List XRel) (ls:List XStep):XCode × Int × Int:=
 if checkF ops ints strs rels=true then replayF ls ⟨ops,ints,strs,rels⟩ 0 else (⟨[],[],[],[]⟩,0,150)
theorem replayF_len:∀ (l:List XStep) (c:XCode) (i:Int),(replayF l c i).2.2=0→(replayF l c i).2.1=i+l.length
 | [],c,i,_=>by simp[replayF]
 | s::r,c,i,h=>by
   rw[replayF] at h ⊢;split at h
   ·simp at h
   ·rename_i d hd
    skip
    have:=replayF_len r d (i+1) h;simp only[this,List.length_cons];omega
theorem h24:Tryd.prog.funcs[9]? = some f9:=by kernel_rfl
def D24:Nat→Option (List DH × List Nat):=fun i=>match i with | 8=>some ([⟨[10],[],[10]⟩,⟨[10],[],[10]⟩,⟨[10],[],[10]⟩,⟨[10],[],[10]⟩,⟨[10],[],[10]⟩,⟨[10],[],[10]⟩,⟨[10],[],[10]⟩,⟨[],[10],[]⟩,⟨[],[10],[]⟩,⟨[],[],[]⟩],[10]) | _=>none
theorem D24_8:D24 8=some ([⟨[10],[],[10]⟩,⟨[10],[],[10]⟩,⟨[10],[],[10]⟩,⟨[10],[],[10]⟩,⟨[10],[],[10]⟩,⟨[10],[],[10]⟩,⟨[10],[],[10]⟩,⟨[],[10],[]⟩,⟨[],[10],[]⟩,⟨[],[],[]⟩],[10]):=rfl
def H24:Nat→Hint:=fun i=>if i=6 then ({ tm:=[1,2,4,20,21,22],ob:=[2,4],fin:=some ([1,2,4,5,6],[2,4]) }:Hint) else { tm:=[],ob:=[] }
theorem H24_6:H24 6=({ tm:=[1,2,4,20,21,22],ob:=[2,4],fin:=some ([1,2,4,5,6],[2,4]) }:Hint):=by simp[H24]
theorem loop24 (ls:List XStep) (hl:ls.length≤3000000) (A:Nat→Prop) (k:Nat):∀ (r:List XStep) (i:Nat) (c:XCode) (σ:St),ls.drop i=r→i+r.length=ls.length→XIn c.ops c.ints c.strs c.rels→checkC c=true→
 σ.keep (H24 6)=⟨[(1,.sl 49 gF (ls.map eStep)),(2,.ptr 2 (.box 27) []),(4,.ptr 4 (.box 27) []),(20,.sl 49 gF (ls.map eStep)),(21,.int .i64 ls.length),(22,.int .i64 i)],[(2,(bC c.ops c.ints c.strs c.rels)),(4,⟨.box 27,true,[n4]⟩)]⟩→
 post (H24 6) (aloop ty (arun (envX Z0 (fun _=>false) 43 34375503863 D24 [(16,c33),(18,c34),(20,c35),(17,c46c)] [] A) H24 k (sub (f9.body.getD .skip) [1,1,1,0,1,0,0])) (H24 6) (r.length+1) σ) =
 some (if (replayF r c i).2.2=0 then (.exit 0,⟨[(1,.sl 49 gF (ls.map eStep)),(2,.ptr 2 (.box 27) []),(4,.ptr 4 (.box 27) [])],[(2,⟨.box 27,false,[(cd (replayF r c i).1.ops (replayF r c i).1.ints (replayF r c i).1.strs (replayF r c i).1.rels)]⟩),(4,⟨.box 27,true,[n4]⟩)]⟩) else (.ret,⟨[(1,.sl 49 gF (ls.map eStep)),(2,.ptr 2 (.box 27) []),(4,.ptr 4 (.box 27) []),(5,.int .i64 (replayF r c i).2.1),(6,.int .i64 (replayF r c i).2.2)],[(2,⟨.box 27,false,[(cd (replayF r c i).1.ops (replayF r c i).1.ints (replayF r c i).1.strs (replayF r c i).1.rels)]⟩),(4,⟨.box 27,false,[(cd (replayF r c i).1.ops (replayF r c i).1.ints (replayF r c i).1.strs (replayF r c i).1.rels)]⟩)]⟩)):=by
 simp only[f9,sub,Option.getD_some,H24_6];intro r
 induction r with
 | nil=>
   intro i c σ hd hi hin hc hσ;have h1:¬ ((i:Int) < (ls.length:Int)):=by simp at hi;omega
   rw[List.length_nil,aloop,hσ];simp only[go_sem,D24_8,h1];simp[post,St.fin,keepL,aget,replayF]
 | cons s r ih=>
   intro i c σ hd hi hin hc hσ;have h1:(i:Int) < (ls.length:Int):=by simp at hi;omega
   have hni:(0:Int)≤(i:Int):=Int.natCast_nonneg i;have hlt:i < ls.length:=by simp at hi;omega
   have hw:IntKind.i64.wrap ((i:Int)+1)=((i+1:Nat):Int):=(by rw[wrap_i64 (by omega) (by omega)];omega)
   have hget:ls[i]? = some s:=by
    have:=congrArg (fun l=>l[0]?) hd;simpa using this
   have hd':ls.drop (i+1)=r:=by
    have:=congrArg (fun l=>l.drop 1) hd;simpa[List.drop_drop,Nat.add_comm] using this
   have e34:=c34_eq c.ops c.ints c.strs c.rels ⟨⟨hin.lim,hin.str⟩,hc⟩;have e35:=c35_eq c.ops c.ints c.strs c.rels (workS c.ops c.ints c.rels).1 (workS c.ops c.ints c.rels).2 (workL c.ops) s.rule s.at_ (work_xa hin hc);have hap:applyF c.ops c.ints c.strs c.rels (workS c.ops c.ints c.rels).1 (workS c.ops c.ints c.rels).2 (workL c.ops) s.rule s.at_=applyW c.ops c.ints c.strs c.rels s.rule s.at_:=rfl;rw[hap] at e35;have hnext:∀ d,applyW c.ops c.ints c.strs c.rels s.rule s.at_=some d→XIn d.ops d.ints d.strs d.rels∧checkC d=true:=fun d h=>apply_in (work_xa hin hc) hin h
   have hrep:replayF (s::r) c i=match applyW c.ops c.ints c.strs c.rels s.rule s.at_ with | none=>(c,(i:Int),170) | some d=>replayF r d (((i+1:Nat)):Int):=by
    rw[replayF];rfl
   rw[List.length_cons,aloop,hσ,hrep];cases hx:applyW c.ops c.ints c.strs c.rels s.rule s.at_ with
   | none=>
     rw[hx] at e35;simp only[eOut,eCode] at e35;simp only[go_sem,D24_8,h1,hw,eStep,hget,hni,e34,e35];simp[post,St.fin,keepL,aget,replayF]
   | some d=>
     rw[hx] at e35;simp only[eOut,eCode] at e35;obtain⟨hin',hc'⟩:=hnext d hx;simp only[go_sem,D24_8,h1,hw,eStep,hget,hni,e34,e35];refine ih (i+1) d _ hd' (by simp at hi ⊢;omega) hin' hc' ?_;simp only[go_sem,hw];try rfl
theorem run24 (ls:List XStep) (hp:XIn ops ints strs rels∧ls.length≤3000000) :∃ r,wk r (.tup [eCode (replayE ops ints strs rels ls).1,.int .i64 (replayE ops ints strs rels ls).2.1,.int .i64 (replayE ops ints strs rels ls).2.2])∧∀ A,acall (envX Z0 (fun _=>false) 43 34375503863 D24 [(16,c33),(18,c34),(20,c35),(17,c46c)] [] A) (H24) ((ls.length+1)) f9 [(cd ops ints strs rels),.sl 49 gF (ls.map eStep)]=some r:=by
 have e33:=c33_eq ops ints strs rels ⟨hp.1.lim,hp.1.str⟩;have e46c:=c46c_eq ops ints strs rels hp.1.lim;unfold replayE;cases hc:checkF ops ints strs rels
 ·rw[hc] at e33;simp only[errF,BL] at e33 ⊢;apply wkI
  ·intro A;simp only[acall,macall,f9];simp only[go_sem,D24_8,e33,e46c,H24_6];rfl
  ·simp[WK,eOut,eCode]
 ·rw[hc] at e33;simp only[errF,BL] at e33 ⊢;have hl:=fun A=>loop24 ls hp.2 A (ls.length+1) ls 0 ⟨ops,ints,strs,rels⟩
  simp only[f9,sub,Option.getD_some,H24_6] at hl;have hn:=replayF_len ls ⟨ops,ints,strs,rels⟩ 0;by_cases h0:(replayF ls ⟨ops,ints,strs,rels⟩ 0).2.2=0;all_goals
   apply wkI
   ·intro A;simp only[acall,macall,f9];simp only[go_sem,D24_8,e33,e46c,H24_6];rw[hl A _ rfl (by simp) hp.1 hc (by simp only[go_sem])];simp only[Int.natCast_zero,h0,reduceIte,BL];simp only[go_sem,D24_8,e33,e46c,H24_6];rfl
   ·simp[WK,eOut,eCode];try exact⟨by simpa using hn h0,h0⟩
noncomputable def c24:=famP (α:=(List XOp) × (List Int) × (List ByteArray) × (List XRel) × (List XStep)) (fun (ops,ints,strs,rels,ls)=>XIn ops ints strs rels∧ls.length≤3000000) (fun (ops,ints,strs,rels,ls)=>[(cd ops ints strs rels),.sl 49 gF (ls.map eStep)]) (fun (ops,ints,strs,rels,ls)=> .tup [eCode (replayE ops ints strs rels ls).1,.int .i64 (replayE ops ints strs rels ls).2.1,.int .i64 (replayE ops ints strs rels ls).2.2])
theorem c24_eq (ls:List XStep) (hp:XIn ops ints strs rels∧ls.length≤3000000):c24 [(cd ops ints strs rels),.sl 49 gF (ls.map eStep)]=some (.tup [eCode (replayE ops ints strs rels ls).1,.int .i64 (replayE ops ints strs rels ls).2.1,.int .i64 (replayE ops ints strs rels ls).2.2]):=fam_eq (fun X Y hp hp' h'=>by
 obtain⟨ops,ints,strs,rels,ls⟩:=X;obtain⟨ops',ints',strs',rels',ls'⟩:=Y;simp only[INJ] at h';obtain⟨rfl,rfl,rfl,rfl,rfl⟩:=h';rfl) (ops,ints,strs,rels,ls) hp
theorem snd24:Snd 9 c24:=fam_snd h24 rfl rfl fun (ops,ints,strs,rels,ls) hp=>let ⟨_,hw,hr⟩:=run24 ops ints strs rels ls hp;(rX h24 hr (fun i=>match i with | 8=>[0,1,0,7,15,31,31,0,191,511] | _=>[]) rfl rfl rfl (by kernel_rfl) ⟨snd33,snd34,snd35,snd46c,trivial⟩ trivial).weak hw
end Go.Proofs.Tryd
end
