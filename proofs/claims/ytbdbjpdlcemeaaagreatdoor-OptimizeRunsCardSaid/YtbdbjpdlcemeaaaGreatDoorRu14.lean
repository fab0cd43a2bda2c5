/- A part of a proof. -/
import Derived.LoopNIn
import Derived.Test.YtbdbjpdlcemeaaaGreatDoorRu04
import Derived.Test.YtbdbjpdlcemeaaaGreatDoorRu06
import Derived.Test.YtbdbjpdlcemeaaaGreatDoorRu07
import Derived.Test.YtbdbjpdlcemeaaaGreatDoorRu08
import Derived.Test.YtbdbjpdlcemeaaaGreatDoorRu13
set_option linter.unusedSimpArgs false
set_option linter.unusedVariables false
section
set_option maxHeartbeats 4000000
set_option maxRecDepth 20000
namespace Go.Proofs.Tryz
open Go Go.Abs
variable (N : List bp) (V : List Int) (I : List ByteArray) (U : List aP) (ao : List (List aB)) (aj : List Bool) (au : List Int)
def gW (N:List bp) (V:List Int) (I:List ByteArray) (U:List aP) (ao:List (List aB)) (aj:List Bool) (au:List Int) (rule q:Int):Option aL:=
 if (rule==1)=true then nB N V I U ao aj q else if (rule==2)=true then ir N V I U ao aj q else if (rule==3)=true then nD N V I U au q
 else if (rule==4)=true then iq N V I U q else if (rule==5)=true then km N V I U aj q else if (rule==6)=true then kn N V I U ao aj q
 else if (rule==7)=true then kp N V I U ao aj q else if (rule==8)=true then nC N V I U q else none
def bF (N:List bp) (V:List Int) (I:List ByteArray) (rule:Int):Int:=if rule=8 then (V.length+I.length:Int) else N.length
def bx (c:aL):Bool:=aU c.ops c.ints c.strs c.U
def eD (N:List bp) (V:List Int) (I:List ByteArray) (U:List aP) (ao:List (List aB)) (aj:List Bool) (au:List Int) (rule q:Int):Option aL:=
 if (sT rule).isSome=true then
  if (decide (q < 0))=true then none else if (decide (bF N V I rule≤q))=true then none
  else (gW N V I U ao aj au rule q).bind fun c=>if bx c=true then some c else none
 else none
structure uW (N:List bp) (V:List Int) (I:List ByteArray) (U:List aP) (c:aL):Prop where
 o:c.ops.length≤N.length
 i:c.ints.length≤V.length+1
 s:c.strs.length≤I.length
 r:c.U.length≤U.length
 n:∀ r ∈ c.U,∃ r0 ∈ U,r.str=r0.str∧r.mem=r0.mem
theorem uW.same {N c7:List bp} {V bJ:List Int} {I bL:List ByteArray} {U:List aP} (h1:c7.length≤N.length) (h2:bJ.length≤V.length+1) (h3:bL.length≤I.length):uW N V I U ⟨c7,bJ,bL,U⟩:=
 ⟨h1,h2,h3,Nat.le_refl _,fun r hr=>⟨r,hr,rfl,rfl⟩⟩
theorem za (q:Int):uW N V I U (cf N V I U q):=by
 refine⟨?_,Nat.le_succ _,Nat.le_refl _,?_,fun r hr=>?_⟩
 ·simp only[cf,List.length_map];exact List.length_eraseIdx_le _ _
 ·simp only[cf,List.length_map,ek];exact List.length_filter_le _ _
 ·simp only[cf,List.mem_map,ek] at hr;obtain⟨r0,h1,rfl⟩:=hr;refine⟨r0,(List.mem_filter.1 h1).1,?_⟩;unfold iR;split <;> exact⟨rfl,rfl⟩
theorem mI {N:List bp} {V:List Int} {I:List ByteArray} {U:List aP} {k:Nat} {o:bp} {c:aL} (h:some (⟨N.set k o,V,I,U⟩:aL)=some c):uW N V I U c:=by
 injection h with h;subst h;exact .same (by simp) (by simp) (Nat.le_refl _)
theorem s8 {N:List bp} {V:List Int} {I:List ByteArray} {U:List aP} {q:Int} {c:aL} (h:some (cf N V I U q)=some c):uW N V I U c:=by
 injection h with h;subst h;exact za ..
theorem cg {c:Prop} [Decidable c] {a b:Option aL} {x:aL} {K:Prop} (ha:a=some x→K) (hb:b=some x→K):(if c then a else b)=some x→K:=by
 split
 ·exact ha
 ·exact hb
theorem ym {N:List bp} {V:List Int} {I:List ByteArray} {U:List aP} {ao:List (List aB)} {aj:List Bool} {au:List Int} {rule q:Int} {c:aL} (h:gW N V I U ao aj au rule q=some c):uW N V I U c:=by
 revert h;unfold gW;refine cg ?_ (cg ?_ (cg ?_ (cg ?_ (cg ?_ (cg ?_ (cg ?_ (cg ?_ (fun h=>by cases h))))))))
 ·unfold nB oh;dsimp only;repeat' refine cg ?_ ?_
  all_goals intro h
  all_goals first | (cases h;done) | exact mI h | (injection h with h;subst h;exact .same (by simp) (by simp) (Nat.le_refl _))
 ·unfold ir;dsimp only;repeat' refine cg ?_ ?_
  all_goals intro h
  all_goals first | (cases h;done) | exact mI h
 ·unfold nD;dsimp only;repeat' refine cg ?_ ?_
  all_goals intro h
  all_goals first | (cases h;done) | exact s8 h
 ·unfold iq;dsimp only;repeat' refine cg ?_ ?_
  all_goals intro h
  all_goals first | (cases h;done) | exact mI h | exact s8 h
 ·unfold km;repeat' refine cg ?_ ?_
  all_goals intro h
  all_goals first | (cases h;done) | exact s8 h
 ·unfold kn;dsimp only;repeat' refine cg ?_ ?_
  all_goals intro h
  all_goals first | (cases h;done) | exact mI h
 ·unfold kp g_;dsimp only;repeat' refine cg ?_ ?_
  all_goals intro h
  all_goals first | (cases h;done) | exact mI h | (injection h with h;subst h;exact .same (by simp) (by simp) (Nat.le_refl _))
 ·unfold nC;repeat' refine cg ?_ ?_
  all_goals intro h
  all_goals first | (cases h;done) | (injection h with h;subst h;exact .same (by simp) (by first | (exact Nat.le_succ_of_le (List.length_eraseIdx_le _ _)) | simp) (by first | exact List.length_eraseIdx_le _ _ | exact Nat.le_refl _))
structure XA (N:List bp) (V:List Int) (I:List ByteArray) (U:List aP) (ao:List (List aB)) (aj:List Bool) (au:List Int):Prop extends XW N V I U ao aj au where
 str:∀ r ∈ U,r.str.size≤9223372036854775807∧r.mem.size≤9223372036854775807
theorem XA.UG {N:List bp} {V:List Int} {I:List ByteArray} {U:List aP} {ao:List (List aB)} {aj:List Bool} {au:List Int} (h:XA N V I U ao aj au) {c:aL} (hk:uW N V I U c) :
 (LM c.ops c.ints c.strs c.U)∧(LS c.U):=by
 obtain⟨l1,l2,l3,l4⟩:=h.lim;have:=h.i200;refine⟨⟨by have:=hk.o;omega,by have:=hk.i;omega,by have:=hk.s;omega,by have:=hk.r;omega⟩,fun r hr=>?_⟩;obtain⟨r0,h1,h2,h3⟩:=hk.n r hr;rw[h2,h3];exact h.str r0 h1
theorem XW.pre {N:List bp} {V:List Int} {I:List ByteArray} {U:List aP} {ao:List (List aB)} {aj:List Bool} {au:List Int} (h:XW N V I U ao aj au) {q:Int} (h0:0≤q) (hq:q.toNat < N.length) :
 (LM N V I U)∧0≤q∧q.toNat < N.length∧(∀ o ∈ N,o.n < 9223372036854775808)∧(∀ r ∈ U,r.at_ < 9223372036854775808):=
 ⟨h.lim,h0,hq,fun o ho=>by have:=h.vE o ho;unfold bM at this;omega,fun r hr=>by have:=h.rel r hr;have:=h.lim.1;omega⟩
theorem XW.ak9 {N:List bp} {V:List Int} {I:List ByteArray} {U:List aP} {ao:List (List aB)} {aj:List Bool} {au:List Int} (h:XW N V I U ao aj au):∀ o ∈ N,0≤o.d:=fun o ho=>by
 obtain⟨i,hi,e⟩:=List.getElem_of_mem ho;have:=(h.op i hi).2.2.1;rw[List.getD_eq_getElem?_getD,List.getElem?_eq_getElem hi,e] at this;exact this
theorem h35:Q 35=some f35:=by kernel_rfl
theorem agj (rule q:Int) (hp:XA N V I U ao aj au) :∃ r,wk r (aS (eD N V I U ao aj au rule q))∧∀ A,ak (env 50 140739635839483 D0 [(62,c62),(63,BS),(33,o_),(89,c89),(90,c90),(91,c91),(92,c92),(93,c93),(94,c94),(95,c95),(96,c96)] [] A) hN (5) f35 [(wv N V I U ao aj au),.st 29 [J rule,J q]]=some r:=by
 have hw:=hp.toXW;have qn:=as9 N V I U ao aj au rule ⟨hw.lim.2.1,hw.lim.2.2.1⟩;unfold eD;cases pa:sT rule
 ·simp only[Option.isSome_some,Option.isSome_none,Option.bind_some,Option.bind_none,BL];apply bu
  ·intro A;simp only[ak,ai,f35];simp only[go_sem,pa,dv,dw,qn,Option.isSome_some,Option.isSome_none];rfl
  ·simp[WK,aS,ax]
 rename_i fn;simp only[Option.isSome_some,Option.isSome_none,Option.bind_some,Option.bind_none,BL];have K0:bF N V I rule=if rule=8 then (V.length+I.length:Int) else N.length:=rfl
 rw[← K0] at qn;cases jB:decide (q < 0);rotate_left
 ·simp only[Option.isSome_some,Option.isSome_none,Option.bind_some,Option.bind_none,BL];apply bu
  ·intro A;simp only[ak,ai,f35];simp only[go_sem,pa,jB,dv,dw,qn,Option.isSome_some,Option.isSome_none];rfl
  ·simp[WK,aS,ax]
 cases fj:decide (bF N V I rule≤q);rotate_left
 ·simp only[Option.isSome_some,Option.isSome_none,Option.bind_some,Option.bind_none,BL];apply bu
  ·intro A;simp only[ak,ai,f35];simp only[go_sem,pa,jB,fj,dv,dw,qn,Option.isSome_some,Option.isSome_none];rfl
  ·simp[WK,aS,ax]
 simp only[Option.isSome_some,Option.isSome_none,Option.bind_some,Option.bind_none,BL];have h0:0≤q:=by simpa using jB
 have sP:q < bF N V I rule:=by simpa using fj
 have Fb:=fun c=>ym (N:=N) (V:=V) (I:=I) (U:=U) (ao:=ao) (aj:=aj) (au:=au) (rule:=rule) (q:=q) (c:=c)
 have mP:=fun (c:aL) (h:uW N V I U c)=>qb c.ops c.ints c.strs c.U (hp.UG h)
 have hrc:(rule=1∧fn=89)∨(rule=2∧fn=90)∨(rule=3∧fn=91)∨(rule=4∧fn=92)∨(rule=5∧fn=93)∨(rule=6∧fn=94)∨(rule=7∧fn=95)∨(rule=8∧fn=96):=by
  unfold sT at pa;repeat' split at pa
  all_goals first | (cases pa;done) | (injection pa with pa;subst pa;rename_i h;simp only[beq_iff_eq] at h;subst h;simp)
 rcases hrc with ⟨rfl,rfl⟩|⟨rfl,rfl⟩|⟨rfl,rfl⟩|⟨rfl,rfl⟩|⟨rfl,rfl⟩|⟨rfl,rfl⟩|⟨rfl,rfl⟩|⟨rfl,rfl⟩
 ·skip
  have aR:q.toNat < N.length:=by simp[bF] at sP;omega
  have fL:gW N V I U ao aj au 1 q=nB N V I U ao aj q:=rfl;rw[fL] at Fb ⊢;have ef:=YT N V I U ao aj au q ⟨hw,h0,aR⟩;generalize nB N V I U ao aj q=st at *;cases st
  ·simp only[aS,ax] at ef;simp only[Option.isSome_some,Option.isSome_none,Option.bind_some,Option.bind_none,BL];apply bu
   ·intro A;simp only[ak,ai,f35];simp only[go_sem,pa,jB,fj,ef,dv,dw,qn,Option.isSome_some,Option.isSome_none];rfl
   ·simp[WK,aS,ax]
  ·rename_i c;have ec:=mP c (Fb c rfl);simp only[aS,ax] at ef;simp only[Option.bind_some];have mj:bx c=aU c.ops c.ints c.strs c.U:=rfl;rw[← mj] at ec;generalize bx c=ck at *;cases ck
   ·simp only[cy,BL] at ec ⊢;apply bu
    ·intro A;simp only[ak,ai,f35];simp only[go_sem,pa,jB,fj,ef,ec,dv,dw,qn,Option.isSome_some,Option.isSome_none];rfl
    ·simp[WK,aS,ax]
   ·simp only[cy,BL] at ec ⊢;apply bu
    ·intro A;simp only[ak,ai,f35];simp only[go_sem,pa,jB,fj,ef,ec,dv,dw,qn,Option.isSome_some,Option.isSome_none];rfl
    ·simp[WK,aS,ax]
 ·skip
  have aR:q.toNat < N.length:=by simp[bF] at sP;omega
  have fL:gW N V I U ao aj au 2 q=ir N V I U ao aj q:=rfl;rw[fL] at Fb ⊢;have ef:=Y1 N V I U ao aj au q ⟨hw,h0,aR⟩;generalize ir N V I U ao aj q=st at *;cases st
  ·simp only[aS,ax] at ef;simp only[Option.isSome_some,Option.isSome_none,Option.bind_some,Option.bind_none,BL];apply bu
   ·intro A;simp only[ak,ai,f35];simp only[go_sem,pa,jB,fj,ef,dv,dw,qn,Option.isSome_some,Option.isSome_none];rfl
   ·simp[WK,aS,ax]
  ·rename_i c;have ec:=mP c (Fb c rfl);simp only[aS,ax] at ef;simp only[Option.bind_some];have mj:bx c=aU c.ops c.ints c.strs c.U:=rfl;rw[← mj] at ec;generalize bx c=ck at *;cases ck
   ·simp only[cy,BL] at ec ⊢;apply bu
    ·intro A;simp only[ak,ai,f35];simp only[go_sem,pa,jB,fj,ef,ec,dv,dw,qn,Option.isSome_some,Option.isSome_none];rfl
    ·simp[WK,aS,ax]
   ·simp only[cy,BL] at ec ⊢;apply bu
    ·intro A;simp only[ak,ai,f35];simp only[go_sem,pa,jB,fj,ef,ec,dv,dw,qn,Option.isSome_some,Option.isSome_none];rfl
    ·simp[WK,aS,ax]
 ·skip
  have aR:q.toNat < N.length:=by simp[bF] at sP;omega
  have fL:gW N V I U ao aj au 3 q=nD N V I U au q:=rfl;rw[fL] at Fb ⊢;have ef:=Zc N V I U ao aj au q ⟨hw.pre h0 aR,hw.al,hw.ak9⟩;generalize nD N V I U au q=st at *;cases st
  ·simp only[aS,ax] at ef;simp only[Option.isSome_some,Option.isSome_none,Option.bind_some,Option.bind_none,BL];apply bu
   ·intro A;simp only[ak,ai,f35];simp only[go_sem,pa,jB,fj,ef,dv,dw,qn,Option.isSome_some,Option.isSome_none];rfl
   ·simp[WK,aS,ax]
  ·rename_i c;have ec:=mP c (Fb c rfl);simp only[aS,ax] at ef;simp only[Option.bind_some];have mj:bx c=aU c.ops c.ints c.strs c.U:=rfl;rw[← mj] at ec;generalize bx c=ck at *;cases ck
   ·simp only[cy,BL] at ec ⊢;apply bu
    ·intro A;simp only[ak,ai,f35];simp only[go_sem,pa,jB,fj,ef,ec,dv,dw,qn,Option.isSome_some,Option.isSome_none];rfl
    ·simp[WK,aS,ax]
   ·simp only[cy,BL] at ec ⊢;apply bu
    ·intro A;simp only[ak,ai,f35];simp only[go_sem,pa,jB,fj,ef,ec,dv,dw,qn,Option.isSome_some,Option.isSome_none];rfl
    ·simp[WK,aS,ax]
 ·skip
  have aR:q.toNat < N.length:=by simp[bF] at sP;omega
  have fL:gW N V I U ao aj au 4 q=iq N V I U q:=rfl;rw[fL] at Fb ⊢;have ef:=YJ N V I U ao aj au q ⟨hw.pre h0 aR,hw.jmp⟩;generalize iq N V I U q=st at *;cases st
  ·simp only[aS,ax] at ef;simp only[Option.isSome_some,Option.isSome_none,Option.bind_some,Option.bind_none,BL];apply bu
   ·intro A;simp only[ak,ai,f35];simp only[go_sem,pa,jB,fj,ef,dv,dw,qn,Option.isSome_some,Option.isSome_none];rfl
   ·simp[WK,aS,ax]
  ·rename_i c;have ec:=mP c (Fb c rfl);simp only[aS,ax] at ef;simp only[Option.bind_some];have mj:bx c=aU c.ops c.ints c.strs c.U:=rfl;rw[← mj] at ec;generalize bx c=ck at *;cases ck
   ·simp only[cy,BL] at ec ⊢;apply bu
    ·intro A;simp only[ak,ai,f35];simp only[go_sem,pa,jB,fj,ef,ec,dv,dw,qn,Option.isSome_some,Option.isSome_none];rfl
    ·simp[WK,aS,ax]
   ·simp only[cy,BL] at ec ⊢;apply bu
    ·intro A;simp only[ak,ai,f35];simp only[go_sem,pa,jB,fj,ef,ec,dv,dw,qn,Option.isSome_some,Option.isSome_none];rfl
    ·simp[WK,aS,ax]
 ·skip
  have aR:q.toNat < N.length:=by simp[bF] at sP;omega
  have fL:gW N V I U ao aj au 5 q=km N V I U aj q:=rfl;rw[fL] at Fb ⊢;have ef:=YI N V I U ao aj au q ⟨hw.pre h0 aR,by have:=hw.rl;omega⟩;generalize km N V I U aj q=st at *;cases st
  ·simp only[aS,ax] at ef;simp only[Option.isSome_some,Option.isSome_none,Option.bind_some,Option.bind_none,BL];apply bu
   ·intro A;simp only[ak,ai,f35];simp only[go_sem,pa,jB,fj,ef,dv,dw,qn,Option.isSome_some,Option.isSome_none];rfl
   ·simp[WK,aS,ax]
  ·rename_i c;have ec:=mP c (Fb c rfl);simp only[aS,ax] at ef;simp only[Option.bind_some];have mj:bx c=aU c.ops c.ints c.strs c.U:=rfl;rw[← mj] at ec;generalize bx c=ck at *;cases ck
   ·simp only[cy,BL] at ec ⊢;apply bu
    ·intro A;simp only[ak,ai,f35];simp only[go_sem,pa,jB,fj,ef,ec,dv,dw,qn,Option.isSome_some,Option.isSome_none];rfl
    ·simp[WK,aS,ax]
   ·simp only[cy,BL] at ec ⊢;apply bu
    ·intro A;simp only[ak,ai,f35];simp only[go_sem,pa,jB,fj,ef,ec,dv,dw,qn,Option.isSome_some,Option.isSome_none];rfl
    ·simp[WK,aS,ax]
 ·skip
  have aR:q.toNat < N.length:=by simp[bF] at sP;omega
  have fL:gW N V I U ao aj au 6 q=kn N V I U ao aj q:=rfl;rw[fL] at Fb ⊢;have ef:=Y0 N V I U ao aj au q ⟨hw,h0,aR⟩;generalize kn N V I U ao aj q=st at *;cases st
  ·simp only[aS,ax] at ef;simp only[Option.isSome_some,Option.isSome_none,Option.bind_some,Option.bind_none,BL];apply bu
   ·intro A;simp only[ak,ai,f35];simp only[go_sem,pa,jB,fj,ef,dv,dw,qn,Option.isSome_some,Option.isSome_none];rfl
   ·simp[WK,aS,ax]
  ·rename_i c;have ec:=mP c (Fb c rfl);simp only[aS,ax] at ef;simp only[Option.bind_some];have mj:bx c=aU c.ops c.ints c.strs c.U:=rfl;rw[← mj] at ec;generalize bx c=ck at *;cases ck
   ·simp only[cy,BL] at ec ⊢;apply bu
    ·intro A;simp only[ak,ai,f35];simp only[go_sem,pa,jB,fj,ef,ec,dv,dw,qn,Option.isSome_some,Option.isSome_none];rfl
    ·simp[WK,aS,ax]
   ·simp only[cy,BL] at ec ⊢;apply bu
    ·intro A;simp only[ak,ai,f35];simp only[go_sem,pa,jB,fj,ef,ec,dv,dw,qn,Option.isSome_some,Option.isSome_none];rfl
    ·simp[WK,aS,ax]
 ·skip
  have aR:q.toNat < N.length:=by simp[bF] at sP;omega
  have fL:gW N V I U ao aj au 7 q=kp N V I U ao aj q:=rfl;rw[fL] at Fb ⊢;have ef:=Y9 N V I U ao aj au q ⟨hw,h0,aR⟩;generalize kp N V I U ao aj q=st at *;cases st
  ·simp only[aS,ax] at ef;simp only[Option.isSome_some,Option.isSome_none,Option.bind_some,Option.bind_none,BL];apply bu
   ·intro A;simp only[ak,ai,f35];simp only[go_sem,pa,jB,fj,ef,dv,dw,qn,Option.isSome_some,Option.isSome_none];rfl
   ·simp[WK,aS,ax]
  ·rename_i c;have ec:=mP c (Fb c rfl);simp only[aS,ax] at ef;simp only[Option.bind_some];have mj:bx c=aU c.ops c.ints c.strs c.U:=rfl;rw[← mj] at ec;generalize bx c=ck at *;cases ck
   ·simp only[cy,BL] at ec ⊢;apply bu
    ·intro A;simp only[ak,ai,f35];simp only[go_sem,pa,jB,fj,ef,ec,dv,dw,qn,Option.isSome_some,Option.isSome_none];rfl
    ·simp[WK,aS,ax]
   ·simp only[cy,BL] at ec ⊢;apply bu
    ·intro A;simp only[ak,ai,f35];simp only[go_sem,pa,jB,fj,ef,ec,dv,dw,qn,Option.isSome_some,Option.isSome_none];rfl
    ·simp[WK,aS,ax]
 ·skip
  have aR:q.toNat < V.length+I.length:=by simp[bF] at sP;omega
  have fL:gW N V I U ao aj au 8 q=nC N V I U q:=rfl;rw[fL] at Fb ⊢;have ef:=YZ N V I U ao aj au q ⟨hw,h0,aR⟩;generalize nC N V I U q=st at *;cases st
  ·simp only[aS,ax] at ef;simp only[Option.isSome_some,Option.isSome_none,Option.bind_some,Option.bind_none,BL];apply bu
   ·intro A;simp only[ak,ai,f35];simp only[go_sem,pa,jB,fj,ef,dv,dw,qn,Option.isSome_some,Option.isSome_none];rfl
   ·simp[WK,aS,ax]
  ·rename_i c;have ec:=mP c (Fb c rfl);simp only[aS,ax] at ef;simp only[Option.bind_some];have mj:bx c=aU c.ops c.ints c.strs c.U:=rfl;rw[← mj] at ec;generalize bx c=ck at *;cases ck
   ·simp only[cy,BL] at ec ⊢;apply bu
    ·intro A;simp only[ak,ai,f35];simp only[go_sem,pa,jB,fj,ef,ec,dv,dw,qn,Option.isSome_some,Option.isSome_none];rfl
    ·simp[WK,aS,ax]
   ·simp only[cy,BL] at ec ⊢;apply bu
    ·intro A;simp only[ak,ai,f35];simp only[go_sem,pa,jB,fj,ef,ec,dv,dw,qn,Option.isSome_some,Option.isSome_none];rfl
    ·simp[WK,aS,ax]
noncomputable def Cb:=bk (α:=(List bp) × (List Int) × (List ByteArray) × (List aP) × (List (List aB)) × (List Bool) × (List Int) × Int × Int) (fun (N,V,I,U,ao,aj,au,rule,q)=>XA N V I U ao aj au) (fun (N,V,I,U,ao,aj,au,rule,q)=>[(wv N V I U ao aj au),.st 29 [J rule,J q]]) (fun (N,V,I,U,ao,aj,au,rule,q)=>aS (eD N V I U ao aj au rule q))
theorem GG (rule q:Int) (hp:XA N V I U ao aj au):Cb [(wv N V I U ao aj au),.st 29 [J rule,J q]]=some (aS (eD N V I U ao aj au rule q)):=aJ (fun X Y hp bZ h'=>by
 obtain⟨N,V,I,U,ao,aj,au,rule,q⟩:=X;obtain⟨c7,bJ,bL,bK,gm,eW,jj,UH,q'⟩:=Y;simp only[cJ] at h';obtain⟨rfl,rfl,rfl,rfl,rfl,rfl,rfl,rfl,rfl⟩:=h';rfl) (N,V,I,U,ao,aj,au,rule,q) hp
theorem UI:cI 35 Cb:=aE h35 rfl rfl fun (N,V,I,U,ao,aj,au,rule,q) hp=>let ⟨_,hw,hr⟩:=agj N V I U ao aj au rule q hp;(rc h35 hr (fun i=>match i with | 1=>[0,0,2,7,15,31,31,63,255] | 2=>[0,1,3,7,15,31,63,127,255,511,255,255,2303,7423,16383,32767] | _=>[]) rfl rfl rfl (by kernel_rfl) ⟨aei,Uq,Ex,ae5,afc,aft,aeY,aeV,afa,afh,ae9,trivial⟩ trivial).eK hw
end Go.Proofs.Tryz
end
section
namespace Go.Proofs.Tryz
open Go Go.Abs
theorem gA (x:Int):bM (IntKind.i64.wrap x):=by
 have e:IntKind.i64.wrap x=if (IntKind.i64.signed&&decide (x % (2 ^ 64:Int) ≥ (2 ^ 63:Int)))=true then x % (2 ^ 64:Int) - (2 ^ 64:Int) else x % (2 ^ 64:Int):=rfl
 have hs:IntKind.i64.signed=true:=rfl;rw[e];simp only[hs,Bool.true_and,decide_eq_true_eq,ge_iff_le];unfold bM;split <;> omega
theorem r8 (op:BinOp) (x y:Int):bM (bV op .i64 x y):=gA _
theorem Sj (x y:Int):bM (yL .i64 x y):=gA _
theorem OM {a:Int} (h:bM a) (b:Int):bM (a.tmod b):=by
 unfold bM at *;have h1:=Int.natAbs_tmod a b;have h2:=Nat.mod_le a.natAbs b.natAbs;rcases Int.le_total 0 a with ha | ha
 ·have:=Int.tmod_nonneg b ha;omega
 ·have h3:(-a).tmod b = -(a.tmod b):=Int.neg_tmod a b;have h4:=Int.tmod_nonneg b (show 0≤ -a by omega);omega
theorem Sk {a:Int} (h:bM a) (y:Int):bM (su .i64 a y):=by
 unfold bM su at *;have hp:(0:Int) < 2 ^ (min y.toNat IntKind.i64.bits):=Int.pow_pos (by decide);generalize (2:Int) ^ (min y.toNat IntKind.i64.bits)=d at *;rw[Int.fdiv_eq_ediv_of_nonneg _ (Int.le_of_lt hp)];constructor
 ·refine (Int.le_ediv_iff_mul_le hp).2 ?_;omega
 ·refine Int.ediv_le_of_le_mul hp ?_;omega
theorem Kj {f:FuncId} {v:Int} (h:bM v):bM (IL f v):=by
 unfold IL;repeat' split
 all_goals first | exact gA _ | exact h | (unfold bM;omega)
theorem Sl {o a b:Int} (ha:bM a):bM (eo o a b).1:=by
 have h0:bM 0:=by unfold bM;omega
 have h1:bM 1:=by unfold bM;omega
 have hi:∀ (c:Prop) [Decidable c] (x y:Int),bM x→bM y→bM (if c then x else y):=fun c _ x y hx hy=>by split <;> assumption
 have hd:bM (rT o a b):=hi _ _ _ (gA _) (hi _ _ _ (gA _) (hi _ _ _ (gA _) (OM ha b)));have hk:∀ (c:Prop) [Decidable c] (x y:Int × Int),bM x.1→bM y.1→bM (if c then x else y).1:=fun c _ x y hx hy=>by split <;> assumption
 unfold eo;refine hk _ _ _ (gA _) (hk _ _ _ (gA _) (hk _ _ _ (gA _) ?_));refine hk _ _ _ (hk _ _ _ h0 hd) (hk _ _ _ (hk _ _ _ h0 hd) (hk _ _ _ (hk _ _ _ h0 hd) (hk _ _ _ (hk _ _ _ h0 hd) ?_)));refine hk _ _ _ (r8 .and a b) (hk _ _ _ (r8 .or a b) (hk _ _ _ (r8 .xor a b) ?_));refine hk _ _ _ (Sj a _) (hk _ _ _ (gA _) (hk _ _ _ (Sk ha _) ?_));refine hk _ _ _ (gA _) (hk _ _ _ (r8 .xor (-1) a) (hk _ _ _ ?_ ?_))
 ·split
  ·exact h0
  ·exact hi _ _ _ (Kj ha) h0
 exact hk _ _ _ (hi _ _ _ h1 h0) (hk _ _ _ (hi _ _ _ h1 h0) (hk _ _ _ (hi _ _ _ h1 h0) h0))
structure gO (N:List bp) (V:List Int) (I:List ByteArray) (U:List aP):Prop where
 lim:N.length≤100000∧V.length≤100000∧I.length≤100000∧U.length≤100000
 str:∀ r ∈ U,r.str.size≤9223372036854775807∧r.mem.size≤9223372036854775807
 vE:∀ o ∈ N,bM o.n
 int:∀ x ∈ V,bM x
theorem gO.ak_ {N:List bp} {V:List Int} {I:List ByteArray} {U:List aP} (h:gO N V I U) (i:Nat):bM (V.getD i 0):=by
 rcases Nat.lt_or_ge i V.length with hi | hi
 ·exact h.int _ (gK hi)
 ·rw[List.getD_eq_getElem?_getD,List.getElem?_eq_none hi];unfold bM;simp
theorem gO.agk {N:List bp} {V:List Int} {I:List ByteArray} {U:List aP} (h:gO N V I U) (i:Nat):bM (N.getD i bD).n:=by
 rcases Nat.lt_or_ge i N.length with hi | hi
 ·exact h.vE _ (gK hi)
 ·rw[List.getD_eq_getElem?_getD,List.getElem?_eq_none hi];unfold bM;simp[bD]
def FR (f:List aB):Prop:=∀ x ∈ f,bM x.n
theorem FR.set {f:List aB} (h:FR f) {i:Nat} {s n:Int} (hn:bM n):FR (f.set i ⟨s,n⟩):=fun x hx=>by
 rcases List.mem_or_eq_of_mem_set hx with h1 | h1
 ·exact h x h1
 ·subst h1;exact hn
theorem GH:bM 0:=by unfold bM;omega
theorem FR.getD {f:List aB} (h:FR f) (i:Nat):bM (f.getD i ⟨0,0⟩).n:=by
 rcases Nat.lt_or_ge i f.length with hi | hi
 ·exact h _ (eP hi)
 ·rw[List.getD_eq_getElem?_getD,List.getElem?_eq_none hi];exact GH
theorem Kk {N:List bp} {V:List Int} {I:List ByteArray} {U:List aP} (de:gO N V I U) {f:List aB} (h:FR f) {q:Int} (hq:0≤(N.getD q.toNat bD).a∧(N.getD q.toNat bD).a.toNat < 8):FR (eY N V U f q):=by
 have hon:=de.agk q.toNat;have hc:FR ((f.map (kr (N.getD q.toNat bD).d)).set (N.getD q.toNat bD).d.toNat ⟨0,0⟩):=by
  refine FR.set (fun x hx=>?_) GH;obtain⟨y,h1,rfl⟩:=List.mem_map.1 hx;unfold kr;split
  ·exact GH
  ·exact h y h1
 unfold eY;dsimp only;generalize N.getD q.toNat bD=o at *;have hm:bM (gu (f.getD o.a.toNat ⟨0,0⟩).sort (f.getD o.a.toNat ⟨0,0⟩).n o.d o.a).2:=by
  have hg:=h.getD o.a.toNat;unfold gu;repeat' split
  all_goals first | exact hg | exact GH | (unfold bM;dsimp only;omega)
 have h8:bM 8:=by unfold bM;omega
 have UJ:bM (-8):=by unfold bM;omega
 repeat' split
 all_goals first | exact h | exact hc | exact hc.set hon | exact hc.set h8 | exact hc.set UJ | exact hc.set hm | exact hc.set (de.ak_ _)
theorem Sm {a b:List aB} (h:FR a):FR (js a b):=by
 intro x hx;unfold js at hx;obtain⟨i,hi,rfl⟩:=List.getElem_of_mem hx;rw[List.getElem_zipWith];unfold uV;split
 ·exact GH
 ·exact h _ (List.getElem_mem _)
def SR (s:List (List aB) × List Bool):Prop:=∀ f ∈ s.1,FR f
theorem SR.getD {s:List (List aB) × List Bool} (h:SR s) (i:Nat):FR (s.1.getD i []):=by
 rcases Nat.lt_or_ge i s.1.length with hi | hi
 ·exact h _ (gK hi)
 ·rw[List.getD_eq_getElem?_getD,List.getElem?_eq_none hi];intro x hx;simp at hx
theorem SR.set {s:List (List aB) × List Bool} (h:SR s) {i:Nat} {f:List aB} (hf:FR f) (r:List Bool):SR (s.1.set i f,r):=fun g hg=>by
 rcases List.mem_or_eq_of_mem_set hg with h1 | h1
 ·exact h g h1
 ·subst h1;exact hf
theorem IV {out:List aB} (ho:FR out):∀ (l:List Int) (s:List (List aB) × List Bool),SR s→SR (l.foldl (lF out) s)
 | [],s,h=>h
 | k::l,s,h=>by
   rw[List.foldl_cons];refine IV ho l _ ?_;unfold lF;split
   ·exact h.set (Sm (h.getD _)) _
   ·exact h.set ho _
theorem IW {N:List bp} {V:List Int} {I:List ByteArray} {U:List aP} (de:gO N V I U) (Gm:∀ i,i < N.length→0≤(N.getD i bD).a∧(N.getD i bD).a.toNat < 8):∀ (m i:Nat) (s:List (List aB) × List Bool),i+m≤N.length→SR s→SR (dT N V U m i s)
 | 0,_,s,_,h=>h
 | m+1,i,s,hi,h=>by
   rw[dT];refine IW de Gm m (i+1) _ (by omega) ?_;unfold qc;split
   ·exact IV (Kk de (h.getD _) (by rw[Int.toNat_natCast];exact Gm i (by omega))) _ _ h
   ·exact h
theorem ON (n:Nat):SR (gz n):=fun f hf=>by
 simp only[gz,List.mem_replicate] at hf;rw[hf.2];intro x hx;rw[(List.mem_replicate.1 hx).2];exact GH
theorem yn {N:List bp} {V:List Int} {I:List ByteArray} {U:List aP} (h:aU N V I U=true):V.length≤200∧I.length≤200∧U.length≤500:=by
 unfold aU at h;split at h
 ·split at h
  ·cases h
  ·rename_i h2;split at h
   ·cases h
   ·rename_i h3;split at h
    ·cases h
    ·rename_i h4;simp only[decide_eq_true_eq] at h2 h3 h4;omega
 ·cases h
theorem nr {N:List bp} {V:List Int} {I:List ByteArray} {U:List aP} (de:gO N V I U) (hc:aU N V I U=true) :
 XA N V I U (bz N V U).1 (bz N V U).2 (cz N):=by
 have hg:=dQ hc;have ke:=np (V:=V) (U:=U) hg;have hi:=yn hc;have gU:∀ i,i < N.length→Oy N.length V.length I.length (i:Int) (N.getD i bD):=fun i h=>by
  have:=jr (hg.right i h)
  rwa [Int.toNat_natCast] at this
 have hsr:SR (bz N V U):=IW de (fun i h=>(gU i h).a) _ _ _ (by omega) (ON _);exact {
  lim:=de.lim,i200:=hi.1,bl:=ke.1,rl:=ke.2.1,al:=jI N
  b8:=fun i h=>ke.get h
  op:=fun i h=>⟨(gU i h).a,(gU i h).b,(gU i h).d⟩
  vE:=de.vE
  fn:=fun i h=>hsr.getD i
  rel:=fun r hr=>by
   obtain⟨i,hi,e⟩:=List.getElem_of_mem hr;have h1:=hg.rel i hi;unfold fU at h1;dsimp only at h1;rw[Int.toNat_natCast,List.getD_eq_getElem?_getD,List.getElem?_eq_getElem hi,e] at h1;simp only[Option.getD_some] at h1;split at h1
   ·cases h1
   ·rename_i h2;simp only[Bool.or_eq_true,Bool.not_eq_true',Bool.and_eq_false_iff,decide_eq_false_iff_not,not_or] at h2;have:=hg.pos;omega
  jmp:=fun o ho hj=>by
   obtain⟨i,hi,e⟩:=List.getElem_of_mem ho;have h1:=gU i hi;rw[List.getD_eq_getElem?_getD,List.getElem?_eq_getElem hi,e] at h1;simp only[Option.getD_some] at h1;have:=s5 h1.fit (by simpa using hj);omega
  str:=de.str }
structure K6 (c:aL):Prop where
 o:∀ o ∈ c.ops,bM o.n
 i:∀ x ∈ c.ints,bM x
section
variable {N:List bp} {V:List Int} {I:List ByteArray} {U:List aP} {ao:List (List aB)} {aj:List Bool} {au:List Int} {q:Int} {c:aL}
theorem oP (de:gO N V I U) {k:Nat} {o:bp} (ho:bM o.n) (h:some (⟨N.set k o,V,I,U⟩:aL)=some c):K6 c:=by
 injection h with h;subst h
 refine⟨fun x hx=>?_,de.int⟩;rcases List.mem_or_eq_of_mem_set hx with h1 | h1
 ·exact de.vE x h1
 ·subst h1;exact ho
theorem Cc (de:gO N V I U) (hq:0≤q) (h:some (cf N V I U q)=some c):K6 c:=by
 injection h with h;subst h
 refine⟨fun x hx=>?_,de.int⟩;simp only[cf,List.mem_map] at hx;obtain⟨y,h1,rfl⟩:=hx;have hy:=de.vE y (List.mem_of_mem_eraseIdx h1);unfold me;split
 ·rename_i h2;simp only[Bool.and_eq_true,decide_eq_true_eq] at h2;unfold bM at *;dsimp only;omega
 ·exact hy
theorem IX (de:gO N V I U) {d n:Int} (hn:bM n) (h:cQ N V I U q d n=some c):K6 c:=by
 have hl:=de.lim;have hf:=sU (oX N V U n) V.length 0;have hi:∀ (k:Nat),k≤100000→bM (k:Int):=fun k hk=>by unfold bM;omega
 unfold cQ at h;split at h
 ·split at h
  ·cases h
  ·injection h with h;subst h
   refine⟨fun x hx=>?_,fun x hx=>?_⟩
   ·rcases List.mem_or_eq_of_mem_set hx with h1 | h1
    ·exact de.vE x h1
    ·subst h1;exact hi _ hl.2.1
   ·rcases List.mem_append.1 hx with h1 | h1
    ·exact de.int x h1
    ·simp only[List.mem_singleton] at h1;subst h1;exact hn
 ·exact oP de (hi _ (by omega)) h
theorem OO (de:gO N V I U) {p i s:Int} (hi:0≤i) (hs:bM s) {bJ:List Int} {bL:List ByteArray} (zp:∀ x ∈ bJ,bM x) (h:some (⟨N.map (fg p i s),bJ,bL,U⟩:aL)=some c):K6 c:=by
 injection h with h;subst h
 refine⟨fun x hx=>?_,zp⟩;obtain⟨y,h1,rfl⟩:=List.mem_map.1 hx;have hy:=de.vE y h1;unfold fg;split
 ·split
  ·exact hs
  ·split
   ·rename_i h2;simp only[decide_eq_true_eq] at h2;unfold bM at *;dsimp only;omega
   ·exact hy
 ·exact hy
theorem Kl (p:Nat→Bool) (i:Nat) (hi:i≤100000) (s:Int):bM (iT p i s):=by
 unfold iT bM;split
 ·omega
 ·split <;> omega
theorem Km {α:Type} (p:α→Bool) (l:List α) (hl:l.length≤100000):bM (bf p l 0):=by
 rcases jF p l 0 with ⟨h,_⟩|⟨k,h1,h,_⟩ <;> rw[h] <;> unfold bM <;> omega
theorem OP (hw:XA N V I U ao aj au) (de:gO N V I U) {rule:Int} (h0:0≤q) (hq:q < bF N V I rule) (h:gW N V I U ao aj au rule q=some c):K6 c:=by
 have hl:=de.lim;have K0:bF N V I rule≤200000:=by unfold bF;split <;> omega
 have fj:bM (q+1):=by unfold bM;omega
 have h0':bM 0:=GH;have Zs:(rule==8)=false→q.toNat < N.length:=fun h8=>by
  have:rule ≠ 8:=by simpa using h8
  unfold bF at hq;rw[if_neg this] at hq;omega
 have hO:=de.agk;have hfa:(rule==8)=false→bM (cP ao q (N.getD q.toNat bD).a).n∧bM (cP ao q (N.getD q.toNat bD).b).n:=fun h8=>by
  have:=hw.op _ (Zs h8);exact⟨hw.fact (Zs h8) this.1.2,hw.fact (Zs h8) this.2.1.2⟩
 have hO':=hO q.toNat;have hint:=de.int;have hint':∀ x ∈ V.eraseIdx q.toNat,bM x:=fun x hx=>hint x (List.mem_of_mem_eraseIdx hx)
 revert h;unfold gW;by_cases h8:(rule==8)=true
 ·have hr:rule=8:=by simpa using h8
  subst hr;rw[if_neg (by decide),if_neg (by decide),if_neg (by decide),if_neg (by decide),if_neg (by decide),if_neg (by decide),if_neg (by decide),if_pos (by decide)];unfold nC;have hp8:q < (V.length+I.length:Int):=hq;by_cases yH:decide (q < (V.length:Int))=true
  ·rw[if_pos yH];refine cg (fun h=>by cases h) fun h=>OO de h0 ?_ hint' h
   unfold AK;split
   ·unfold bM;omega
   ·refine Kl _ _ ?_ _;simp at yH;omega
  ·rw[if_neg yH];simp only[decide_eq_true_eq] at yH;refine cg (fun h=>by cases h) fun h=>OO de (by omega) ?_ hint h
   exact Km _ _ (by rw[List.length_take];omega)
 ·have UJ:(rule==8)=false:=by simpa using h8
  obtain⟨ha,hb⟩:=hfa UJ;have hmv:∀ d a:Int,bM (⟨3,d,a,0,0⟩:bp).n:=fun _ _=>h0'
  simp only[UJ,Bool.false_eq_true,if_false];refine cg ?_ (cg ?_ (cg ?_ (cg ?_ (cg ?_ (cg ?_ (cg ?_ (fun h=>by cases h)))))))
  ·unfold nB;dsimp only;have FY:∀ (o b:Int) (known:Bool) (x:bp),oh N V I U q x (cP ao q (N.getD q.toNat bD).a).n b known=some c→K6 c:=fun o b known x h=>by
    unfold oh at h;split at h
    ·split at h
     ·exact IX de (Sl ha) h
     ·cases h
    ·cases h
   split
   ·split
    ·intro h;cases h
    ·split
     ·split
      ·refine oP de ?_;dsimp only;split
       ·exact fj
       ·exact hO'
      ·intro h;cases h
     ·split
      ·exact FY 0 _ _ _
      ·split
       ·exact FY 0 _ _ _
       ·split
        ·exact FY 0 _ _ _
        ·split
         ·exact FY 0 _ _ _
         ·intro h;cases h
   ·intro h;cases h
  ·unfold ir;dsimp only;split
   ·split
    ·exact oP de hO'
    ·intro h;cases h
   ·intro h;cases h
  ·unfold nD;dsimp only;split
   ·intro h;cases h
   ·exact Cc de h0
  ·unfold iq;dsimp only;split
   ·split
    ·exact oP de (hO _)
    ·split
     ·exact Cc de h0
     ·intro h;cases h
   ·intro h;cases h
  ·unfold km;split
   ·intro h;cases h
   ·exact Cc de h0
  ·unfold kn;dsimp only;split
   ·split
    ·intro h;cases h
    ·exact oP de h0'
   ·intro h;cases h
  ·have hi:∀ (p:Prop) [Decidable p] (a b:Option aL),(a=some c→K6 c)→(b=some c→K6 c)→(if p then a else b)=some c→K6 c:=fun p _ a b h1 h2=>cg h1 h2
   have hm:∀ d a:Int,g_ N V I U q d a=some c→K6 c:=fun d a h=>oP de (hmv d a) h
   have hp:∀ d:Int,cQ N V I U q d 0=some c→K6 c:=fun d h=>IX de h0' h
   have hn:(none:Option aL)=some c→K6 c:=fun h=>by cases h
   unfold kp;dsimp only;exact hi _ _ _ (hi _ _ _ hn (hi _ _ _ hn (hi _ _ _ (hm _ _) (hi _ _ _ (hm _ _) (hi _ _ _ (hm _ _) (hi _ _ _ (hm _ _) (hi _ _ _ (hm _ _) (hi _ _ _ (hm _ _) (hi _ _ _ (hp _) (hi _ _ _ (hp _) (hi _ _ _ (hp _) (hi _ _ _ (hi _ _ _ (hp _) hn) hn)))))))))))) hn
theorem IY (hw:XA N V I U ao aj au) (de:gO N V I U) {rule:Int} (h0:0≤q) (hq:q < bF N V I rule) (h:gW N V I U ao aj au rule q=some c):gO c.ops c.ints c.strs c.U:=by
 have hk:=ym h;have hr:=OP hw de h0 hq h;have hp:=hw.UG hk;exact⟨hp.1,hp.2,hr.o,hr.i⟩
theorem OQ (hw:XA N V I U ao aj au) (de:gO N V I U) {rule:Int} (h:eD N V I U ao aj au rule q=some c):gO c.ops c.ints c.strs c.U∧bx c=true:=by
 unfold eD at h;split at h
 ·split at h
  ·cases h
  ·rename_i h1;split at h
   ·cases h
   ·rename_i h2;simp only[decide_eq_true_eq] at h1 h2;cases hs:gW N V I U ao aj au rule q with
    | none=>rw[hs] at h;cases h
    | some c'=>
      rw[hs] at h;simp only[Option.bind_some] at h;split at h
      ·rename_i hc;injection h with h;subst h
       exact⟨IY hw de (by omega) (by omega) hs,hc⟩
      ·cases h
 ·cases h
end
end Go.Proofs.Tryz
end
section
set_option maxHeartbeats 4000000
set_option maxRecDepth 20000
namespace Go.Proofs.Tryz
open Go Go.Abs
variable (N : List bp) (V : List Int) (I : List ByteArray) (U : List aP) (ao : List (List aB)) (aj : List Bool) (au : List Int)
def s9 (N:List bp) (V:List Int) (I:List ByteArray) (U:List aP) (rule q:Int):Option aL:=eD N V I U (bz N V U).1 (bz N V U).2 (cz N) rule q
def jt (N:List bp) (V:List Int) (I:List ByteArray) (U:List aP) (rule q:Int):Option aL × Int:=
 if aU N V I U=true then (match s9 N V I U rule q with | some c=>(some c,0) | none=>(none,170)) else (none,150)
def AY (r:Option aL × Int):AV:= .cE [ax (r.1.getD ⟨[],[],[],[]⟩),J r.2]
theorem cT:Q 11=some f11:=by kernel_rfl
def D11:Nat→Option (List DH × List Nat):=fun i=>match i with | 4=>some ([⟨[7],[],[7]⟩,⟨[7],[],[7]⟩,⟨[7],[],[7]⟩,⟨[7],[],[7]⟩,⟨[7],[],[7]⟩,⟨[7],[],[7]⟩,⟨[7],[],[7]⟩,⟨[],[7],[]⟩,⟨[],[7],[]⟩,⟨[],[],[]⟩],[7]) | _=>none
theorem UK:D11 4=some ([⟨[7],[],[7]⟩,⟨[7],[],[7]⟩,⟨[7],[],[7]⟩,⟨[7],[],[7]⟩,⟨[7],[],[7]⟩,⟨[7],[],[7]⟩,⟨[7],[],[7]⟩,⟨[],[7],[]⟩,⟨[],[7],[]⟩,⟨[],[],[]⟩],[7]):=rfl
theorem agm (rule q:Int) (hp:gO N V I U) :∃ r,wk r (AY (jt N V I U rule q))∧∀ A,ak (env 26 8393215 D11 [(33,o_),(34,qe),(35,Cb)] [] A) hN (5) f11 [(cd N V I U),.st 29 [J rule,J q]]=some r:=by
 have mP:=qb N V I U ⟨hp.lim,hp.str⟩;unfold jt;cases hc:aU N V I U
 ·rw[hc] at mP;simp only[cy,BL] at mP ⊢;have Sn:=trivial;have Kn:=trivial;apply bu
  ·intro A;simp only[ak,ai,f11];simp only[go_sem,UK,mP,Sn,Kn];rfl
  ·simp[WK,aS,ax,AY]
 ·have Sn:=B_ N V I U ⟨⟨hp.lim,hp.str⟩,hc⟩;have Kn:=GG N V I U (bz N V U).1 (bz N V U).2 (cz N) rule q (nr hp hc);rw[hc] at mP;simp only[cy,BL] at mP ⊢;have hw:s9 N V I U rule q=eD N V I U (bz N V U).1 (bz N V U).2 (cz N) rule q:=rfl;rw[← hw] at Kn;generalize s9 N V I U rule q=ap at *;cases ap;all_goals
   simp only[aS,ax] at Kn;apply bu
   ·intro A;simp only[ak,ai,f11];simp only[go_sem,UK,mP,Sn,Kn];rfl
   ·simp[WK,aS,ax,AY]
noncomputable def Zt:=bk (α:=(List bp) × (List Int) × (List ByteArray) × (List aP) × Int × Int) (fun (N,V,I,U,rule,q)=>gO N V I U) (fun (N,V,I,U,rule,q)=>[(cd N V I U),.st 29 [J rule,J q]]) (fun (N,V,I,U,rule,q)=>AY (jt N V I U rule q))
theorem Cd (rule q:Int) (hp:gO N V I U):Zt [(cd N V I U),.st 29 [J rule,J q]]=some (AY (jt N V I U rule q)):=aJ (fun X Y hp bZ h'=>by
 obtain⟨N,V,I,U,rule,q⟩:=X;obtain⟨c7,bJ,bL,bK,UH,q'⟩:=Y;simp only[cJ] at h';obtain⟨rfl,rfl,rfl,rfl,rfl,rfl⟩:=h';rfl) (N,V,I,U,rule,q) hp
theorem UL:cI 11 Zt:=aE cT rfl rfl fun (N,V,I,U,rule,q) hp=>let ⟨_,hw,hr⟩:=agm N V I U rule q hp;(rc cT hr (fun i=>match i with | 4=>[0,1,0,7,15,31,31,0,191,511] | _=>[]) rfl rfl rfl (by kernel_rfl) ⟨Ex,OG,UI,trivial⟩ trivial).eK hw
theorem mf:Q 14=some f14:=by kernel_rfl
theorem agn (rule q:Int) (hp:gO N V I U) (A:NP):ak (env 14 95 D0 [(11,Zt)] [] A) hN (5) f14 [(cd N V I U),.st 29 [J rule,J q]]=some (J (jt N V I U rule q).2):=by
 have e11:=Cd N V I U rule q hp;simp only[AY,ax] at e11;generalize jt N V I U rule q=ap at *;generalize ap.1.getD ⟨[],[],[],[]⟩=cc at *;simp only[ak,ai,f14];simp only[go_sem,e11]
noncomputable def c14:=bk (α:=(List bp) × (List Int) × (List ByteArray) × (List aP) × Int × Int) (fun (N,V,I,U,rule,q)=>gO N V I U) (fun (N,V,I,U,rule,q)=>[(cd N V I U),.st 29 [J rule,J q]]) (fun (N,V,I,U,rule,q)=>J (jt N V I U rule q).2)
theorem Zu (rule q:Int) (hp:gO N V I U):c14 [(cd N V I U),.st 29 [J rule,J q]]=some (J (jt N V I U rule q).2):=aJ (fun X Y hp bZ h'=>by
 obtain⟨N,V,I,U,rule,q⟩:=X;obtain⟨c7,bJ,bL,bK,UH,q'⟩:=Y;simp only[cJ] at h';obtain⟨rfl,rfl,rfl,rfl,rfl,rfl⟩:=h';rfl) (N,V,I,U,rule,q) hp
theorem ago:cI 14 c14:=aE mf rfl rfl fun (N,V,I,U,rule,q) hp=>rc mf (fun A=>agn N V I U rule q hp A) (fun _=>[]) rfl rfl rfl (by kernel_rfl) ⟨UL,trivial⟩ trivial
theorem h72:Q 72=some f72:=by kernel_rfl
def K7:Nat→Hint:=fun _=>{ tm:=[],ob:=[] }
theorem agp  (A:NP):a9 (env 36 17179984635 D0 [(35,Cb),(63,BS)] [] A) K7 5 (sub (f72.body.getD .skip) [0]) ⟨[(0,.undef),(1,.ro false 83 ((wv N V I U ao aj au)))],[]⟩=some (.norm,⟨[(3,J 1),(0,.undef),(1,.ro false 83 ((wv N V I U ao aj au)))],[]⟩):=by
 simp only[f72,sub,Option.getD_some];simp only[go_sem,sub,Option.getD_some];try rfl
theorem agq (r:Int) (hr:decide (r≤8)=true) (A:NP):a9 (env 36 17179984635 D0 [(35,Cb),(63,BS)] [] A) K7 5 (sub (f72.body.getD .skip) [1,0,0,0]) ⟨[(0,.undef),(1,.ro false 83 ((wv N V I U ao aj au))),(3,J r)],[]⟩=some (.norm,⟨[(9,.bool true),(0,.undef),(1,.ro false 83 ((wv N V I U ao aj au))),(3,J r)],[]⟩):=by
 simp only[f72,sub,Option.getD_some];simp only[go_sem,sub,Option.getD_some,hr];try rfl
theorem Zv (r:Int) (hr:decide (r≤8)=false) (A:NP):a9 (env 36 17179984635 D0 [(35,Cb),(63,BS)] [] A) K7 5 (sub (f72.body.getD .skip) [1,0,0,0]) ⟨[(0,.undef),(1,.ro false 83 ((wv N V I U ao aj au))),(3,J r)],[]⟩=some (.exit 0,⟨[(9,.bool false),(0,.undef),(1,.ro false 83 ((wv N V I U ao aj au))),(3,J r)],[]⟩):=by
 simp only[f72,sub,Option.getD_some];simp only[go_sem,sub,Option.getD_some,hr];try rfl
theorem agr (r:Int) (hp:V.length≤100000∧I.length≤100000) (A:NP):a9 (env 36 17179984635 D0 [(35,Cb),(63,BS)] [] A) K7 5 (sub (f72.body.getD .skip) [1,0,0,1,0,0,0]) ⟨[(0,.undef),(1,.ro false 83 ((wv N V I U ao aj au))),(3,J r)],[]⟩=some (.norm,⟨[(15,J 0),(14,J (bF N V I r)),(0,.undef),(1,.ro false 83 ((wv N V I U ao aj au))),(3,J r)],[]⟩):=by
 simp only[f72,sub,Option.getD_some];have qn:=as9 N V I U ao aj au r hp;simp only[go_sem,sub,Option.getD_some,qn];try rfl
theorem ags (r p q:Int) (b:Bool) (hb:decide (q < p)=b) (A:NP):a9 (env 36 17179984635 D0 [(35,Cb),(63,BS)] [] A) K7 5 (sub (f72.body.getD .skip) [1,0,0,1,0,0,1,0,0,0]) ⟨[(0,.undef),(1,.ro false 83 ((wv N V I U ao aj au))),(3,J r),(14,J p),(15,J q)],[]⟩=some (.norm,⟨[(16,.bool b),(0,.undef),(1,.ro false 83 ((wv N V I U ao aj au))),(3,J r),(14,J p),(15,J q)],[]⟩):=by
 simp only[f72,sub,Option.getD_some];simp only[go_sem,sub,Option.getD_some,hb];try rfl
theorem agt (r p q:Int) (hp:XA N V I U ao aj au) (hn:eD N V I U ao aj au r q=none) (A:NP):a9 (env 36 17179984635 D0 [(35,Cb),(63,BS)] [] A) K7 5 (sub (f72.body.getD .skip) [1,0,0,1,0,0,1,0,0,1,1,0,0]) ⟨[(0,.undef),(1,.ro false 83 ((wv N V I U ao aj au))),(3,J r),(14,J p),(15,J q)],[]⟩=some (.norm,⟨[(34,.bool false),(7,.bool false),(6,pb 6 27),(5,pb 5 29),(4,J q),(0,.undef),(1,.ro false 83 ((wv N V I U ao aj au))),(3,J r),(14,J p),(15,J q)],[(6,⟨.box 27,false,[(cd ([]:List bp) ([]:List Int) ([]:List ByteArray) ([]:List aP))]⟩),(5,⟨.box 29,true,[.st 29 [J r,J q]]⟩)]⟩):=by
 simp only[f72,sub,Option.getD_some];have Kn:=GG N V I U ao aj au r q hp;rw[hn] at Kn;simp only[aS,ax] at Kn;simp only[go_sem,sub,Option.getD_some,Kn];try rfl
theorem agu (r p q:Int) (A:NP):a9 (env 36 17179984635 D0 [(35,Cb),(63,BS)] [] A) K7 5 (sub (f72.body.getD .skip) [1,0,0,1,0,0,1,0,0,1,1,0,0,0]) ⟨[(0,.undef),(1,.ro false 83 ((wv N V I U ao aj au))),(3,J r),(14,J p),(15,J q)],[]⟩=some (.norm,⟨[(4,J q),(0,.undef),(1,.ro false 83 ((wv N V I U ao aj au))),(3,J r),(14,J p),(15,J q)],[]⟩):=by
 simp only[f72,sub,Option.getD_some];simp only[go_sem,sub,Option.getD_some];try rfl
theorem agv (r p q:Int) (A:NP):a9 (env 36 17179984635 D0 [(35,Cb),(63,BS)] [] A) K7 5 (sub (f72.body.getD .skip) [1,0,0,1,0,0,1,0,0,1,1,0,0,1,0]) ⟨[(0,.undef),(1,.ro false 83 ((wv N V I U ao aj au))),(3,J r),(4,J q),(14,J p),(15,J q)],[]⟩=some (.norm,⟨[(5,pb 5 29),(0,.undef),(1,.ro false 83 ((wv N V I U ao aj au))),(3,J r),(4,J q),(14,J p),(15,J q)],[(5,⟨.box 29,true,[.st 29 [J r,J q]]⟩)]⟩):=by
 simp only[f72,sub,Option.getD_some];simp only[go_sem,sub,Option.getD_some];try rfl
theorem agw (r p q:Int) (c:aL) (hp:XA N V I U ao aj au) (hn:eD N V I U ao aj au r q=some c) (A:NP):a9 (env 36 17179984635 D0 [(35,Cb),(63,BS)] [] A) K7 5 (sub (f72.body.getD .skip) [1,0,0,1,0,0,1,0,0,1,1,0,0,1,1,0]) ⟨[(5,pb 5 29),(0,.undef),(1,.ro false 83 ((wv N V I U ao aj au))),(3,J r),(4,J q),(14,J p),(15,J q)],[(5,⟨.box 29,true,[.st 29 [J r,J q]]⟩)]⟩=some (.norm,⟨[(7,.bool true),(6,pb 6 27),(5,pb 5 29),(0,.undef),(1,.ro false 83 ((wv N V I U ao aj au))),(3,J r),(4,J q),(14,J p),(15,J q)],[(6,(bC c.ops c.ints c.strs c.U)),(5,⟨.box 29,true,[.st 29 [J r,J q]]⟩)]⟩):=by
 simp only[f72,sub,Option.getD_some];have Kn:=GG N V I U ao aj au r q hp;rw[hn] at Kn;simp only[aS,ax] at Kn;simp only[go_sem,sub,Option.getD_some,Kn];try rfl
theorem agx (r p q:Int) (hq:q+1 < 1000000) (h0:0≤q) (A:NP):a9 (env 36 17179984635 D0 [(35,Cb),(63,BS)] [] A) K7 5 (sub (f72.body.getD .skip) [1,0,0,1,0,0,1,0,0,1,1,1]) ⟨[(0,.undef),(1,.ro false 83 ((wv N V I U ao aj au))),(3,J r),(14,J p),(15,J q)],[]⟩=some (.norm,⟨[(15,J (q+1)),(0,.undef),(1,.ro false 83 ((wv N V I U ao aj au))),(3,J r),(14,J p)],[]⟩):=by
 simp only[f72,sub,Option.getD_some];have hw:IntKind.i64.wrap (q+1)=q+1:=wrap_i64 (by omega) (by omega);simp only[go_sem,sub,Option.getD_some,hw];try rfl
theorem agy (r:Int) (hq:r+1 < 1000000) (h0:0≤r) (A:NP):a9 (env 36 17179984635 D0 [(35,Cb),(63,BS)] [] A) K7 5 (sub (f72.body.getD .skip) [1,0,0,1,1]) ⟨[(0,.undef),(1,.ro false 83 ((wv N V I U ao aj au))),(3,J r)],[]⟩=some (.norm,⟨[(3,J (r+1)),(0,.undef),(1,.ro false 83 ((wv N V I U ao aj au)))],[]⟩):=by
 simp only[f72,sub,Option.getD_some];have hw:IntKind.i64.wrap (r+1)=r+1:=wrap_i64 (by omega) (by omega);simp only[go_sem,sub,Option.getD_some,hw];try rfl
noncomputable def kM:Array Oper:=match sub (f72.body.getD .skip) [1,0,0,1,0,0,1,0,0,1,1,0,0,1,1,1,0] with | .region _ N _=>N | _=>#[]
theorem agz (r p q:Int) (c:aL) (A:NP):gS (env 36 17179984635 D0 [(35,Cb),(63,BS)] [] A) kM.toList (kM.toList.take 2) ⟨[(7,.bool true),(6,pb 6 27),(5,pb 5 29),(0,.undef),(1,.ro false 83 ((wv N V I U ao aj au))),(3,J r),(4,J q),(14,J p),(15,J q)],[(6,(bC c.ops c.ints c.strs c.U)),(5,⟨.box 29,true,[.st 29 [J r,J q]]⟩)]⟩=some ⟨[(28,.bool true),(27,.bool true),(7,.bool true),(6,pb 6 27),(5,pb 5 29),(0,.undef),(1,.ro false 83 ((wv N V I U ao aj au))),(3,J r),(4,J q),(14,J p),(15,J q)],[(6,(bC c.ops c.ints c.strs c.U)),(5,⟨.box 29,true,[.st 29 [J r,J q]]⟩)]⟩:=by
 simp only[kM,f72,sub,Option.getD_some,List.take_succ_cons,List.take_zero];simp only[go_sem,sub,Option.getD_some]
theorem agA (r p q:Int) (c:aL) (A:NP):gS (env 36 17179984635 D0 [(35,Cb),(63,BS)] [] A) kM.toList ((kM.toList.drop 3).take 2) ⟨[(29,.undef),(28,.bool true),(27,.bool true),(7,.bool true),(6,pb 6 27),(5,pb 5 29),(0,.undef),(1,.ro false 83 ((wv N V I U ao aj au))),(3,J r),(4,J q),(14,J p),(15,J q)],[(6,(bC c.ops c.ints c.strs c.U)),(5,⟨.box 29,true,[.st 29 [J r,J q]]⟩)]⟩=some ⟨[(31,(cd c.ops c.ints c.strs c.U)),(30,.st 29 [J r,J q]),(29,.undef),(28,.bool true),(27,.bool true),(7,.bool true),(6,pb 6 27),(5,pb 5 29),(0,.undef),(1,.ro false 83 ((wv N V I U ao aj au))),(3,J r),(4,J q),(14,J p),(15,J q)],[(6,(bC c.ops c.ints c.strs c.U)),(5,⟨.box 29,true,[.st 29 [J r,J q]]⟩)]⟩:=by
 simp only[kM,f72,sub,Option.getD_some,List.take_succ_cons,List.take_zero,List.drop_succ_cons,List.drop_zero];simp only[go_sem,sub,Option.getD_some]
theorem agB (r p q:Int) (b:Bool) (A:NP):gS (env 36 17179984635 D0 [(35,Cb),(63,BS)] [] A) kM.toList (kM.toList.drop 6) ⟨[(0,.undef),(1,.ro false 83 ((wv N V I U ao aj au))),(3,J r),(14,J p),(15,J q),(28,.bool true),(32,.bool b)],[]⟩=some ⟨[(34,.bool !b),(33,.bool !b),(0,.undef),(1,.ro false 83 ((wv N V I U ao aj au))),(3,J r),(14,J p),(15,J q),(28,.bool true),(32,.bool b)],[]⟩:=by
 simp only[kM,f72,sub,Option.getD_some,List.drop_succ_cons,List.drop_zero];simp only[go_sem,sub,Option.getD_some]
end Go.Proofs.Tryz
end
section
namespace Go.Proofs.Tryz
open Go Go.Abs Go.RowKit
variable (N : List bp) (V : List Int) (I : List ByteArray) (U : List aP) (ao : List (List aB)) (aj : List Bool) (au : List Int)
def iD (ap:Int→Option aL) (r:Int):Nat→Int→List (Int × Int × aL)
 | 0,_=>[]
 | m+1,q=>(match ap q with | some c=>[(r,q,c)] | none=>[])++iD ap r m (q+1)
def iE (ap:Int→Int→Option aL) (pl:Int→Int):Nat→Int→List (Int × Int × aL)
 | 0,_=>[]
 | m+1,r=>iD (ap r) r (pl r).toNat 0++iE ap pl m (r+1)
def mi (s:Int × Int × aL):List AV:=[.st 29 [J s.1,J s.2.1],ax s.2.2]
abbrev Ko (N:List bp) (V:List Int) (I:List ByteArray) (U:List aP) (ao:List (List aB)) (aj:List Bool) (au:List Int):AV:=
 .ro false 106 (.st 106 [.st 27 [.sl 80 ⟨false,none,false⟩ (N.map dD),.sl 2 ⟨false,none,false⟩ (V.map eI),.sl 9 ⟨false,none,false⟩ (I.map eS),.sl 90 ⟨false,none,false⟩ (U.map b_)],.sl 119 ⟨true,none,false⟩ (ao.map aF),.sl 4 ⟨true,none,false⟩ (aj.map eB),.sl 109 ⟨true,none,false⟩ (au.map eU)])
noncomputable abbrev K8 (A:NP):Env:=env 36 17179984635 D0 [(35,Cb),(63,BS)] [] A
noncomputable abbrev nM (p:List Nat):Code:=sub (f72.body.getD .skip) p
theorem Kp (A:NP):cM Tryz.prog (K8 A):=kK (C:=[(35,Cb),(63,BS)]) (M:=[]) ⟨UI,Uq,trivial⟩ trivial
theorem agC:∃ id,nM [1,0,0,1,0,0,1,0,0,1,1,0,0] = .seq (nM [1,0,0,1,0,0,1,0,0,1,1,0,0,0]) (.seq (nM [1,0,0,1,0,0,1,0,0,1,1,0,0,1,0]) (.seq (nM [1,0,0,1,0,0,1,0,0,1,1,0,0,1,1,0])
 (.seq (.region id kM false) (.cond (.tmp 34) .ret .skip)))):=⟨_,rfl⟩
theorem Zw:f72.body=some (.seq (nM [0]) (.block 0 (.loop (.seq (nM [1,0,0,0]) (.seq (.block 1 (.seq (nM [1,0,0,1,0,0,0]) (.block 2 (.loop (.seq (nM [1,0,0,1,0,0,1,0,0,0]) (.seq (.cond (.tmp 16) .skip (.exit 2))
 (.seq (.block 3 (nM [1,0,0,1,0,0,1,0,0,1,1,0,0])) (nM [1,0,0,1,0,0,1,0,0,1,1,1])))))))) (nM [1,0,0,1,1])))))):=by kernel_rfl
theorem OS:(bQ [0,1] (nM [0])&&bQ [0,1] (nM [1,0,0,0])&&bQ [0,1] (nM [1,0,0,1,0,0,0])&&bQ [0,1] (nM [1,0,0,1,0,0,1,0,0,0])&&bQ [0,1] (nM [1,0,0,1,0,0,1,0,0,1,1,0,0])&&
 bQ [0,1] (nM [1,0,0,1,0,0,1,0,0,1,1,0,0,0])&&bQ [0,1] (nM [1,0,0,1,0,0,1,0,0,1,1,0,0,1,0])&&bQ [0,1] (nM [1,0,0,1,0,0,1,0,0,1,1,0,0,1,1,0])&&bQ [0,1] (nM [1,0,0,1,0,0,1,0,0,1,1,1])&&bQ [0,1] (nM [1,0,0,1,1]))=true:=by kernel_rfl
theorem Zx:List.range kM.size=List.range' 0 ((kM.toList.drop 0).take 2).length++[2,3,4,5,6,7]:=by kernel_rfl
theorem Zy:[3,4,5,6,7]=List.range' 3 ((kM.toList.drop 3).take 2).length++[5,6,7]:=by kernel_rfl
theorem Zz:[6,7]=List.range' 6 ((kM.toList.drop 6).take 2).length++[]:=by kernel_rfl
theorem ZA:(kM.toList.drop 6).take 2=kM.toList.drop 6:=by kernel_rfl
def quiet (S:List Nat) (l:List Oper):Bool:=l.all fun o=>oG o.op&&(match o.dst with | some t=> !S.contains t | none=>true)
theorem ZB:(quiet [0,1] ((kM.toList.drop 0).take 2)&&quiet [0,1,29] ((kM.toList.drop 3).take 2)&&quiet [0,1] ((kM.toList.drop 6).take 2))=true:=by kernel_rfl
theorem So:∃ o,kM[2]? = some o∧o.op = .move (.tmp 0)∧o.dst=some 29∧o.guard=some (1,true):=⟨_,rfl,rfl,rfl,rfl⟩
theorem Sp:∃ o c,kM[5]? = some o∧o.op = .call c∧o.dst=some 32∧o.guard=some (1,true)∧c.callee = .value (.tmp 29)∧c.args.toList=[.tmp 30,.tmp 31]:=⟨_,_,rfl,rfl,rfl,rfl,rfl,rfl⟩
theorem Sq:(kM[1]?).bind (·.dst)=some 28:=rfl
structure Kq (N:List bp) (V:List Int) (I:List ByteArray) (U:List aP) (ao:List (List aB)) (aj:List Bool) (au:List Int) (okA T0:Nat→Prop) (B l:Nat) (Jα:Nat→(Nat→Prop)→World→Prop) (Jx:World→Prop) (ys:List (List AV)):Prop where
 hp:XA N V I U ao aj au
 hT0:∀ k,okA k→¬ T0 k
 hJ:∀ i T W W',Jα i T W→Below W.heap.size W W'→Jα i T W'
 hJx:∀ W W',Jx W→Below W.heap.size W W'→Jx W'
 hY:∀ i y T W ws,ys[i]? = some y→Jα i T W→F2 (nz ty W fun _ b=>(okA b∨B≤b)∧¬ T b) y ws→
    YieldAt Fence.wide 0 Tryz.prog l ws.toArray W fun e W'=>
     (e = .returned (.bool true)∧∃ T',Jα (i+1) T' W'∧(∀ k,T' k→(T k∨W.heap.size≤k)∧k < W'.heap.size)∧Abs.Alike T W W')∨(e = .returned (.bool false)∧Jx W'∧Abs.Alike T W W')
section
variable {N:List bp} {V:List Int} {I:List ByteArray} {U:List aP} {ao:List (List aB)} {aj:List Bool} {au:List Int} {okA T0:Nat→Prop} {B l:Nat} {Jα:Nat→(Nat→Prop)→World→Prop} {Jx:World→Prop} {ys:List (List AV)} {u:Value} {i:Nat} {a:Act} {W:World}
abbrev zb (N:List bp) (V:List Int) (I:List ByteArray) (U:List aP) (ao:List (List aB)) (aj:List Bool) (au:List Int) (okA T0:Nat→Prop) (B l:Nat) (Jα:Nat→(Nat→Prop)→World→Prop) (u:Value) (i:Nat) (a:Act) (W:World):Prop:=
 Wk 36 ty G0 (fun b=>okA b∧b < B) B Jα T0 (.ro false 83 (Ko N V I U ao aj au)) (.func (.yield l) #[] #[]) u i a W
theorem kN (hI:Kq N V I U ao aj au okA T0 B l Jα Jx ys) (hw:zb N V I U ao aj au okA T0 B l Jα u i a W) {tms:List (Nat × AV)} (hl:∀ p ∈ tms,p.1 < 36∧dK a p) {c:Code} {σ':St} {e:AX} (hs:bQ [0,1] c=true)
 (Wi:a9 (K8 fun b=>okA b∧b < B) K7 5 c ⟨(0,.undef)::(1,.ro false 83 (Ko N V I U ao aj au))::tms,[]⟩=some (e,σ')) :
 c.wpIn Fence.wide 0 Tryz.prog (fun ex a' W'=>ex=Bq e∧zb N V I U ao aj au okA T0 B l Jα u i a' W'∧∃ β',bG (K8 fun b=>okA b∧b < B) W σ' a' W' β') a W:=
 wpIn_mono (Wk.piece (E:=K8 fun b=>okA b∧b < B) hw hI.hJ rfl (Nat.le_of_ble_eq_true rfl) (fun _=>rfl) cF (Kp _) (fun _ h=>h) hl hs Wi) fun ex a' W' h=>⟨h.1,h.2.1,h.2.2.2⟩
def agD (N:List bp) (V:List Int) (I:List ByteArray) (U:List aP) (ao:List (List aB)) (aj:List Bool) (au:List Int) (okA T0:Nat→Prop) (B l:Nat) (Jα:Nat→(Nat→Prop)→World→Prop) (Jx:World→Prop) (u:Value) (i:Nat) (r p q:Int) (ex:Exit) (a:Act) (W:World):Prop:=
 (ex = .normal∧zb N V I U ao aj au okA T0 B l Jα u i a W∧dK a (3,J r)∧dK a (14,J p)∧dK a (15,J q))∨(ex = .ret∧a.defers=[]∧Jx W)
theorem ZC (hI:Kq N V I U ao aj au okA T0 B l Jα Jx ys) (hw:zb N V I U ao aj au okA T0 B l Jα u i a W) {r p q:Int} {c:aL} (h3:dK a (3,J r)) (mf:dK a (14,J p)) (nj:dK a (15,J q))
 (hc:eD N V I U ao aj au r q=some c) (hy:ys[i]? = some (mi (r,q,c))) :
 (nM [1,0,0,1,0,0,1,0,0,1,1,0,0]).wpIn Fence.wide 0 Tryz.prog (agD N V I U ao aj au okA T0 B l Jα Jx u (i+1) r p q) a W:=by
 have st:=OS;simp only[Bool.and_eq_true] at st;have sq:=ZB;simp only[Bool.and_eq_true] at sq;obtain⟨id,hb⟩:=agC;rw[hb];have Qc:∀ {W':World},(∀ g t x,G0 g=some (t,x)→LR ty W' (fun b=>okA b∧b < B) (.ro false t x) (.pointer (some ⟨g,0,none⟩)))→bj (K8 fun b=>okA b∧b < B) W':=fun h g t x hg=>h g t x hg
 refine wpIn_seq (wpIn_mono (kN hI hw (tms:=[(3,J r),(14,J p),(15,J q)]) (by simp;exact⟨h3,mf,nj⟩) st.1.1.1.1.2 (agu N V I U ao aj au r p q _)) fun ex a1 W1 h1=>?_);obtain⟨rfl,eL,β1,S1⟩:=h1;have T1:bG (K8 fun b=>okA b∧b < B) W1 ⟨(0,.undef)::(1,.ro false 83 (Ko N V I U ao aj au))::[(3,J r),(4,J q),(14,J p),(15,J q)],[]⟩ a1 W1 (fun _=>none):=
  Wk.sim (E:=K8 fun b=>okA b∧b < B) eL rfl (Nat.le_of_ble_eq_true rfl) (show ∀ p ∈ _,p.1 < 36∧dK a1 p by simp;exact⟨S1.j6 rfl,S1.j6 rfl,S1.j6 rfl,S1.j6 rfl⟩)
 have hG:=Qc eL.FX;refine wpIn_seq (wpIn_mono (j1 (S:=[0,1]) (fun _=>rfl) cF (Kp _) hG (iO 0) _ _ _ _ st.1.1.1.2 (agv N V I U ao aj au r p q _) a1 W1 _ T1) fun ex a2 W2 h2=>?_);obtain⟨rfl,⟨β2,S2⟩,k2⟩:=h2;refine wpIn_seq (wpIn_mono (j1 (S:=[0,1]) (fun _=>rfl) cF (Kp _) hG (iO 0) _ _ _ _ st.1.1.2 (agw N V I U ao aj au r p q c hI.hp hc _) a2 W2 _ S2) fun ex a3 W3 h3=>?_);obtain⟨rfl,⟨β3,S3⟩,k3⟩:=h3;have k3:=k2.trans k3;refine wpIn_seq (wpIn_region ?_);rw[Zx];refine kW (S:=[0,1]) cF (Kp _) hG (iO 0) _ _ _ a3 W3 β3 (seg 0 2) sq.1.1 (agz N V I U ao aj au r p q c _) S3 k3 fun a4 W4 β4 S4 k4=>?_
 obtain⟨o2,g1,g2,g3,g4⟩:=So;have want:∀ {o:Oper} {a':Act} {W':World} {β':Nat→Option Nat} {σ:St},bG (K8 fun b=>okA b∧b < B) W1 σ a' W' β'→aA 28 σ.tm=some (.bool true)→o.guard=some (1,true)→Region.wanted o (yielded kM a'.tmps)=true:=fun {o a' W' β' σ} hs hg ho=>by
  have hh:=hs.bool hg;have h4:a'.tmps[28]? = some (.bool true):=by
   have:28 < a'.tmps.size:=by rw[hs.size];exact Nat.le_of_ble_eq_true rfl
   rw[Array.getD_eq_getD_getElem?] at hh;rw[Array.getElem?_eq_getElem this] at hh ⊢;simpa using hh
  have hy:yielded kM a'.tmps 1=some true:=by simp[yielded,Sq,h4]
  simp[Region.wanted,ho,hy]
 refine xN g1 (want S4 rfl g4) ⟨fun _ _=>trivial,?_⟩;have Wm:(o2.semAt Fence.wide.round a4.eval).run Tryz.prog W4 = .ok (.value (.func (.yield l) #[] #[])) W4:=by
  show (execOp a4.eval o2).run Tryz.prog W4=_;have e1:a4.eval (.tmp 0) = .func (.yield l) #[] #[]:=by
   show a4.tmps.getD 0 undef=_;rw[k4.1 0 (by simp),eL.t0]
  simp[execOp,g2,e1]
 rw[Wm,Oper.uponIn_value,g3,Zy];have S5:=S4.put (t:=29) (x:= .undef) (v:= .func (.yield l) #[] #[]) (Nat.le_of_ble_eq_true rfl) (.undef _);have k5:Kept [0,1] a1 (a4.put (some 29) (.func (.yield l) #[] #[])):=k4.trans (Kept.put rfl);refine kW (S:=[0,1,29]) cF (Kp _) hG (iO 0) _ _ _ _ W4 β4 (seg 3 2) sq.1.2 (agA N V I U ao aj au r p q c _) S5 (.refl _ _) fun a6 W6 β6 S6 k6=>?_
 obtain⟨o5,c5,f1,f2,f3,f4,f5,f6⟩:=Sp;refine xN f1 (want S6 rfl f4) ?_;have k6':Kept [0,1] a1 a6:=k5.trans ⟨fun t ht=>k6.1 t (by simp at ht ⊢;rcases ht with h | h <;> simp[h]),k6.2⟩;refine Wk.Wl (E:=K8 fun b=>okA b∧b < B) (Jx:=Jx) (okA0:=okA) (l:=l) (d:=32) (f:=29) (y:=mi (r,q,c)) eL hI.hJ rfl rfl (fun _ h=>h) (fun b hb=>hb) hI.hT0 (fun T W ws=>hI.hY i _ T W ws hy) S6 k6' hG f2 f3 (Nat.le_of_ble_eq_true rfl) f5 ?_ ?_ ?_ fun b W7 hw7 hle=>?_
 ·rw[k6.1 29 (by simp)];have:29 < a4.tmps.size:=by rw[S4.size];exact Nat.le_of_ble_eq_true rfl
  simp[Act.put,Array.getD_eq_getD_getElem?,this]
 ·rw[f6];rfl
 ·simp[mi,ax,closed,closed.fq,mn]
 have hs6:32 < a6.tmps.size:=by rw[S6.size];exact Nat.le_of_ble_eq_true rfl
 have T7:bG (K8 fun b=>okA b∧b < B) W7 ⟨(0,.undef)::(1,.ro false 83 (Ko N V I U ao aj au))::[(3,J r),(14,J p),(15,J q),(28,.bool true),(32,.bool b)],[]⟩ (a6.put (some 32) (.bool b)) W7 (fun _=>none):=
  Wk.sim (E:=K8 fun b=>okA b∧b < B) hw7 rfl (Nat.le_of_ble_eq_true rfl) (show ∀ p ∈ _,p.1 < 36∧dK _ p by
   simp;exact⟨(S6.j6 rfl).put (by simp) _,(S6.j6 rfl).put (by simp) _,(S6.j6 rfl).put (by simp) _,(S6.ac1 rfl).put (by simp) _,dK.Np hs6 b⟩)
 have hG7:=Qc hw7.FX;rw[Zz];refine kW (S:=[0,1]) cF (Kp _) hG7 (iO 0) _ _ _ _ W7 _ (seg 6 2) sq.2 (by rw[ZA];exact agB N V I U ao aj au r p q b _) T7 (.refl _ _) fun a8 W8 β8 S8 k8=>?_
 have hw8:=Wk.next (E:=K8 fun b=>okA b∧b < B) hw7 (Jb.mono hI.hJ hI.hJx b) (fun _ h=>h) S8 k8;show (Code.cond (.tmp 34) .ret .skip).wpIn Fence.wide 0 Tryz.prog _ a8 W8;refine wpIn_cond (t:= !b) (S8.bool rfl) ?_;cases b with
 | true=>exact wpIn_skip (.inl ⟨rfl,hw8,S8.j6 rfl,S8.j6 rfl,S8.j6 rfl⟩)
 | false=>
   obtain⟨T,h1,_⟩:=hw8.j;exact wpIn_ret (.inr ⟨rfl,hw8.defers,h1⟩)
theorem ZD (hI:Kq N V I U ao aj au okA T0 B l Jα Jx ys) (hw:zb N V I U ao aj au okA T0 B l Jα u i a W) {r p q:Int} (h3:dK a (3,J r)) (mf:dK a (14,J p)) (nj:dK a (15,J q))
 (hc:eD N V I U ao aj au r q=none) :
 (nM [1,0,0,1,0,0,1,0,0,1,1,0,0]).wpIn Fence.wide 0 Tryz.prog (agD N V I U ao aj au okA T0 B l Jα Jx u i r p q) a W:=by
 have st:=OS;simp only[Bool.and_eq_true] at st;refine wpIn_mono (kN hI hw (tms:=[(3,J r),(14,J p),(15,J q)]) (by simp;exact⟨h3,mf,nj⟩) st.1.1.1.1.1.2 (agt N V I U ao aj au r p q hI.hp hc _)) fun ex a1 W1 h1=>?_
 obtain⟨rfl,eL,β1,S1⟩:=h1;exact .inl ⟨rfl,eL,S1.j6 rfl,S1.j6 rfl,S1.j6 rfl⟩
def Q72 (N:List bp) (V:List Int) (I:List ByteArray) (U:List aP) (ao:List (List aB)) (aj:List Bool) (au:List Int) (okA T0:Nat→Prop) (B l:Nat) (Jα:Nat→(Nat→Prop)→World→Prop) (Jx:World→Prop) (ys:List (List AV)) (u:Value) (r:Int) (rest:List (List AV)) (e0:Exit) (ex:Exit) (a:Act) (W:World):Prop:=
 (ex=e0∧∃ i,i≤ys.length∧ys.drop i=rest∧zb N V I U ao aj au okA T0 B l Jα u i a W∧dK a (3,J r))∨(ex = .ret∧a.defers=[]∧Jx W)
theorem IZ (hI:Kq N V I U ao aj au okA T0 B l Jα Jx ys) {r p:Int} (hp:p < 999999) (rest:List (List AV)):∀ (m:Nat) (q:Int) (i:Nat) (a:Act) (W:World),0≤q→q+m=p→i≤ys.length→ys.drop i=(iD (eD N V I U ao aj au r) r m q).map mi++rest→
 zb N V I U ao aj au okA T0 B l Jα u i a W→dK a (3,J r)→dK a (14,J p)→dK a (15,J q)→
 Code.roundsIn Fence.wide 0 Tryz.prog (.seq (nM [1,0,0,1,0,0,1,0,0,0]) (.seq (.cond (.tmp 16) .skip (.exit 2)) (.seq (.block 3 (nM [1,0,0,1,0,0,1,0,0,1,1,0,0])) (nM [1,0,0,1,0,0,1,0,0,1,1,1]))))
  (Q72 N V I U ao aj au okA T0 B l Jα Jx ys u r rest (.exit 2)) (m+1) a W
 | m,q,i,a,W,hq,hm,hi,hd,hw,h3,mf,nj=>by
   have st:=OS;simp only[Bool.and_eq_true] at st;rw[roundsIn_succ];refine wpIn_seq (wpIn_mono (kN hI hw (tms:=[(3,J r),(14,J p),(15,J q)]) (by simp;exact⟨h3,mf,nj⟩) st.1.1.1.1.1.1.2 (ags N V I U ao aj au r p q (decide (q < p)) rfl _)) fun ex a1 W1 h1=>?_);obtain⟨rfl,eL,β1,S1⟩:=h1;refine wpIn_seq (wpIn_cond (t:=decide (q < p)) (S1.bool rfl) ?_);have g3:dK a1 (3,J r):=S1.j6 rfl;have g14:dK a1 (14,J p):=S1.j6 rfl;have g15:dK a1 (15,J q):=S1.j6 rfl;cases m with
   | zero=>
     have hn:decide (q < p)=false:=by simp;simp at hm;omega
     rw[hn];refine wpIn_exit (.inl ⟨rfl,i,hi,?_,eL,g3⟩);simpa[iD] using hd
   | succ m=>
     have hn:decide (q < p)=true:=by simp;omega
     rw[hn];refine wpIn_skip ?_;refine wpIn_seq (wpIn_block ?_);have next:∀ (i':Nat) (a2:Act) (W2:World),i'≤ys.length→ys.drop i'=(iD (eD N V I U ao aj au r) r m (q+1)).map mi++rest→zb N V I U ao aj au okA T0 B l Jα u i' a2 W2→dK a2 (3,J r)→dK a2 (14,J p)→dK a2 (15,J q)→
      (nM [1,0,0,1,0,0,1,0,0,1,1,1]).wpIn Fence.wide 0 Tryz.prog (Exit.then (Code.roundsIn Fence.wide 0 Tryz.prog (.seq (nM [1,0,0,1,0,0,1,0,0,0]) (.seq (.cond (.tmp 16) .skip (.exit 2)) (.seq (.block 3 (nM [1,0,0,1,0,0,1,0,0,1,1,0,0])) (nM [1,0,0,1,0,0,1,0,0,1,1,1]))))
        (Q72 N V I U ao aj au okA T0 B l Jα Jx ys u r rest (.exit 2)) (m+1)) (Q72 N V I U ao aj au okA T0 B l Jα Jx ys u r rest (.exit 2))) a2 W2:=fun i' a2 W2 zp qA eX k3 k14 k15=>by
      refine wpIn_mono (kN hI eX (tms:=[(3,J r),(14,J p),(15,J q)]) (by simp;exact⟨k3,k14,k15⟩) st.1.2 (agx N V I U ao aj au r p q (by omega) hq _)) fun ex a3 W3 h3=>?_
      obtain⟨rfl,hw3,β3,S3⟩:=h3;exact IZ hI hp rest m (q+1) i' a3 W3 (by omega) (by omega) zp qA hw3 (S3.j6 rfl) (S3.j6 rfl) (S3.j6 rfl)
     rw[iD] at hd;cases hc:eD N V I U ao aj au r q with
     | none=>
       rw[hc] at hd;refine wpIn_mono (ZD hI eL g3 g14 g15 hc) fun ex a2 W2 h2=>?_
       rcases h2 with ⟨rfl,eX,k3,k14,k15⟩|⟨rfl,h4,h5⟩
       ·exact next i a2 W2 hi (by simpa using hd) eX k3 k14 k15
       ·exact .inr ⟨rfl,h4,h5⟩
     | some c=>
       rw[hc] at hd;have hy:ys[i]? = some (mi (r,q,c)):=by
        have:=congrArg (fun l=>l[0]?) hd;simpa using this
       have vj:i < ys.length:=(List.getElem?_eq_some_iff.1 hy).1;refine wpIn_mono (ZC hI eL g3 g14 g15 hc hy) fun ex a2 W2 h2=>?_
       rcases h2 with ⟨rfl,eX,k3,k14,k15⟩|⟨rfl,h4,h5⟩
       ·refine next (i+1) a2 W2 vj ?_ eX k3 k14 k15;have:=congrArg (fun l=>l.drop 1) hd;simpa[List.drop_drop,Nat.add_comm] using this
       ·exact .inr ⟨rfl,h4,h5⟩
theorem I0 (hI:Kq N V I U ao aj au okA T0 B l Jα Jx ys):∀ (m:Nat) (r:Int) (i:Nat) (a:Act) (W:World),0≤r→r+m=9→i≤ys.length→ys.drop i=(iE (eD N V I U ao aj au) (bF N V I) m r).map mi→
 zb N V I U ao aj au okA T0 B l Jα u i a W→dK a (3,J r)→
 Code.roundsIn Fence.wide 0 Tryz.prog (.seq (nM [1,0,0,0]) (.seq (.block 1 (.seq (nM [1,0,0,1,0,0,0]) (.block 2 (.loop (.seq (nM [1,0,0,1,0,0,1,0,0,0]) (.seq (.cond (.tmp 16) .skip (.exit 2))
 (.seq (.block 3 (nM [1,0,0,1,0,0,1,0,0,1,1,0,0])) (nM [1,0,0,1,0,0,1,0,0,1,1,1])))))))) (nM [1,0,0,1,1])))
   (Q72 N V I U ao aj au okA T0 B l Jα Jx ys u 9 [] (.exit 0)) (m+1) a W
 | m,r,i,a,W,hr,hm,hi,hd,hw,h3=>by
   have st:=OS;simp only[Bool.and_eq_true] at st;obtain⟨l1,l2,l3,l4⟩:=hI.hp.lim;rw[roundsIn_succ];cases m with
   | zero=>
     have:r=9:=by simpa using hm
     subst this;refine wpIn_seq (wpIn_mono (kN hI hw (tms:=[(3,J 9)]) (by simp;exact h3) st.1.1.1.1.1.1.1.1.2 (Zv N V I U ao aj au 9 rfl _)) fun ex a1 W1 h1=>?_);obtain⟨rfl,eL,β1,S1⟩:=h1;exact .inl ⟨rfl,i,hi,by simpa[iE] using hd,eL,S1.j6 rfl⟩
   | succ m=>
     refine wpIn_seq (wpIn_mono (kN hI hw (tms:=[(3,J r)]) (by simp;exact h3) st.1.1.1.1.1.1.1.1.2 (agq N V I U ao aj au r (by simp;omega) _)) fun ex a1 W1 h1=>?_);obtain⟨rfl,eL,β1,S1⟩:=h1;refine wpIn_seq (wpIn_block (wpIn_seq (wpIn_mono (kN hI eL (tms:=[(3,J r)]) (by simp;exact S1.j6 rfl) st.1.1.1.1.1.1.1.2 (agr N V I U ao aj au r ⟨by omega,by omega⟩ _)) fun ex a2 W2 h2=>?_)));obtain⟨rfl,eX,β2,S2⟩:=h2;have K0:0≤bF N V I r∧bF N V I r < 999999:=by
      unfold bF;split <;> omega
     rw[iE,List.map_append] at hd;refine wpIn_block (wpIn_mono (wpIn_loop_rounds _ (IZ hI K0.2 ((iE (eD N V I U ao aj au) (bF N V I) m (r+1)).map mi) (bF N V I r).toNat 0 i a2 W2 (by omega) (by omega) hi hd eX (S2.j6 rfl) (S2.j6 rfl) (S2.j6 rfl))) fun ex a3 W3 h3=>?_);rcases h3 with ⟨rfl,i',zp,qA,hw3,k3⟩|⟨rfl,h4,h5⟩
     ·refine wpIn_mono (kN hI hw3 (tms:=[(3,J r)]) (by simp;exact k3) st.2 (agy N V I U ao aj au r (by omega) hr _)) fun ex a4 W4 h4=>?_
      obtain⟨rfl,hw4,β4,S4⟩:=h4;exact I0 hI m (r+1) i' a4 W4 (by omega) (by omega) zp qA hw4 (S4.j6 rfl)
     ·exact .inr ⟨rfl,h4,h5⟩
end
def iF (N:List bp) (V:List Int) (I:List ByteArray) (U:List aP) (ao:List (List aB)) (aj:List Bool) (au:List Int):List (Int × Int × aL):=
 iE (eD N V I U ao aj au) (bF N V I) 8 1
theorem n72:f72.ntmps=36:=rfl
theorem OT (hp:XA N V I U ao aj au) :
 Iter Tryz.prog ty G0 72 [.ro false 83 (Ko N V I U ao aj au)] ((iF N V I U ao aj au).map mi):=by
 intro okA W0 vs lI hG l Jα Jx T0 hT0 hTs hJ hJx hJ0 hY;have Qr:vs.length=1:=lI.1.symm;obtain⟨u,rfl⟩:∃ u,vs=[u]:=by
  cases vs with
  | nil=>simp at Qr
  | cons u r=>cases r with
    | nil=>exact⟨u,rfl⟩
    | cons _ _=>simp at Qr
 have hu:LR ty W0 okA (.ro false 83 (Ko N V I U ao aj au)) u:=lI.2 0 _ _ rfl rfl;have hI:Kq N V I U ao aj au okA T0 W0.heap.size l Jα Jx ((iF N V I U ao aj au).map mi):=⟨hp,hT0,hJ,hJx,hY⟩
 have st:=OS;simp only[Bool.and_eq_true] at st;have hw:zb N V I U ao aj au okA T0 W0.heap.size l Jα u 0 { tmps:=#[.func (.yield l) #[] #[]]++[u].toArray++Array.replicate (f72.ntmps - (#[Value.func (.yield l) #[] #[]]++[u].toArray).size) undef,defers:=[] } W0:={
  j:=⟨T0,hJ0,fun k hk=>⟨.inl hk,hTs k hk⟩⟩
  low:=Nat.le_refl _
  cap:=hu.mono fun b hb hl=>⟨⟨hb,hl⟩,hl,rfl⟩
  FX:=fun g t x hg=>(hG g t x hg).mono fun b hb hl=>⟨⟨hb,hl⟩,hl,rfl⟩
  size:=by rw[n72];simp
  defers:=rfl
  t0:=by simp[Array.getD_eq_getD_getElem?,Array.getElem?_append]
  t1:=by simp[Array.getD_eq_getD_getElem?,Array.getElem?_append] }
 refine callsIn_of_wp_marks h72 Zw trivial ?_ rfl;generalize ({ tmps:=#[.func (.yield l) #[] #[]]++[u].toArray++Array.replicate (f72.ntmps - (#[Value.func (.yield l) #[] #[]]++[u].toArray).size) undef,defers:=[] }:Act)=a at hw ⊢;refine wpIn_seq (wpIn_mono (kN hI hw (tms:=[]) (by simp) st.1.1.1.1.1.1.1.1.1 (agp N V I U ao aj au _)) fun ex a1 W1 h1=>?_);obtain⟨rfl,eL,β1,S1⟩:=h1;refine wpIn_block (wpIn_mono (wpIn_loop_rounds _ (I0 hI 8 1 0 a1 W1 (by omega) (by omega) (Nat.zero_le _) (by simp[iF]) eL (S1.j6 rfl))) fun ex a2 W2 h2=>?_);have fin:∀ (a2:Act) (W2:World),a2.defers=[]→((∃ T,Jα ((iF N V I U ao aj au).map mi).length T W2)∨Jx W2)→
  LeavesInM Fence.wide 0 Tryz.prog f72 a2.tmps (fun e W'=>(∃ v,e = .returned v)∧((∃ T,Jα ((iF N V I U ao aj au).map mi).length T W')∨Jx W')) a2.defers .returning W2:=fun a2 W2 hd hj=>by
  rw[hd];obtain⟨v,hr⟩:∃ v,(results f72 a2.tmps).run Tryz.prog W2 = .ok v W2:=by
   have h0:f72.results = #[]:=rfl;simp[results,h0]
  exact⟨_,hr,⟨_,rfl⟩,hj⟩
 rcases h2 with ⟨rfl,i,hi,hd,eX,h3⟩|⟨rfl,h4,h5⟩
 ·refine fin a2 W2 eX.defers (.inl ?_);obtain⟨T,h1,_⟩:=eX.j;have:i=((iF N V I U ao aj au).map mi).length:=by
   have:=congrArg List.length hd;simp only[List.length_drop,List.length_nil] at this;omega
  subst this;exact⟨T,h1⟩
 ·exact fin a2 W2 h4 (.inr h5)
end Go.Proofs.Tryz
end
section
set_option maxHeartbeats 4000000
set_option maxRecDepth 20000
namespace Go.Proofs.Tryz
open Go Go.Abs
variable (N : List bp) (V : List Int) (I : List ByteArray) (U : List aP) (ao : List (List aB)) (aj : List Bool) (au : List Int)
def ch:Code→List Nat→Code
 | c,[]=>c
 | .seq a _,0::p=>ch a p
 | .seq _ b,1::p=>ch b p
 | .cond _ a _,0::p=>ch a p
 | .cond _ _ b,1::p=>ch b p
 | .block _ c,_::p=>ch c p
 | .loop c,_::p=>ch c p
 | .scope c,_::p=>ch c p
 | .rangeFunc _ _ a _,0::p=>ch a p
 | .rangeFunc _ _ _ b,1::p=>ch b p
 | c,_=>c
theorem ZE (hp:LM N V I U):tx Tryz.prog ty G0 46 [(cd N V I U)] ((cd N V I U)):=
 iy.hand (k:=30) cF (Eo _ _ _ _ (x7 N V I U hp)).2 (by simp[fo,fo.ml]) (by simp[hand,hand.gn,aA,av])
def ald (l:List AV) (r:AV):Prop:=∃ (N:List bp) (V:List Int) (I:List ByteArray) (U:List aP),(LM N V I U)∧l=[(cd N V I U)]∧r=(cd N V I U)
noncomputable def ov:=y4 ald
theorem Sr (hp:LM N V I U):ov [(cd N V I U)]=some ((cd N V I U)):=by
 refine oI (fun l r r'=>?_) ⟨N,V,I,U,hp,rfl,rfl⟩;rintro⟨N,V,I,U,hp,h,rfl⟩ ⟨c7,bJ,bL,bK,bZ,h',rfl⟩;rw[h] at h';simp only[List.cons.injEq,AV.st.injEq,AV.sl.injEq,AV.int.injEq,AV.bool.injEq,AV.str.injEq,AV.ro.injEq,AV.fn.injEq,AV.own.injEq,Fl.mk.injEq,Prod.mk.injEq,Abs.Obj.mk.injEq,kL,nc,nd,nf,jg,gI,fQ,m_,and_true,true_and,and_assoc] at h';obtain⟨rfl,rfl,rfl,rfl⟩:=h';rfl
theorem ZF:cI 46 ov:=fun l r h=>by
 obtain⟨N,V,I,U,hp,rfl,rfl⟩:=sS h;exact⟨⟨f46,h46,rfl,by decide⟩,ZE N V I U hp⟩
def H0:Nat→Hint:=fun _=>{ tm:=[],ob:=[] }
theorem K1:Q 37=some f37:=by kernel_rfl
theorem ale (A:NP):a9 (env 4 7 D0 [] [] A) H0 5 (f37.body.getD .skip) ⟨[(0,(wv N V I U ao aj au))],[]⟩=some (.ret,⟨[(2,.fn 72 [.ptr 1 (.box 83) []]),(1,pb 1 83),(0,(wv N V I U ao aj au))],[(1,⟨.box 83,false,[(wv N V I U ao aj au)]⟩)]⟩):=by
 simp only[f37,Option.getD_some];simp only[go_sem,ch,Option.getD_some];try rfl
theorem nj:Q 15=some f15:=by kernel_rfl
theorem UM  (A:NP):a9 (env 22 50303 D0 [(33,o_),(34,qe)] [] A) H0 5 (ch (f15.body.getD .skip) [0]) ⟨[(0,(cd N V I U))],[]⟩=some (.norm,⟨[(3,J 0),(2,.sl 0 gN []),(1,pb 1 27),(0,(cd N V I U))],[(1,(bC N V I U))]⟩):=by
 simp only[f15,ch,Option.getD_some];simp only[go_sem,ch,Option.getD_some];try rfl
theorem agG (hp:gO N V I U) (hc:aU N V I U=false) (A:NP):a9 (env 22 50303 D0 [(33,o_),(34,qe)] [] A) H0 5 (ch (f15.body.getD .skip) [1,0]) ⟨[(3,J 0),(2,.sl 0 gN []),(1,pb 1 27),(0,(cd N V I U))],[(1,(bC N V I U))]⟩=some (.ret,⟨[(3,J 150),(2,.sl 0 gN []),(10,.bool true),(4,J 150),(1,pb 1 27),(0,(cd N V I U))],[(1,(bC N V I U))]⟩):=by
 simp only[f15,ch,Option.getD_some];have mP:=qb N V I U ⟨hp.lim,hp.str⟩;rw[hc] at mP;simp only[cy,BL] at mP;simp only[go_sem,ch,Option.getD_some,mP];try rfl
theorem agH (hp:gO N V I U) (hc:aU N V I U=true) (A:NP):a9 (env 22 50303 D0 [(33,o_),(34,qe)] [] A) H0 5 (ch (f15.body.getD .skip) [1,0]) ⟨[(3,J 0),(2,.sl 0 gN []),(1,pb 1 27),(0,(cd N V I U))],[(1,(bC N V I U))]⟩=some (.norm,⟨[(10,.bool false),(4,J 0),(3,J 0),(2,.sl 0 gN []),(1,pb 1 27),(0,(cd N V I U))],[(1,(bC N V I U))]⟩):=by
 simp only[f15,ch,Option.getD_some];have mP:=qb N V I U ⟨hp.lim,hp.str⟩;rw[hc] at mP;simp only[cy,BL] at mP;simp only[go_sem,ch,Option.getD_some,mP];try rfl
theorem agI  (A:NP):a9 (env 22 50303 D0 [(33,o_),(34,qe)] [] A) H0 5 (ch (f15.body.getD .skip) [1,1,0]) ⟨[(10,.bool false),(4,J 0),(3,J 0),(2,.sl 0 gN []),(1,pb 1 27),(0,(cd N V I U))],[(1,(bC N V I U))]⟩=some (.norm,⟨[(5,pb 5 42),(10,.bool false),(4,J 0),(3,J 0),(2,.sl 0 gN []),(1,pb 1 27),(0,(cd N V I U))],[(5,⟨.box 42,true,[.sl 29 gN []]⟩),(1,(bC N V I U))]⟩):=by
 simp only[f15,ch,Option.getD_some];simp only[go_sem,ch,Option.getD_some];try rfl
noncomputable def yo:Array Oper:=match ch (f15.body.getD .skip) [1,1,1,0,0] with | .region _ N _=>N | _=>#[]
theorem agJ (hp:gO N V I U) (hc:aU N V I U=true) (A:NP):gS (env 22 50303 D0 [(33,o_),(34,qe)] [] A) yo.toList (yo.toList.take 2) ⟨[(5,pb 5 42),(10,.bool false),(4,J 0),(3,J 0),(2,.sl 0 gN []),(1,pb 1 27),(0,(cd N V I U))],[(5,⟨.box 42,true,[.sl 29 gN []]⟩),(1,(bC N V I U))]⟩=some ⟨[(13,.ro false 106 (.st 106 [(cd N V I U),.sl 119 gT ((bz N V U).1.map aF),.sl 4 gT ((bz N V U).2.map eB),.sl 109 gT ((cz N).map eU)])),(12,(cd N V I U)),(5,pb 5 42),(10,.bool false),(4,J 0),(3,J 0),(2,.sl 0 gN []),(1,pb 1 27),(0,(cd N V I U))],[(5,⟨.box 42,true,[.sl 29 gN []]⟩),(1,(bC N V I U))]⟩:=by
 have Sn:=B_ N V I U ⟨⟨hp.lim,hp.str⟩,hc⟩;simp only[yo,f15,ch,Option.getD_some,List.take_succ_cons,List.take_zero];simp only[go_sem,ch,Option.getD_some,Sn];try rfl
theorem agK (r q:Int) (c:aL) (lo:Option Nat) (A L:NP):a9 (ej 22 50303 D0 [(33,o_),(34,qe)] [] lo A L) H0 5 (ch (f15.body.getD .skip) [1,1,1,0,1,0,0]) ⟨[(16,(cd c.ops c.ints c.strs c.U)),(15,.st 29 [J r,J q]),(5,pb 5 42)],[(5,⟨.box 42,true,[.sl 29 gN []]⟩),(1,(bC N V I U))]⟩=some (.norm,⟨[(6,pb 6 29),(15,.st 29 [J r,J q]),(5,pb 5 42)],[(6,⟨.box 29,true,[.st 29 [J r,J q]]⟩),(5,⟨.box 42,true,[.sl 29 gN []]⟩),(1,(bC N V I U))]⟩):=by
 simp only[f15,ch,Option.getD_some];simp only[go_sem,ch,Option.getD_some];try rfl
theorem agL (r q:Int) (lo:Option Nat) (A L:NP):a9 (ej 22 50303 D0 [(33,o_),(34,qe)] [] lo A L) H0 5 (ch (f15.body.getD .skip) [1,1,1,0,1,0,1]) ⟨[(6,pb 6 29),(15,.st 29 [J r,J q]),(5,pb 5 42)],[(6,⟨.box 29,true,[.st 29 [J r,J q]]⟩),(5,⟨.box 42,true,[.sl 29 gN []]⟩),(1,(bC N V I U))]⟩=some (.norm,⟨[(6,pb 6 29),(15,.st 29 [J r,J q]),(5,pb 5 42)],[(5,⟨.box 42,true,[.own 20 29 0 1]⟩),(20,⟨.row 29,true,[.st 29 [J r,J q]]⟩),(19,⟨.row 29,true,[.st 29 [J r,J q]]⟩),(6,⟨.box 29,true,[.st 29 [J r,J q]]⟩),(1,(bC N V I U))]⟩):=by
 simp only[f15,ch,Option.getD_some];simp only[go_sem,ch,Option.getD_some];try rfl
theorem agM (xs:List ct) (r0 q0 r q:Int) (c:aL) (lo:Option Nat) (A L:NP):a9 (ej 22 50303 D0 [(33,o_),(34,qe)] [] lo A L) H0 5 (ch (f15.body.getD .skip) [1,1,1,0,1,0,0]) ⟨[(16,(cd c.ops c.ints c.strs c.U)),(15,.st 29 [J r,J q]),(5,pb 5 42)],[(5,⟨.box 42,true,[.own 21 29 0 xs.length]⟩),(21,⟨.row 29,true,(xs.map bo)⟩),(19,⟨.row 29,true,[.st 29 [J r0,J q0]]⟩),(6,⟨.box 29,true,[.st 29 [J r0,J q0]]⟩),(1,(bC N V I U))]⟩=some (.norm,⟨[(6,pb 6 29),(15,.st 29 [J r,J q]),(5,pb 5 42)],[(6,⟨.box 29,true,[.st 29 [J r,J q]]⟩),(5,⟨.box 42,true,[.own 21 29 0 xs.length]⟩),(21,⟨.row 29,true,(xs.map bo)⟩),(19,⟨.row 29,true,[.st 29 [J r0,J q0]]⟩),(1,(bC N V I U))]⟩):=by
 simp only[f15,ch,Option.getD_some];simp only[go_sem,ch,Option.getD_some];try rfl
theorem agN (xs:List ct) (r0 q0 r q:Int) (hx:xs.length < 10000000) (lo:Option Nat) (A L:NP):a9 (ej 22 50303 D0 [(33,o_),(34,qe)] [] lo A L) H0 5 (ch (f15.body.getD .skip) [1,1,1,0,1,0,1]) ⟨[(6,pb 6 29),(15,.st 29 [J r,J q]),(5,pb 5 42)],[(6,⟨.box 29,true,[.st 29 [J r,J q]]⟩),(5,⟨.box 42,true,[.own 21 29 0 xs.length]⟩),(21,⟨.row 29,true,(xs.map bo)⟩),(19,⟨.row 29,true,[.st 29 [J r0,J q0]]⟩),(1,(bC N V I U))]⟩=some (.norm,⟨[(6,pb 6 29),(15,.st 29 [J r,J q]),(5,pb 5 42)],[(5,⟨.box 42,true,[.own 20 29 0 (xs.length+1)]⟩),(20,⟨.row 29,true,(xs.map bo++[.st 29 [J r,J q]])⟩),(19,⟨.row 29,true,[.st 29 [J r,J q]]⟩),(6,⟨.box 29,true,[.st 29 [J r,J q]]⟩),(1,(bC N V I U))]⟩):=by
 simp only[f15,ch,Option.getD_some];have iM:((xs.length+1) * 16≤140737488355328)=True:=by simp;omega
 have hlen:(xs.length≤140737488355327)=True:=by simp;omega
 simp only[go_sem,ch,Option.getD_some,iM,hlen];try rfl
theorem agO  (A:NP):a9 (env 22 50303 D0 [(33,o_),(34,qe)] [] A) H0 5 (ch (f15.body.getD .skip) [1,1,1,1]) ⟨[(5,pb 5 42)],[(5,⟨.box 42,true,[.sl 29 gN []]⟩),(1,(bC N V I U))]⟩=some (.ret,⟨[(3,J 0),(2,.sl 29 gN []),(5,pb 5 42)],[(5,⟨.box 42,true,[.sl 29 gN []]⟩),(1,(bC N V I U))]⟩):=by
 simp only[f15,ch,Option.getD_some];simp only[go_sem,ch,Option.getD_some];try rfl
theorem agP (xs:List ct) (r0 q0:Int) (A:NP):a9 (env 22 50303 D0 [(33,o_),(34,qe)] [] A) H0 5 (ch (f15.body.getD .skip) [1,1,1,1]) ⟨[(5,pb 5 42)],[(5,⟨.box 42,true,[.own 21 29 0 xs.length]⟩),(21,⟨.row 29,true,(xs.map bo)⟩),(19,⟨.row 29,true,[.st 29 [J r0,J q0]]⟩),(6,⟨.box 29,true,[.st 29 [J r0,J q0]]⟩),(1,(bC N V I U))]⟩=some (.ret,⟨[(3,J 0),(2,.own 21 29 0 xs.length),(5,pb 5 42)],[(5,⟨.box 42,true,[.own 21 29 0 xs.length]⟩),(21,⟨.row 29,true,(xs.map bo)⟩),(19,⟨.row 29,true,[.st 29 [J r0,J q0]]⟩),(6,⟨.box 29,true,[.st 29 [J r0,J q0]]⟩),(1,(bC N V I U))]⟩):=by
 simp only[f15,ch,Option.getD_some];simp only[go_sem,ch,Option.getD_some];try rfl
noncomputable abbrev AZ (A:NP):Env:=env 22 50303 D0 [(33,o_),(34,qe)] [] A
noncomputable abbrev Ce (p:List Nat):Code:=ch (f15.body.getD .skip) p
theorem n15:f15.ntmps=22:=rfl
def yp (code:AV) (k:Nat) (xs:List ct) (s:ct):List (Nat × Abs.Obj):=[(5,⟨.box 42,true,[.own k 29 0 xs.length]⟩),(k,⟨.row 29,true,xs.map bo⟩),(19,⟨.row 29,true,[bo s]⟩),(6,⟨.box 29,true,[bo s]⟩),(1,⟨.box 27,false,[code]⟩)]
def I1 (code:AV) (ob ob2:List (Nat × Abs.Obj)):Prop:=∃ xs s,ob=yp code 20 xs s∧ob2=yp code 21 xs s
theorem OU (E:Env) (w0:World) {ob ob2:List (Nat × Abs.Obj)} (h:I1 ((cd N V I U)) ob ob2):AA E w0 [(5,pb 5 42)] ob ob2:=by
 obtain⟨xs,s,rfl,rfl⟩:=h;intro a w β hS;exact hS.Ix (p:=5) (o:=20) (c:=21) (t:=29) (n:=xs.length) rfl rfl (by simp[St.free,St.free.qs,St.free.kZ,yp,bA,bA.du,bo]) (by decide) (by decide) (by decide)
def stepOf (s:Int × Int × aL):ct:=⟨s.1,s.2.1⟩
theorem yq (ap:Int→Option aL) (r:Int):∀ (m:Nat) (q:Int),(iD ap r m q).length≤m
 | 0,q=>by simp[iD]
 | m+1,q=>by
   have:=yq ap r m (q+1);simp only[iD,List.length_append];split <;> simp <;> omega
theorem qg (ap:Int→Int→Option aL) (pl:Int→Int) {M:Nat} (hM:∀ r,pl r≤M):∀ (m:Nat) (r:Int),(iE ap pl m r).length≤m * M
 | 0,r=>by simp[iE]
 | m+1,r=>by
   have h1:=qg ap pl hM m (r+1);have h2:=yq (ap r) r (pl r).toNat 0;have h3:=hM r;simp only[iE,List.length_append,Nat.add_mul];omega
theorem EJ (N:List bp) (V:List Int) (I:List ByteArray) (U:List aP):∀ (l:List (Int × Int × aL)) (xs:List ct) (s:ct),xs.length+l.length < 10000000→∃ s',
 ki (I1 ((cd N V I U))) (fun c σ r=>∀ A lo L,a9 { AZ A with okA:=A,lo:=lo,lent:=L } H0 5 c σ=some r) [15,16] (Ce [1,1,1,0,1,0,0]) (Ce [1,1,1,0,1,0,1]) [5] [(5,pb 5 42)] (l.map mi) (yp ((cd N V I U)) 21 xs s) .norm (yp ((cd N V I U)) 21 (xs++l.map stepOf) s')
 | [],xs,s,_=>⟨s,by simpa using ki.done _⟩
 | y::l,xs,s,hl=>by
   obtain⟨s',h⟩:=EJ N V I U l (xs++[stepOf y]) (stepOf y) (by simp at hl ⊢;omega);refine⟨s',.goes (σ2:=⟨[(6,pb 6 29),(15,.st 29 [J y.1,J y.2.1]),(5,pb 5 42)],(6,⟨.box 29,true,[.st 29 [J y.1,J y.2.1]]⟩)::(5,⟨.box 42,true,[.own 21 29 0 xs.length]⟩)::(21,⟨.row 29,true,xs.map bo⟩)::(19,⟨.row 29,true,[bo s]⟩)::(1,(bC N V I U))::[]⟩) (σ3:=⟨[(6,pb 6 29),(15,.st 29 [J y.1,J y.2.1]),(5,pb 5 42)],yp ((cd N V I U)) 20 (xs++[stepOf y]) (stepOf y)⟩) rfl (by simp[mi,ax,fo,fo.ml]) (fun A lo L=>?_) (fun A lo L=>?_) rfl ⟨_,_,rfl,rfl⟩ (by simpa using h)⟩
   ·exact agM N V I U xs s.rule s.at_ y.1 y.2.1 y.2.2 lo A L
   ·refine (agN N V I U xs s.rule s.at_ y.1 y.2.1 (by simp at hl;omega) lo A L).trans ?_;simp[yp,stepOf,bo]
theorem Kr (y:Int × Int × aL) (l:List (Int × Int × aL)) (hl:l.length < 2000000):∃ s',
 ki (I1 ((cd N V I U))) (fun c σ r=>∀ A lo L,a9 { AZ A with okA:=A,lo:=lo,lent:=L } H0 5 c σ=some r) [15,16] (Ce [1,1,1,0,1,0,0]) (Ce [1,1,1,0,1,0,1]) [5] [(5,pb 5 42)] ((y::l).map mi) [(5,⟨.box 42,true,[.sl 29 gN []]⟩),(1,(bC N V I U))] .norm (yp ((cd N V I U)) 21 ((y::l).map stepOf) s'):=by
 obtain⟨s',h⟩:=EJ N V I U l [stepOf y] (stepOf y) (by simp;omega);refine⟨s',.goes (σ2:=⟨[(6,pb 6 29),(15,.st 29 [J y.1,J y.2.1]),(5,pb 5 42)],(6,⟨.box 29,true,[.st 29 [J y.1,J y.2.1]]⟩)::[(5,⟨.box 42,true,[.sl 29 gN []]⟩),(1,(bC N V I U))]⟩) (σ3:=⟨[(6,pb 6 29),(15,.st 29 [J y.1,J y.2.1]),(5,pb 5 42)],yp ((cd N V I U)) 20 [stepOf y] (stepOf y)⟩) rfl (by simp[mi,ax,fo,fo.ml]) (fun A lo L=>?_) (fun A lo L=>?_) rfl ⟨_,_,rfl,rfl⟩ (by simpa using h)⟩
 ·exact agK N V I U y.1 y.2.1 y.2.2 lo A L
 ·exact (agL N V I U y.1 y.2.1 lo A L).trans (by simp[yp,stepOf,bo])
theorem OV (ao:List (List aB)) (aj:List Bool) (au:List Int) (N:List bp) (V:List Int) (I:List ByteArray) (U:List aP):Rn Tryz.prog ty G0 37 [wv N V I U ao aj au] 72 [.ro false 83 (wv N V I U ao aj au)]:=
 BF (Ef:=fun A=>env 4 7 D0 [] [] A) (cs:=[.ptr 1 (.box 83) []]) (fun _=>rfl) (fun _=>rfl) (fun _=>rfl) cF K1 (fun _=>rfl) rfl (Nat.le_of_ble_eq_true rfl) (by simp[fo,fo.ml]) (.inr rfl)
  (fun A w hG=>dL (H:=H0) (k:=5) (fun _ h=>h) cF (kK (C:=[]) (M:=[]) trivial trivial) hG (eT cF (kK (C:=[]) (M:=[]) trivial trivial) hm (fun _=>[]) _ (by kernel_rfl)) (ale N V I U ao aj au A))
  (fun A=>rfl) ⟨0,1,.box 83,[],rfl⟩ (fun A=>rfl) (by simp[bq])
theorem GI:∃ id,f15.body=some (.seq (Ce [0]) (.seq (Ce [1,0]) (.seq (Ce [1,1,0]) (.seq (.seq (.region id yo false) (.block 0 (.rangeFunc (.tmp 14) #[15,16] (Ce [1,1,1,0,1,0,0]) (Ce [1,1,1,0,1,0,1])))) (Ce [1,1,1,1]))))):=⟨_,rfl⟩
theorem alg:(bQ [5] (Ce [1,1,1,0,1,0,0])&&bQ [5] (Ce [1,1,1,0,1,0,1]))=true:=by kernel_rfl
theorem I2:yo.size=2+1∧((yo.toList.take 2).all fun o=>oG o.op&&(match o.dst with | some t=> !([]:List Nat).contains t | none=>true))=true:=⟨by kernel_rfl,by kernel_rfl⟩
theorem Ss:∃ o c,yo[2]? = some o∧o.guard=none∧o.op = .call c∧o.dst=some 14∧(∃ g,c.callee = .value g∧∀ a:Act,a.eval g = .func (.func 37) #[] #[])∧c.args.toList=[.tmp 13]:=⟨_,_,rfl,rfl,rfl,rfl,⟨_,rfl,fun _=>rfl⟩,rfl⟩
theorem Cf (A:NP):cM Tryz.prog (AZ A):=kK (C:=[(33,o_),(34,qe)]) (M:=[]) ⟨Ex,OG,trivial⟩ trivial
theorem Su (A:NP):∀ c,lS (AZ A).Q (AZ A).D (fun _=>[]) c=true→gk Tryz.prog (AZ A) c:=fun c h=>eT cF (Cf A) hm (fun _=>[]) c h
theorem agQ (A:NP):gk Tryz.prog (AZ A) (Ce [0])∧gk Tryz.prog (AZ A) (Ce [1,0])∧gk Tryz.prog (AZ A) (Ce [1,1,0])∧gk Tryz.prog (AZ A) (Ce [1,1,1,1]):=
 ⟨Su A _ (by kernel_rfl),Su A _ (by kernel_rfl),Su A _ (by kernel_rfl),Su A _ (by kernel_rfl)⟩
def eM (N:List bp) (V:List Int) (I:List ByteArray) (U:List aP):List ct:=
 if aU N V I U=true then (iF N V I U (bz N V U).1 (bz N V U).2 (cz N)).map stepOf else []
theorem Sv (hp:gO N V I U) (hc:aU N V I U=false) (A:NP) (w:World) (hG:bj (AZ A) w) :
 ∃ c,f15.body=some c∧fD Tryz.prog (AZ A) w c ⟨eH 0 [(cd N V I U)],[]⟩ .ret ⟨[(3,J 150),(2,.sl 0 gN []),(10,.bool true),(4,J 150),(1,pb 1 27),(0,(cd N V I U))],[(1,(bC N V I U))]⟩:=by
 obtain⟨id,hb⟩:=GI;obtain⟨d1,d2,d3,d4⟩:=agQ A;exact⟨_,hb,ei (dL (fun _ h=>h) cF (Cf A) hG d1 (UM N V I U A)) (pY (dL (fun _ h=>h) cF (Cf A) hG d2 (agG N V I U hp hc A)) (by simp))⟩
theorem I3 (hp:gO N V I U) (hc:aU N V I U=true) (A:NP) (w:World) (hG:bj (AZ A) w) {ob σ'} (h1:(∃ s',ob=yp ((cd N V I U)) 21 ((iF N V I U (bz N V U).1 (bz N V U).2 (cz N)).map stepOf) s')∨((iF N V I U (bz N V U).1 (bz N V U).2 (cz N))=[]∧ob=[(5,⟨.box 42,true,[.sl 29 gN []]⟩),(1,(bC N V I U))]))
 (hr:ki (I1 ((cd N V I U))) (fun c σ r=>∀ A lo L,a9 { AZ A with okA:=A,lo:=lo,lent:=L } H0 5 c σ=some r) [15,16] (Ce [1,1,1,0,1,0,0]) (Ce [1,1,1,0,1,0,1]) [5] [(5,pb 5 42)] ((iF N V I U (bz N V U).1 (bz N V U).2 (cz N)).map mi) [(5,⟨.box 42,true,[.sl 29 gN []]⟩),(1,(bC N V I U))] .norm ob)
 (h2:a9 (AZ A) H0 5 (Ce [1,1,1,1]) ⟨[(5,pb 5 42)],ob⟩=some (.ret,σ')) :
 ∃ c,f15.body=some c∧fD Tryz.prog (AZ A) w c ⟨eH 0 [(cd N V I U)],[]⟩ .ret σ':=by
 obtain⟨id,hb⟩:=GI;obtain⟨d1,d2,d3,d4⟩:=agQ A;obtain⟨o,c,g1,g2,g3,g4,⟨g,g5,g6⟩,g7⟩:=Ss;have hs:=alg;simp only[Bool.and_eq_true] at hs;refine⟨_,hb,ei (dL (fun _ h=>h) cF (Cf A) hG d1 (UM N V I U A)) (ei (dL (fun _ h=>h) cF (Cf A) hG d2 (agH N V I U hp hc A)) (ei (dL (fun _ h=>h) cF (Cf A) hG d3 (agI N V I U A)) (ei (ei
  (xR (fun _=>rfl) cF (Cf A) hG I2.1 I2.2 (agJ N V I U hp hc A) g1 g2 g3 g4 (Nat.le_of_ble_eq_true rfl) ⟨f37,K1,rfl,by decide⟩ g5 g6 (by rw[g7];rfl) (by simp[closed,mn]) (OV _ _ _ N V I U) (by simp[bq]))
  (m7 0 (xQ (tm:=[(5,pb 5 42)]) (fun _=>rfl) cF (Cf A) hG rfl (fun _ h=>h) rfl (OT N V I U _ _ _ (nr hp hc)) rfl (enters ⟨f72,h72,rfl,by decide⟩) (by kernel_rfl) (by kernel_rfl) (show ∀ p ∈ _,p < 22∧_ by simp) hs.1 hs.2 (fun _ _ h=>OU N V I U _ _ h) hr) (by simp)))
  (dL (fun _ h=>h) cF (Cf A) hG d4 h2))))⟩
theorem agR (hp:gO N V I U):tx Tryz.prog ty G0 15 [(cd N V I U)] (.cE [.sl 29 gT ((eM N V I U).map bo),J (cy (aU N V I U))]):=by
 have wrap:∀ {r:AV} {σ':St},(∀ A,dS (AZ A) σ' f15.results.toList=some [(aA 2 σ'.tm).getD .undef,(aA 3 σ'.tm).getD .undef])→(∀ A w,bj (AZ A) w→∃ c,f15.body=some c∧fD Tryz.prog (AZ A) w c ⟨eH 0 [(cd N V I U)],[]⟩ .ret σ')→
  (∀ A:Nat→Prop,(av (hand.gn ty σ'.ob 30 [(aA 2 σ'.tm).getD .undef,(aA 3 σ'.tm).getD .undef]) fun vs=>some (one vs))=some r)→tx Tryz.prog ty G0 15 [(cd N V I U)] r:=fun h1 h2 h3=>by
  obtain⟨id,hb⟩:=GI;exact uL (Ef:=AZ) (e:= .ret) (fun _=>rfl) (fun _=>rfl) (fun _=>rfl) cF nj (fun _=>rfl) hb (Nat.le_of_ble_eq_true rfl) (by simp[fo,fo.ml]) (.inr rfl) (fun A w hG=>by
   obtain⟨c,e,h⟩:=h2 A w hG;rw[hb] at e;injection e with e;subst e;exact h) (fun A=>by rw[h1 A];exact h3 A)
 cases hc:aU N V I U with
 | false=>
   refine tx.eK (wrap (r:= .cE [.sl 0 gN [],J 150]) (fun _=>rfl) (fun A w hG=>Sv N V I U hp hc A w hG) (fun _=>rfl)) ?_;simp[eM,hc,one,oa,j7,lT,uO,oc,cy]
 | true=>
   have hlen:=qg (eD N V I U (bz N V U).1 (bz N V U).2 (cz N)) (bF N V I) (M:=200000) (fun r=>by
    obtain⟨l1,l2,l3,l4⟩:=hp.lim;unfold bF;split <;> omega) 8 1
   cases hl:iF N V I U (bz N V U).1 (bz N V U).2 (cz N) with
   | nil=>
     refine tx.eK (wrap (r:= .cE [.sl 29 gN [],J 0]) (fun _=>rfl) (fun A w hG=>I3 N V I U hp hc A w hG (.inr ⟨hl,rfl⟩) (by rw[hl];exact .done _) (agO N V I U A)) (fun _=>rfl)) ?_;simp[eM,hc,hl,one,oa,j7,lT,uO,oc,cy]
   | cons y l=>
     have hn:l.length < 2000000:=by
      have:(iF N V I U (bz N V U).1 (bz N V U).2 (cz N)).length≤8 * 200000:=hlen;rw[hl] at this;simp at this;omega
     obtain⟨s',hr⟩:=Kr N V I U y l hn;refine tx.eK (wrap (r:= .cE [.sl 29 gT (((y::l).map stepOf).map bo),J 0]) (fun _=>rfl) (fun A w hG=>I3 N V I U hp hc A w hG (.inl ⟨s',by rw[hl];rfl⟩) (by rw[hl];exact hr) (agP N V I U ((y::l).map stepOf) s'.rule s'.at_ A)) (fun _=>?_)) ?_
     ·simp[hand.gn,hand,aA,av,one]
     ·simp[eM,hc,hl,one,oa,j7,lT,uO,oc,cy]
noncomputable def c15:=bk (α:=(List bp) × (List Int) × (List ByteArray) × (List aP)) (fun (N,V,I,U)=>gO N V I U) (fun (N,V,I,U)=>[(cd N V I U)]) (fun (N,V,I,U)=> .cE [.sl 29 gT ((eM N V I U).map bo),J (cy (aU N V I U))])
theorem OW (hp:gO N V I U):c15 [(cd N V I U)]=some (.cE [.sl 29 gT ((eM N V I U).map bo),J (cy (aU N V I U))]):=aJ (fun X Y hp bZ h'=>by
 obtain⟨N,V,I,U⟩:=X;obtain⟨c7,bJ,bL,bK⟩:=Y;simp only[cJ] at h';obtain⟨rfl,rfl,rfl,rfl⟩:=h';rfl) (N,V,I,U) hp
theorem UN:cI 15 c15:=aE nj rfl rfl fun (N,V,I,U) hp=>agR N V I U hp
def as_:List ct→aL→Int→aL × Int × Int
 | [],c,i=>(c,i,0)
 | s::r,c,i=>match s9 c.ops c.ints c.strs c.U s.rule s.at_ with
   | none=>(c,i,170)
   | some d=>as_ r d (i+1)
def ata (N:List bp) (V:List Int) (I:List ByteArray) (U:List aP) (ls:List ct):aL × Int × Int:=
 if aU N V I U=true then as_ ls ⟨N,V,I,U⟩ 0 else (⟨[],[],[],[]⟩,0,150)
theorem atn:∀ (l:List ct) (c:aL) (i:Int),(as_ l c i).2.2=0→(as_ l c i).2.1=i+l.length
 | [],c,i,_=>by simp[as_]
 | s::r,c,i,h=>by
   rw[as_] at h ⊢;split at h
   ·simp at h
   ·rename_i d hd
    skip
    have:=atn r d (i+1) h;simp only[this,List.length_cons];omega
theorem gM:Q 24=some f24:=by kernel_rfl
def D24:Nat→Option (List DH × List Nat):=fun i=>match i with | 8=>some ([⟨[10],[],[10]⟩,⟨[10],[],[10]⟩,⟨[10],[],[10]⟩,⟨[10],[],[10]⟩,⟨[10],[],[10]⟩,⟨[10],[],[10]⟩,⟨[10],[],[10]⟩,⟨[],[10],[]⟩,⟨[],[10],[]⟩,⟨[],[],[]⟩],[10]) | _=>none
theorem atx:D24 8=some ([⟨[10],[],[10]⟩,⟨[10],[],[10]⟩,⟨[10],[],[10]⟩,⟨[10],[],[10]⟩,⟨[10],[],[10]⟩,⟨[10],[],[10]⟩,⟨[10],[],[10]⟩,⟨[],[10],[]⟩,⟨[],[10],[]⟩,⟨[],[],[]⟩],[10]):=rfl
def H24:Nat→Hint:=fun i=>if i=6 then ({ tm:=[1,2,4,20,21,22],ob:=[2,4],fin:=some ([1,2,4,5,6],[2,4]) }:Hint) else { tm:=[],ob:=[] }
theorem atF:H24 6=({ tm:=[1,2,4,20,21,22],ob:=[2,4],fin:=some ([1,2,4,5,6],[2,4]) }:Hint):=by simp[H24]
theorem auR (ls:List ct) (hl:ls.length≤1000000) (A:NP) (k:Nat):∀ (r:List ct) (i:Nat) (c:aL) (σ:St),ls.drop i=r→i+r.length=ls.length→gO c.ops c.ints c.strs c.U→bx c=true→
 σ.cA (H24 6)=⟨[(1,.sl 29 gF (ls.map bo)),(2,pb 2 27),(4,pb 4 27),(20,.sl 29 gF (ls.map bo)),(21,J ls.length),(22,J i)],[(2,(bC c.ops c.ints c.strs c.U)),(4,⟨.box 27,true,[n4]⟩)]⟩→
 post (H24 6) (aG ty (a9 (jD Z0 (fun _=>false) 43 34375503863 D24 [(33,o_),(34,qe),(35,Cb),(46,ov)] [] A) H24 k (sub (f24.body.getD .skip) [1,1,1,0,1,0,0])) (H24 6) (r.length+1) σ) =
 some (if (as_ r c i).2.2=0 then (.exit 0,⟨[(1,.sl 29 gF (ls.map bo)),(2,pb 2 27),(4,pb 4 27)],[(2,⟨.box 27,false,[(cd (as_ r c i).1.ops (as_ r c i).1.ints (as_ r c i).1.strs (as_ r c i).1.U)]⟩),(4,⟨.box 27,true,[n4]⟩)]⟩) else (.ret,⟨[(1,.sl 29 gF (ls.map bo)),(2,pb 2 27),(4,pb 4 27),(5,J (as_ r c i).2.1),(6,J (as_ r c i).2.2)],[(2,⟨.box 27,false,[(cd (as_ r c i).1.ops (as_ r c i).1.ints (as_ r c i).1.strs (as_ r c i).1.U)]⟩),(4,⟨.box 27,false,[(cd (as_ r c i).1.ops (as_ r c i).1.ints (as_ r c i).1.strs (as_ r c i).1.U)]⟩)]⟩)):=by
 simp only[f24,sub,Option.getD_some,atF];intro r
 induction r with
 | nil=>
   intro i c σ hd hi de hc hσ;have h1:¬ ((i:Int) < (ls.length:Int)):=by simp at hi;omega
   rw[List.length_nil,aG,hσ];simp only[go_sem,atx,h1];simp[post,St.fin,aQ,aA,as_]
 | cons s r ih=>
   intro i c σ hd hi de hc hσ;have h1:(i:Int) < (ls.length:Int):=by simp at hi;omega
   have cY:(0:Int)≤(i:Int):=Int.natCast_nonneg i;have aR:i < ls.length:=by simp at hi;omega
   have hw:IntKind.i64.wrap ((i:Int)+1)=((i+1:Nat):Int):=a_ (by omega);have aw:ls[i]? = some s:=by
    have:=congrArg (fun l=>l[0]?) hd;simpa using this
   have qA:ls.drop (i+1)=r:=by
    have:=congrArg (fun l=>l.drop 1) hd;simpa[List.drop_drop,Nat.add_comm] using this
   have Sn:=B_ c.ops c.ints c.strs c.U ⟨⟨de.lim,de.str⟩,hc⟩;have Kn:=GG c.ops c.ints c.strs c.U (bz c.ops c.ints c.U).1 (bz c.ops c.ints c.U).2 (cz c.ops) s.rule s.at_ (nr de hc);have hap:eD c.ops c.ints c.strs c.U (bz c.ops c.ints c.U).1 (bz c.ops c.ints c.U).2 (cz c.ops) s.rule s.at_=s9 c.ops c.ints c.strs c.U s.rule s.at_:=rfl;rw[hap] at Kn;have aub:∀ d,s9 c.ops c.ints c.strs c.U s.rule s.at_=some d→gO d.ops d.ints d.strs d.U∧bx d=true:=fun d h=>OQ (nr de hc) de h
   have ahn:as_ (s::r) c i=match s9 c.ops c.ints c.strs c.U s.rule s.at_ with | none=>(c,(i:Int),170) | some d=>as_ r d (((i+1:Nat)):Int):=by
    rw[as_];rfl
   rw[List.length_cons,aG,hσ,ahn];cases hx:s9 c.ops c.ints c.strs c.U s.rule s.at_ with
   | none=>
     rw[hx] at Kn;simp only[aS,ax] at Kn;simp only[go_sem,atx,h1,hw,bo,aw,cY,Sn,Kn];simp[post,St.fin,aQ,aA,as_]
   | some d=>
     rw[hx] at Kn;simp only[aS,ax] at Kn;obtain⟨auc,Ug⟩:=aub d hx;simp only[go_sem,atx,h1,hw,bo,aw,cY,Sn,Kn];refine ih (i+1) d _ qA (by simp at hi ⊢;omega) auc Ug ?_;simp only[go_sem,hw];try rfl
theorem awv (ls:List ct) (hp:gO N V I U∧ls.length≤1000000) :∃ r,wk r (.cE [ax (ata N V I U ls).1,J (ata N V I U ls).2.1,J (ata N V I U ls).2.2])∧∀ A,ak (jD Z0 (fun _=>false) 43 34375503863 D24 [(33,o_),(34,qe),(35,Cb),(46,ov)] [] A) (H24) ((ls.length+1)) f24 [(cd N V I U),.sl 29 gF (ls.map bo)]=some r:=by
 have mP:=qb N V I U ⟨hp.1.lim,hp.1.str⟩;have auS:=Sr N V I U hp.1.lim;unfold ata;cases hc:aU N V I U
 ·rw[hc] at mP;simp only[cy,BL] at mP ⊢;apply bu
  ·intro A;simp only[ak,ai,f24];simp only[go_sem,atx,mP,auS,atF];rfl
  ·simp[WK,aS,ax]
 ·rw[hc] at mP;simp only[cy,BL] at mP ⊢;have hl:=fun A=>auR ls hp.2 A (ls.length+1) ls 0 ⟨N,V,I,U⟩
  simp only[f24,sub,Option.getD_some,atF] at hl;have hn:=atn ls ⟨N,V,I,U⟩ 0;by_cases h0:(as_ ls ⟨N,V,I,U⟩ 0).2.2=0;all_goals
   apply bu
   ·intro A;simp only[ak,ai,f24];simp only[go_sem,atx,mP,auS,atF];rw[hl A _ rfl (by simp) hp.1 hc (by simp only[go_sem])];simp only[Int.natCast_zero,h0,reduceIte,BL];simp only[go_sem,atx,mP,auS,atF];rfl
   ·simp[WK,aS,ax];try exact⟨by simpa using hn h0,h0⟩
noncomputable def c24:=bk (α:=(List bp) × (List Int) × (List ByteArray) × (List aP) × (List ct)) (fun (N,V,I,U,ls)=>gO N V I U∧ls.length≤1000000) (fun (N,V,I,U,ls)=>[(cd N V I U),.sl 29 gF (ls.map bo)]) (fun (N,V,I,U,ls)=> .cE [ax (ata N V I U ls).1,J (ata N V I U ls).2.1,J (ata N V I U ls).2.2])
theorem auT (ls:List ct) (hp:gO N V I U∧ls.length≤1000000):c24 [(cd N V I U),.sl 29 gF (ls.map bo)]=some (.cE [ax (ata N V I U ls).1,J (ata N V I U ls).2.1,J (ata N V I U ls).2.2]):=aJ (fun X Y hp bZ h'=>by
 obtain⟨N,V,I,U,ls⟩:=X;obtain⟨c7,bJ,bL,bK,ls'⟩:=Y;simp only[cJ] at h';obtain⟨rfl,rfl,rfl,rfl,rfl⟩:=h';rfl) (N,V,I,U,ls) hp
theorem awx:cI 24 c24:=aE gM rfl rfl fun (N,V,I,U,ls) hp=>let ⟨_,hw,hr⟩:=awv N V I U ls hp;(rX gM hr (fun i=>match i with | 8=>[0,1,0,7,15,31,31,0,191,511] | _=>[]) rfl rfl rfl (by kernel_rfl) ⟨Ex,OG,UI,ZF,trivial⟩ trivial).eK hw
theorem vI (Z:Nat→List Nat) (W:FuncId→Bool) (n K:Nat) (D:Nat→Option (List DH × List Nat)) (C:CK) (M:MK) (lo:Option Nat) (A L:NP):(p9 Z W n K D C M lo A L).ty=ty:=rfl
theorem Cg (Z:Nat→List Nat) (W:FuncId→Bool) (n K:Nat) (D:Nat→Option (List DH × List Nat)) (C:CK) (M:MK) (lo:Option Nat) (A L:NP):(p9 Z W n K D C M lo A L).G=G0:=rfl
theorem Ch (Z:Nat→List Nat) (W:FuncId→Bool) (n K:Nat) (D:Nat→Option (List DH × List Nat)) (C:CK) (M:MK) (lo:Option Nat) (A L:NP):(p9 Z W n K D C M lo A L).n=n:=rfl
theorem Ci (Z:Nat→List Nat) (W:FuncId→Bool) (n K:Nat) (D:Nat→Option (List DH × List Nat)) (C:CK) (M:MK) (lo:Option Nat) (A L:NP):(p9 Z W n K D C M lo A L).K=K:=rfl
theorem Cj (Z:Nat→List Nat) (W:FuncId→Bool) (n K:Nat) (D:Nat→Option (List DH × List Nat)) (C:CK) (M:MK) (lo:Option Nat) (A L:NP):(p9 Z W n K D C M lo A L).C=(rQ C):=rfl
theorem Ck (Z:Nat→List Nat) (W:FuncId→Bool) (n K:Nat) (D:Nat→Option (List DH × List Nat)) (C:CK) (M:MK) (lo:Option Nat) (A L:NP):(p9 Z W n K D C M lo A L).D=D:=rfl
theorem Cl (Z:Nat→List Nat) (W:FuncId→Bool) (n K:Nat) (D:Nat→Option (List DH × List Nat)) (C:CK) (M:MK) (lo:Option Nat) (A L:NP):(p9 Z W n K D C M lo A L).W=W:=rfl
theorem Cm (Z:Nat→List Nat) (W:FuncId→Bool) (n K:Nat) (D:Nat→Option (List DH × List Nat)) (C:CK) (M:MK) (lo:Option Nat) (A L:NP):(p9 Z W n K D C M lo A L).M=(Nx M):=rfl
theorem Cn (Z:Nat→List Nat) (W:FuncId→Bool) (n K:Nat) (D:Nat→Option (List DH × List Nat)) (C:CK) (M:MK) (lo:Option Nat) (A L:NP):(p9 Z W n K D C M lo A L).Q=mc:=rfl
theorem Co (Z:Nat→List Nat) (W:FuncId→Bool) (n K:Nat) (D:Nat→Option (List DH × List Nat)) (C:CK) (M:MK) (lo:Option Nat) (A L:NP):(p9 Z W n K D C M lo A L).Z=Z:=rfl
theorem vo:Q 22=some f22:=by kernel_rfl
def GJ:Nat→Option (List DH × List Nat):=fun i=>match i with | 11=>some ([⟨[],[],[]⟩,⟨[2],[],[]⟩,⟨[],[2],[]⟩,⟨[],[],[]⟩,⟨[],[],[]⟩],[]) | _=>none
theorem jJ:GJ 11=some ([⟨[],[],[]⟩,⟨[2],[],[]⟩,⟨[],[2],[]⟩,⟨[],[],[]⟩,⟨[],[],[]⟩],[]):=rfl
theorem UO (c:aL) (A:NP):a9 (jD Z0 (fun _=>false) 29 3674623 GJ [(33,o_),(34,qe),(46,ov)] [] A) H0 5 (ch (f22.body.getD .skip) [0]) ⟨[(0,(cd c.ops c.ints c.strs c.U))],[]⟩=some (.norm,⟨[(4,J 0),(3,.sl 0 gN []),(2,pb 2 27),(1,pb 1 27),(0,(cd c.ops c.ints c.strs c.U))],[(2,⟨.box 27,true,[n4]⟩),(1,(bC c.ops c.ints c.strs c.U))]⟩):=by
 simp only[f22,ch,Option.getD_some];simp only[go_sem,ch,Option.getD_some,jJ];try rfl
theorem agT (c:aL) (hp:gO c.ops c.ints c.strs c.U) (hc:aU c.ops c.ints c.strs c.U=false) (A:NP):a9 (jD Z0 (fun _=>false) 29 3674623 GJ [(33,o_),(34,qe),(46,ov)] [] A) H0 5 (ch (f22.body.getD .skip) [1,0,0]) ⟨[(4,J 0),(3,.sl 0 gN []),(2,pb 2 27),(1,pb 1 27),(0,(cd c.ops c.ints c.strs c.U))],[(2,⟨.box 27,true,[n4]⟩),(1,(bC c.ops c.ints c.strs c.U))]⟩=some (.ret,⟨[(4,J 150),(3,.sl 0 gN []),(12,.bool true),(5,J 150),(2,pb 2 27),(1,pb 1 27),(0,(cd c.ops c.ints c.strs c.U))],[(2,⟨.box 27,true,[n4]⟩),(1,(bC c.ops c.ints c.strs c.U))]⟩):=by
 simp only[f22,ch,Option.getD_some];have mP:=qb c.ops c.ints c.strs c.U ⟨hp.lim,hp.str⟩;rw[hc] at mP;simp only[cy,BL] at mP;simp only[go_sem,ch,Option.getD_some,jJ,mP];try rfl
theorem agU (c:aL) (hp:gO c.ops c.ints c.strs c.U) (hc:aU c.ops c.ints c.strs c.U=true) (A:NP):a9 (jD Z0 (fun _=>false) 29 3674623 GJ [(33,o_),(34,qe),(46,ov)] [] A) H0 5 (ch (f22.body.getD .skip) [1,0,0]) ⟨[(4,J 0),(3,.sl 0 gN []),(2,pb 2 27),(1,pb 1 27),(0,(cd c.ops c.ints c.strs c.U))],[(2,⟨.box 27,true,[n4]⟩),(1,(bC c.ops c.ints c.strs c.U))]⟩=some (.norm,⟨[(12,.bool false),(5,J 0),(4,J 0),(3,.sl 0 gN []),(2,pb 2 27),(1,pb 1 27),(0,(cd c.ops c.ints c.strs c.U))],[(2,⟨.box 27,true,[n4]⟩),(1,(bC c.ops c.ints c.strs c.U))]⟩):=by
 simp only[f22,ch,Option.getD_some];have mP:=qb c.ops c.ints c.strs c.U ⟨hp.lim,hp.str⟩;rw[hc] at mP;simp only[cy,BL] at mP;simp only[go_sem,ch,Option.getD_some,jJ,mP];try rfl
theorem agV (c:aL) (A:NP):a9 (jD Z0 (fun _=>false) 29 3674623 GJ [(33,o_),(34,qe),(46,ov)] [] A) H0 5 (ch (f22.body.getD .skip) [1,0,1,0]) ⟨[(12,.bool false),(5,J 0),(4,J 0),(3,.sl 0 gN []),(2,pb 2 27),(1,pb 1 27),(0,(cd c.ops c.ints c.strs c.U))],[(2,⟨.box 27,true,[n4]⟩),(1,(bC c.ops c.ints c.strs c.U))]⟩=some (.norm,⟨[(6,pb 6 42),(12,.bool false),(5,J 0),(4,J 0),(3,.sl 0 gN []),(2,pb 2 27),(1,pb 1 27),(0,(cd c.ops c.ints c.strs c.U))],[(6,⟨.box 42,true,[.sl 29 gN []]⟩),(2,⟨.box 27,true,[n4]⟩),(1,(bC c.ops c.ints c.strs c.U))]⟩):=by
 simp only[f22,ch,Option.getD_some];simp only[go_sem,ch,Option.getD_some,jJ];try rfl
theorem agW (c:aL) (hp:gO c.ops c.ints c.strs c.U) (A:NP):a9 (jD Z0 (fun _=>false) 29 3674623 GJ [(33,o_),(34,qe),(46,ov)] [] A) H0 5 (ch (f22.body.getD .skip) [1,0,1,1,0]) ⟨[(6,pb 6 42),(12,.bool false),(5,J 0),(4,J 0),(3,.sl 0 gN []),(2,pb 2 27),(1,pb 1 27),(0,(cd c.ops c.ints c.strs c.U))],[(6,⟨.box 42,true,[.sl 29 gN []]⟩),(2,⟨.box 27,true,[n4]⟩),(1,(bC c.ops c.ints c.strs c.U))]⟩=some (.norm,⟨[(6,pb 6 42),(12,.bool false),(5,J 0),(4,J 0),(3,.sl 0 gN []),(2,pb 2 27),(1,pb 1 27),(0,(cd c.ops c.ints c.strs c.U))],[(1,(bC c.ops c.ints c.strs c.U)),(6,⟨.box 42,true,[.sl 29 gN []]⟩),(2,⟨.box 27,true,[n4]⟩)]⟩):=by
 simp only[f22,ch,Option.getD_some];have rS:=Sr c.ops c.ints c.strs c.U hp.lim;simp only[go_sem,ch,Option.getD_some,jJ,rS];try rfl
noncomputable def kC:Array Oper:=match ch (f22.body.getD .skip) [1,0,1,1,1,1,0,0,0,0,0,0] with | .region _ N _=>N | _=>#[]
theorem agX (c:aL) (hp:gO c.ops c.ints c.strs c.U) (hc:aU c.ops c.ints c.strs c.U=true)  (A:NP):gS (jD Z0 (fun _=>false) 29 3674623 GJ [(33,o_),(34,qe),(46,ov)] [] A) kC.toList (kC.toList.take 2) ⟨[(1,pb 1 27),(2,pb 2 27),(6,pb 6 42)],[(6,⟨.box 42,true,[.sl 29 gN []]⟩),(1,(bC c.ops c.ints c.strs c.U)),(2,⟨.box 27,true,[n4]⟩)]⟩=some ⟨[(18,.ro false 106 (.st 106 [(cd c.ops c.ints c.strs c.U),.sl 119 gT ((bz c.ops c.ints c.U).1.map aF),.sl 4 gT ((bz c.ops c.ints c.U).2.map eB),.sl 109 gT ((cz c.ops).map eU)])),(17,(cd c.ops c.ints c.strs c.U)),(1,pb 1 27),(2,pb 2 27),(6,pb 6 42)],[(6,⟨.box 42,true,[.sl 29 gN []]⟩),(1,(bC c.ops c.ints c.strs c.U)),(2,⟨.box 27,true,[n4]⟩)]⟩:=by
 have Sn:=B_ c.ops c.ints c.strs c.U ⟨⟨hp.lim,hp.str⟩,hc⟩;simp only[kC,f22,ch,Option.getD_some,List.take_succ_cons,List.take_zero];simp only[go_sem,ch,Option.getD_some,jJ,Sn];try rfl
theorem agY (c:aL) (hp:gO c.ops c.ints c.strs c.U) (hc:aU c.ops c.ints c.strs c.U=true) (xs:List ct) (A:NP):gS (jD Z0 (fun _=>false) 29 3674623 GJ [(33,o_),(34,qe),(46,ov)] [] A) kC.toList (kC.toList.take 2) ⟨[(1,pb 1 27),(2,pb 2 27),(6,pb 6 42)],[(6,⟨.box 42,true,[.own 27 29 0 xs.length]⟩),(27,⟨.row 29,true,xs.map bo⟩),(1,(bC c.ops c.ints c.strs c.U)),(2,⟨.box 27,true,[n4]⟩)]⟩=some ⟨[(18,.ro false 106 (.st 106 [(cd c.ops c.ints c.strs c.U),.sl 119 gT ((bz c.ops c.ints c.U).1.map aF),.sl 4 gT ((bz c.ops c.ints c.U).2.map eB),.sl 109 gT ((cz c.ops).map eU)])),(17,(cd c.ops c.ints c.strs c.U)),(1,pb 1 27),(2,pb 2 27),(6,pb 6 42)],[(6,⟨.box 42,true,[.own 27 29 0 xs.length]⟩),(27,⟨.row 29,true,xs.map bo⟩),(1,(bC c.ops c.ints c.strs c.U)),(2,⟨.box 27,true,[n4]⟩)]⟩:=by
 have Sn:=B_ c.ops c.ints c.strs c.U ⟨⟨hp.lim,hp.str⟩,hc⟩;simp only[kC,f22,ch,Option.getD_some,List.take_succ_cons,List.take_zero];simp only[go_sem,ch,Option.getD_some,jJ,Sn];try rfl
theorem agZ (c d:aL) (r q:Int) (lo:Option Nat) (A L:NP):a9 (p9 Z0 (fun _=>false) 29 3674623 GJ [(33,o_),(34,qe),(46,ov)] [] lo A L) H0 5 (ch (f22.body.getD .skip) [1,0,1,1,1,1,0,0,0,0,0,1,0,0]) ⟨[(21,(cd d.ops d.ints d.strs d.U)),(20,.st 29 [J r,J q]),(1,pb 1 27),(2,pb 2 27),(6,pb 6 42)],[(6,⟨.box 42,true,[.sl 29 gN []]⟩),(1,(bC c.ops c.ints c.strs c.U)),(2,⟨.box 27,true,[n4]⟩)]⟩=some (.norm,⟨[(8,pb 8 27),(7,pb 7 29),(21,(cd d.ops d.ints d.strs d.U)),(20,.st 29 [J r,J q]),(1,pb 1 27),(2,pb 2 27),(6,pb 6 42)],[(8,(bC d.ops d.ints d.strs d.U)),(7,⟨.box 29,true,[.st 29 [J r,J q]]⟩),(6,⟨.box 42,true,[.sl 29 gN []]⟩),(1,(bC c.ops c.ints c.strs c.U)),(2,⟨.box 27,true,[n4]⟩)]⟩):=by
 simp only[f22,ch,Option.getD_some];simp only[go_sem,ch,Option.getD_some,jJ,vI,Cg,Ch,Ci,Cj,Ck,Cl,Cm,Cn,Co];try rfl
theorem ag0 (c d:aL) (r q:Int) (xs:List ct) (lo:Option Nat) (A L:NP):a9 (p9 Z0 (fun _=>false) 29 3674623 GJ [(33,o_),(34,qe),(46,ov)] [] lo A L) H0 5 (ch (f22.body.getD .skip) [1,0,1,1,1,1,0,0,0,0,0,1,0,0]) ⟨[(21,(cd d.ops d.ints d.strs d.U)),(20,.st 29 [J r,J q]),(1,pb 1 27),(2,pb 2 27),(6,pb 6 42)],[(6,⟨.box 42,true,[.own 27 29 0 xs.length]⟩),(27,⟨.row 29,true,xs.map bo⟩),(1,(bC c.ops c.ints c.strs c.U)),(2,⟨.box 27,true,[n4]⟩)]⟩=some (.norm,⟨[(8,pb 8 27),(7,pb 7 29),(21,(cd d.ops d.ints d.strs d.U)),(20,.st 29 [J r,J q]),(1,pb 1 27),(2,pb 2 27),(6,pb 6 42)],[(8,(bC d.ops d.ints d.strs d.U)),(7,⟨.box 29,true,[.st 29 [J r,J q]]⟩),(6,⟨.box 42,true,[.own 27 29 0 xs.length]⟩),(27,⟨.row 29,true,xs.map bo⟩),(1,(bC c.ops c.ints c.strs c.U)),(2,⟨.box 27,true,[n4]⟩)]⟩):=by
 simp only[f22,ch,Option.getD_some];simp only[go_sem,ch,Option.getD_some,jJ,vI,Cg,Ch,Ci,Cj,Ck,Cl,Cm,Cn,Co];try rfl
theorem ag1 (c d:aL) (r q:Int) (lo:Option Nat) (A L:NP):a9 (p9 Z0 (fun _=>false) 29 3674623 GJ [(33,o_),(34,qe),(46,ov)] [] lo A L) H0 5 (ch (f22.body.getD .skip) [1,0,1,1,1,1,0,0,0,0,0,1,0,1]) ⟨[(8,pb 8 27),(7,pb 7 29),(21,(cd d.ops d.ints d.strs d.U)),(20,.st 29 [J r,J q]),(1,pb 1 27),(2,pb 2 27),(6,pb 6 42)],[(8,(bC d.ops d.ints d.strs d.U)),(7,⟨.box 29,true,[.st 29 [J r,J q]]⟩),(6,⟨.box 42,true,[.sl 29 gN []]⟩),(1,(bC c.ops c.ints c.strs c.U)),(2,⟨.box 27,true,[n4]⟩)]⟩=some (.exit 1,⟨[(8,pb 8 27),(7,pb 7 29),(21,(cd d.ops d.ints d.strs d.U)),(20,.st 29 [J r,J q]),(1,pb 1 27),(2,pb 2 27),(6,pb 6 42)],[(6,⟨.box 42,true,[.own 26 29 0 1]⟩),(26,⟨.row 29,true,[.st 29 [J r,J q]]⟩),(25,⟨.row 29,true,[.st 29 [J r,J q]]⟩),(1,(bC d.ops d.ints d.strs d.U)),(8,(bC d.ops d.ints d.strs d.U)),(7,⟨.box 29,true,[.st 29 [J r,J q]]⟩),(2,⟨.box 27,true,[n4]⟩)]⟩):=by
 simp only[f22,ch,Option.getD_some];simp only[go_sem,ch,Option.getD_some,jJ,vI,Cg,Ch,Ci,Cj,Ck,Cl,Cm,Cn,Co];try rfl
theorem ag2 (c d:aL) (r q:Int) (xs:List ct) (hx:xs.length < 10000000) (lo:Option Nat) (A L:NP):a9 (p9 Z0 (fun _=>false) 29 3674623 GJ [(33,o_),(34,qe),(46,ov)] [] lo A L) H0 5 (ch (f22.body.getD .skip) [1,0,1,1,1,1,0,0,0,0,0,1,0,1]) ⟨[(8,pb 8 27),(7,pb 7 29),(21,(cd d.ops d.ints d.strs d.U)),(20,.st 29 [J r,J q]),(1,pb 1 27),(2,pb 2 27),(6,pb 6 42)],[(8,(bC d.ops d.ints d.strs d.U)),(7,⟨.box 29,true,[.st 29 [J r,J q]]⟩),(6,⟨.box 42,true,[.own 27 29 0 xs.length]⟩),(27,⟨.row 29,true,xs.map bo⟩),(1,(bC c.ops c.ints c.strs c.U)),(2,⟨.box 27,true,[n4]⟩)]⟩=some (.exit 1,⟨[(8,pb 8 27),(7,pb 7 29),(21,(cd d.ops d.ints d.strs d.U)),(20,.st 29 [J r,J q]),(1,pb 1 27),(2,pb 2 27),(6,pb 6 42)],[(6,⟨.box 42,true,[.own 26 29 0 (xs.length+1)]⟩),(26,⟨.row 29,true,(xs.map bo++[.st 29 [J r,J q]])⟩),(25,⟨.row 29,true,[.st 29 [J r,J q]]⟩),(1,(bC d.ops d.ints d.strs d.U)),(8,(bC d.ops d.ints d.strs d.U)),(7,⟨.box 29,true,[.st 29 [J r,J q]]⟩),(2,⟨.box 27,true,[n4]⟩)]⟩):=by
 simp only[f22,ch,Option.getD_some];have iM:((xs.length+1) * 16≤140737488355328)=True:=by simp;omega
 have hlen:(xs.length≤140737488355327)=True:=by simp;omega
 simp only[go_sem,ch,Option.getD_some,jJ,vI,Cg,Ch,Ci,Cj,Ck,Cl,Cm,Cn,Co,iM,hlen];try rfl
theorem ag3 (c:aL) (A:NP):a9 (jD Z0 (fun _=>false) 29 3674623 GJ [(33,o_),(34,qe),(46,ov)] [] A) H0 5 (ch (f22.body.getD .skip) [1,0,1,1,1,1,1]) ⟨[(1,pb 1 27),(2,pb 2 27),(6,pb 6 42)],[(6,⟨.box 42,true,[.sl 29 gN []]⟩),(1,(bC c.ops c.ints c.strs c.U)),(2,⟨.box 27,true,[n4]⟩)]⟩=some (.ret,⟨[(4,J 0),(3,.sl 29 gN []),(1,pb 1 27),(2,pb 2 27),(6,pb 6 42)],[(2,(bC c.ops c.ints c.strs c.U)),(6,⟨.box 42,true,[.sl 29 gN []]⟩),(1,(bC c.ops c.ints c.strs c.U))]⟩):=by
 simp only[f22,ch,Option.getD_some];simp only[go_sem,ch,Option.getD_some,jJ];try rfl
theorem ag4 (c:aL) (xs:List ct) (A:NP):a9 (jD Z0 (fun _=>false) 29 3674623 GJ [(33,o_),(34,qe),(46,ov)] [] A) H0 5 (ch (f22.body.getD .skip) [1,0,1,1,1,1,1]) ⟨[(1,pb 1 27),(2,pb 2 27),(6,pb 6 42)],[(6,⟨.box 42,true,[.own 27 29 0 xs.length]⟩),(27,⟨.row 29,true,xs.map bo⟩),(1,(bC c.ops c.ints c.strs c.U)),(2,⟨.box 27,true,[n4]⟩)]⟩=some (.ret,⟨[(4,J 0),(3,.own 27 29 0 xs.length),(1,pb 1 27),(2,pb 2 27),(6,pb 6 42)],[(2,(bC c.ops c.ints c.strs c.U)),(6,⟨.box 42,true,[.own 27 29 0 xs.length]⟩),(27,⟨.row 29,true,xs.map bo⟩),(1,(bC c.ops c.ints c.strs c.U))]⟩):=by
 simp only[f22,ch,Option.getD_some];simp only[go_sem,ch,Option.getD_some,jJ];try rfl
noncomputable abbrev r9 (A:NP):Env:=jD Z0 (fun _=>false) 29 3674623 GJ [(33,o_),(34,qe),(46,ov)] [] A
noncomputable abbrev zc (p:List Nat):Code:=ch (f22.body.getD .skip) p
def ZG (c:aL):List (Nat × Abs.Obj):=[(6,⟨.box 42,true,[.sl 29 gN []]⟩),(1,(bC c.ops c.ints c.strs c.U)),(2,⟨.box 27,true,[n4]⟩)]
def EK (c:aL) (xs:List ct):List (Nat × Abs.Obj):=if xs=[] then ZG c else [(6,⟨.box 42,true,[.own 27 29 0 xs.length]⟩),(27,⟨.row 29,true,xs.map bo⟩),(1,(bC c.ops c.ints c.strs c.U)),(2,⟨.box 27,true,[n4]⟩)]
def EL (d:aL) (xs:List ct) (s:ct):List (Nat × Abs.Obj):=[(6,⟨.box 42,true,[.own 26 29 0 xs.length]⟩),(26,⟨.row 29,true,(xs.map bo)⟩),(25,⟨.row 29,true,[bo s]⟩),(1,(bC d.ops d.ints d.strs d.U)),(8,(bC d.ops d.ints d.strs d.U)),(7,⟨.box 29,true,[bo s]⟩),(2,⟨.box 27,true,[n4]⟩)]
theorem ag5 (d:aL) (xs:List ct) (s:ct) (hx:xs ≠ []) (E:Env) (w0:World) {P:Program} {c:Code} {σ:St} {e:AX} (h:fD P E w0 c σ e ⟨[(1,pb 1 27),(2,pb 2 27),(6,pb 6 42)],EL d xs s⟩):fD P E w0 c σ e ⟨[(1,pb 1 27),(2,pb 2 27),(6,pb 6 42)],EK d xs⟩:=by
 refine (h.jx (ob2:=bE 6 ⟨.box 42,true,[.own 27 29 0 xs.length]⟩ (bE 27 ⟨.row 29,true,xs.map bo⟩ (cK 26 (EL d xs s)))) fun a w β hS=>hS.Ix (p:=6) (o:=26) (c:=27) (t:=29) (n:=xs.length) rfl rfl (by simp[St.free,St.free.qs,St.free.kZ,EL,bA,bA.du,bo]) (by decide) (by decide) (by decide)).less (fun _ _ h=>h) fun o b hb=>?_
 unfold EK at hb;rw[if_neg hx] at hb;rw[bn,bn,cZ];by_cases h6:6=o
 ·subst h6;simpa[aA] using hb
 by_cases e_:27=o
 ·subst e_;simpa[aA] using hb
 by_cases h1:1=o
 ·subst h1;simpa[aA,EL] using hb
 by_cases h2:2=o
 ·subst h2;simpa[aA,EL] using hb
 ·simp[aA,h6,e_,h1,h2] at hb
theorem alh:(bQ [1,2,6] (zc [1,0,1,1,1,1,0,0,0,0,0,1,0,0])&&bQ [1,2,6] (zc [1,0,1,1,1,1,0,0,0,0,0,1,0,1]))=true:=by kernel_rfl
theorem I4:kC.size=2+1∧((kC.toList.take 2).all fun o=>oG o.op&&(match o.dst with | some t=> !([]:List Nat).contains t | none=>true))=true:=⟨by kernel_rfl,by kernel_rfl⟩
theorem Sw:∃ o c,kC[2]? = some o∧o.guard=none∧o.op = .call c∧o.dst=some 19∧(∃ g,c.callee = .value g∧∀ a:Act,a.eval g = .func (.func 37) #[] #[])∧c.args.toList=[.tmp 18]:=⟨_,_,rfl,rfl,rfl,rfl,⟨_,rfl,fun _=>rfl⟩,rfl⟩
theorem zd (A:NP):cM Tryz.prog (r9 A):=NA (C:=[(33,o_),(34,qe),(46,ov)]) (M:=[]) ⟨Ex,OG,ZF,trivial⟩ trivial
theorem OX (A:NP):∀ c,lS (r9 A).Q (r9 A).D (fun i=>match i with | 11=>[0,0,1,7,15] | _=>[]) c=true→gk Tryz.prog (r9 A) c:=fun c h=>eT cF (zd A) hm (fun i=>match i with | 11=>[0,0,1,7,15] | _=>[]) c h
theorem ag6 (A:NP):gk Tryz.prog (r9 A) (zc [0])∧gk Tryz.prog (r9 A) (zc [1,0,0])∧gk Tryz.prog (r9 A) (zc [1,0,1,0])∧gk Tryz.prog (r9 A) (zc [1,0,1,1,0])∧gk Tryz.prog (r9 A) (zc [1,0,1,1,1,1,1]):=
 ⟨OX A _ (by kernel_rfl),OX A _ (by kernel_rfl),OX A _ (by kernel_rfl),OX A _ (by kernel_rfl),OX A _ (by kernel_rfl)⟩
theorem GK:∃ id,f22.body=some (.seq (zc [0]) (.scope (.seq (zc [1,0,0]) (.seq (zc [1,0,1,0]) (.seq (zc [1,0,1,1,0]) (.seq (.label 0) (.seq (.block 0 (.loop (.block 1 (.seq (.seq (.region id kC false) (.block 2 (.rangeFunc (.tmp 19) #[20,21] (zc [1,0,1,1,1,1,0,0,0,0,0,1,0,0]) (zc [1,0,1,1,1,1,0,0,0,0,0,1,0,1])))) (.exit 0))))) (zc [1,0,1,1,1,1,1])))))))):=⟨_,rfl⟩
def s_ (c:aL):List (Int × Int × aL):=iF c.ops c.ints c.strs c.U (bz c.ops c.ints c.U).1 (bz c.ops c.ints c.U).2 (cz c.ops)
def runN:Nat→aL→Option (aL × List ct)
 | 0,_=>none
 | n+1,c=>match s_ c with
   | []=>some (c,[])
   | y::_=>(runN n y.2.2).map fun p=>(p.1,stepOf y::p.2)
theorem yr {ap:Int→Option aL} {r:Int}:∀ {m:Nat} {q:Int} {y:Int × Int × aL},y ∈ iD ap r m q→y.1=r∧ap y.2.1=some y.2.2
 | 0,q,y,h=>by simp[iD] at h
 | m+1,q,y,h=>by
   simp only[iD,List.mem_append] at h;rcases h with h | h
   ·split at h
    ·rename_i c hc;simp at h;subst h;exact⟨rfl,hc⟩
    ·simp at h
   ·exact yr h
theorem yt {ap:Int→Int→Option aL} {pl:Int→Int}:∀ {m:Nat} {r:Int} {y:Int × Int × aL},y ∈ iE ap pl m r→ap y.1 y.2.1=some y.2.2
 | 0,r,y,h=>by simp[iE] at h
 | m+1,r,y,h=>by
   simp only[iE,List.mem_append] at h;rcases h with h | h
   ·obtain⟨h1,h2⟩:=yr h;rw[h1];exact h2
   ·exact yt h
theorem Ks {c:aL} (de:gO c.ops c.ints c.strs c.U) (hc:bx c=true) {y:Int × Int × aL} {r:List (Int × Int × aL)} (h:s_ c=y::r):gO y.2.2.ops y.2.2.ints y.2.2.strs y.2.2.U∧bx y.2.2=true:=by
 have hm:y ∈ s_ c:=by rw[h];simp
 exact OQ (nr de hc) de (yt hm)
theorem I5 (c:aL) (hp:gO c.ops c.ints c.strs c.U) (hc:bx c=true) (A:NP) (w:World) (hG:bj (r9 A) w) {ob fP:List (Nat × Abs.Obj)} {e:AX} (he:e ≠ .exit 2) {id:Nat}
 (h1:gS (r9 A) kC.toList (kC.toList.take 2) ⟨[(1,pb 1 27),(2,pb 2 27),(6,pb 6 42)],ob⟩=some ⟨(18,.ro false 106 (.st 106 [(cd c.ops c.ints c.strs c.U),.sl 119 gT ((bz c.ops c.ints c.U).1.map aF),.sl 4 gT ((bz c.ops c.ints c.U).2.map eB),.sl 109 gT ((cz c.ops).map eU)]))::(17,(cd c.ops c.ints c.strs c.U))::[(1,pb 1 27),(2,pb 2 27),(6,pb 6 42)],ob⟩)
 (hr:ki (fun _ _=>False) (fun c σ r=>∀ A lo L,a9 { r9 A with okA:=A,lo:=lo,lent:=L } H0 5 c σ=some r) [20,21] (zc [1,0,1,1,1,1,0,0,0,0,0,1,0,0]) (zc [1,0,1,1,1,1,0,0,0,0,0,1,0,1]) [1,2,6] [(1,pb 1 27),(2,pb 2 27),(6,pb 6 42)] ((s_ c).map mi) ob e fP) :
 fD Tryz.prog (r9 A) w (.seq (.region id kC false) (.block 2 (.rangeFunc (.tmp 19) #[20,21] (zc [1,0,1,1,1,1,0,0,0,0,0,1,0,0]) (zc [1,0,1,1,1,1,0,0,0,0,0,1,0,1])))) ⟨[(1,pb 1 27),(2,pb 2 27),(6,pb 6 42)],ob⟩ e ⟨[(1,pb 1 27),(2,pb 2 27),(6,pb 6 42)],fP⟩:=by
 obtain⟨o,cc,g1,g2,g3,g4,⟨g,g5,g6⟩,g7⟩:=Sw;have hs:=alh;simp only[Bool.and_eq_true] at hs;exact ei (xR (fun _=>rfl) cF (zd A) hG I4.1 I4.2 h1 g1 g2 g3 g4 (Nat.le_of_ble_eq_true rfl) ⟨f37,K1,rfl,by decide⟩ g5 g6 (by rw[g7];rfl) (by simp[closed,mn]) (OV _ _ _ c.ops c.ints c.strs c.U) (by simp[bq]))
  (m7 2 (xQ (tm:=[(1,pb 1 27),(2,pb 2 27),(6,pb 6 42)]) (fun _=>rfl) cF (zd A) hG rfl (fun _ h=>h) rfl (OT c.ops c.ints c.strs c.U _ _ _ (nr hp hc)) rfl (enters ⟨f72,h72,rfl,by decide⟩) (by kernel_rfl) (by kernel_rfl) (show ∀ p ∈ _,p < 29∧_ by simp) hs.1 hs.2 (fun _ _ h=>h.elim) hr) he)
noncomputable abbrev ZH (id:Nat):Code:= .block 1 (.seq (.seq (.region id kC false) (.block 2 (.rangeFunc (.tmp 19) #[20,21] (zc [1,0,1,1,1,1,0,0,0,0,0,1,0,0]) (zc [1,0,1,1,1,1,0,0,0,0,0,1,0,1])))) (.exit 0))
theorem OY (c:aL) (hp:gO c.ops c.ints c.strs c.U) (hc:bx c=true) (xs:List ct) (A:NP):gS (r9 A) kC.toList (kC.toList.take 2) ⟨[(1,pb 1 27),(2,pb 2 27),(6,pb 6 42)],EK c xs⟩=some ⟨(18,.ro false 106 (.st 106 [(cd c.ops c.ints c.strs c.U),.sl 119 gT ((bz c.ops c.ints c.U).1.map aF),.sl 4 gT ((bz c.ops c.ints c.U).2.map eB),.sl 109 gT ((cz c.ops).map eU)]))::(17,(cd c.ops c.ints c.strs c.U))::[(1,pb 1 27),(2,pb 2 27),(6,pb 6 42)],EK c xs⟩:=by
 unfold EK;split
 ·exact agX c hp hc A
 ·exact agY c hp hc xs A
theorem Sx (c:aL) (hp:gO c.ops c.ints c.strs c.U) (hc:bx c=true) (xs:List ct) (hn:s_ c=[]) (A:NP) (w:World) (hG:bj (r9 A) w) (id:Nat):fD Tryz.prog (r9 A) w (ZH id) ⟨[(1,pb 1 27),(2,pb 2 27),(6,pb 6 42)],EK c xs⟩ (.exit 0) ⟨[(1,pb 1 27),(2,pb 2 27),(6,pb 6 42)],EK c xs⟩:=
 m7 1 (ei (I5 c hp hc A w hG (by simp) (OY c hp hc xs A) (by rw[hn];exact .done _)) (JM 0)) (by simp)
theorem Sy (c:aL) (hp:gO c.ops c.ints c.strs c.U) (hc:bx c=true) (xs:List ct) (hx:xs.length < 10000000) {y:Int × Int × aL} {l:List (Int × Int × aL)} (hn:s_ c=y::l) (A:NP) (w:World) (hG:bj (r9 A) w) (id:Nat):fD Tryz.prog (r9 A) w (ZH id) ⟨[(1,pb 1 27),(2,pb 2 27),(6,pb 6 42)],EK c xs⟩ .norm ⟨[(1,pb 1 27),(2,pb 2 27),(6,pb 6 42)],EK y.2.2 (xs++[stepOf y])⟩:=by
 refine ag5 y.2.2 (xs++[stepOf y]) (stepOf y) (by simp) _ _ (xO 1 (pY (I5 c hp hc A w hG (by simp) (OY c hp hc xs A) ?_) (by simp)));rw[hn];by_cases Qa:xs=[]
 ·subst Qa;refine .stops (i:=1) (σ2:=⟨[(8,pb 8 27),(7,pb 7 29),(21,(cd y.2.2.ops y.2.2.ints y.2.2.strs y.2.2.U)),(20,.st 29 [J y.1,J y.2.1]),(1,pb 1 27),(2,pb 2 27),(6,pb 6 42)],[(8,(bC y.2.2.ops y.2.2.ints y.2.2.strs y.2.2.U)),(7,⟨.box 29,true,[.st 29 [J y.1,J y.2.1]]⟩),(6,⟨.box 42,true,[.sl 29 gN []]⟩),(1,(bC c.ops c.ints c.strs c.U)),(2,⟨.box 27,true,[n4]⟩)]⟩) (σ3:=⟨[(8,pb 8 27),(7,pb 7 29),(21,(cd y.2.2.ops y.2.2.ints y.2.2.strs y.2.2.U)),(20,.st 29 [J y.1,J y.2.1]),(1,pb 1 27),(2,pb 2 27),(6,pb 6 42)],EL y.2.2 ([]++[stepOf y]) (stepOf y)⟩) rfl (by simp[mi,ax,fo,fo.ml]) (fun A lo L=>agZ c y.2.2 y.1 y.2.1 lo A L) (fun A lo L=>(ag1 c y.2.2 y.1 y.2.1 lo A L).trans ?_) (by kernel_rfl);rfl
 ·have:EK c xs=[(6,⟨.box 42,true,[.own 27 29 0 xs.length]⟩),(27,⟨.row 29,true,xs.map bo⟩),(1,(bC c.ops c.ints c.strs c.U)),(2,⟨.box 27,true,[n4]⟩)]:=if_neg Qa;rw[this]
  refine .stops (i:=1) (σ2:=⟨[(8,pb 8 27),(7,pb 7 29),(21,(cd y.2.2.ops y.2.2.ints y.2.2.strs y.2.2.U)),(20,.st 29 [J y.1,J y.2.1]),(1,pb 1 27),(2,pb 2 27),(6,pb 6 42)],[(8,(bC y.2.2.ops y.2.2.ints y.2.2.strs y.2.2.U)),(7,⟨.box 29,true,[.st 29 [J y.1,J y.2.1]]⟩),(6,⟨.box 42,true,[.own 27 29 0 xs.length]⟩),(27,⟨.row 29,true,xs.map bo⟩),(1,(bC c.ops c.ints c.strs c.U)),(2,⟨.box 27,true,[n4]⟩)]⟩) (σ3:=⟨[(8,pb 8 27),(7,pb 7 29),(21,(cd y.2.2.ops y.2.2.ints y.2.2.strs y.2.2.U)),(20,.st 29 [J y.1,J y.2.1]),(1,pb 1 27),(2,pb 2 27),(6,pb 6 42)],EL y.2.2 (xs++[stepOf y]) (stepOf y)⟩) rfl (by simp[mi,ax,fo,fo.ml]) (fun A lo L=>ag0 c y.2.2 y.1 y.2.1 xs lo A L) (fun A lo L=>(ag2 c y.2.2 y.1 y.2.1 xs hx lo A L).trans ?_) (by kernel_rfl);simp[EL,stepOf,bo]
theorem OZ (A:NP) (w:World) (hG:bj (r9 A) w) (id:Nat):∀ (n:Nat) (c:aL) (xs:List ct) (out:aL × List ct),gO c.ops c.ints c.strs c.U→bx c=true→xs.length+n < 10000000→runN n c=some out→Ee Tryz.prog (r9 A) w (ZH id) ⟨[(1,pb 1 27),(2,pb 2 27),(6,pb 6 42)],EK c xs⟩ (.exit 0) ⟨[(1,pb 1 27),(2,pb 2 27),(6,pb 6 42)],EK out.1 (xs++out.2)⟩ n
 | 0,c,xs,out,_,_,_,h=>by simp[runN] at h
 | n+1,c,xs,out,hp,hc,hx,h=>by
   rw[runN] at h;split at h
   ·rename_i hn;injection h with h;subst h
    simp only[List.append_nil];exact F0 (Sx c hp hc xs hn A w hG id) (by simp)
   ·rename_i y l hn;cases hr:runN n y.2.2 with
    | none=>rw[hr] at h;cases h
    | some p=>
      rw[hr] at h;injection h with h;subst h
      obtain⟨bZ,Ug⟩:=Ks hp hc hn;have:=OZ A w hG id n y.2.2 (xs++[stepOf y]) p bZ Ug (by simp;omega) hr;refine F1 (Sy c hp hc xs (by omega) hn A w hG id) ?_;simpa using this
theorem EM:∀ {n m:Nat} {c:aL} {a b:aL × List ct},runN n c=some a→runN m c=some b→a=b
 | 0,_,_,_,_,h,_=>by simp[runN] at h
 | _+1,0,_,_,_,_,h=>by simp[runN] at h
 | n+1,m+1,c,a,b,h,k=>by
   rw[runN] at h k;split at h
   ·rename_i hn;rw[hn] at k;injection h with h;injection k with k;rw[← h,← k]
   ·rename_i y l hn;rw[hn] at k;cases hr:runN n y.2.2 with
    | none=>rw[hr] at h;cases h
    | some p=>
      cases hs:runN m y.2.2 with
      | none=>simp only[hs] at k;cases k
      | some q=>
        have:=EM hr hs;subst this;rw[hr] at h;simp only[hs] at k;injection h with h;injection k with k
        rw[← h,← k]
theorem ZI {P:Program} {E:Env} {w0:World} {cc:Code} {σ:St} {e:AX} {c:aL} (h:fD P E w0 cc σ e ⟨[(6,pb 6 42),(12,.bool false),(5,J 0),(4,J 0),(3,.sl 0 gN []),(2,pb 2 27),(1,pb 1 27),(0,(cd c.ops c.ints c.strs c.U))],[(1,(bC c.ops c.ints c.strs c.U)),(6,⟨.box 42,true,[.sl 29 gN []]⟩),(2,⟨.box 27,true,[n4]⟩)]⟩):fD P E w0 cc σ e ⟨[(1,pb 1 27),(2,pb 2 27),(6,pb 6 42)],EK c []⟩:=by
 refine h.less (fun t x hx=>?_) (fun o b hb=>?_)
 ·by_cases h1:1=t
  ·subst h1;simpa[aA] using hx
  by_cases h2:2=t
  ·subst h2;simpa[aA] using hx
  by_cases h6:6=t
  ·subst h6;simpa[aA] using hx
  ·simp[aA,h6,h1,h2] at hx
 ·have:EK c []=ZG c:=if_pos rfl;rw[this] at hb;by_cases h1:1=o
  ·subst h1;simpa[aA,ZG] using hb
  by_cases h2:2=o
  ·subst h2;simpa[aA,ZG] using hb
  by_cases h6:6=o
  ·subst h6;simpa[aA,ZG] using hb
  ·simp[aA,ZG,h6,h1,h2] at hb
theorem Sz (c:aL) (hp:gO c.ops c.ints c.strs c.U) (hc:bx c=false) (A:NP) (w:World) (hG:bj (r9 A) w) :
 ∃ b,f22.body=some b∧fD Tryz.prog (r9 A) w b ⟨eH 0 [(cd c.ops c.ints c.strs c.U)],[]⟩ .ret ⟨[(4,J 150),(3,.sl 0 gN []),(12,.bool true),(5,J 150),(2,pb 2 27),(1,pb 1 27),(0,(cd c.ops c.ints c.strs c.U))],[(2,⟨.box 27,true,[n4]⟩),(1,(bC c.ops c.ints c.strs c.U))]⟩:=by
 obtain⟨id,hb⟩:=GK;obtain⟨d1,d2,d3,d4,d5⟩:=ag6 A;exact⟨_,hb,ei (dL (fun _ h=>h) cF (zd A) hG d1 (UO c A)) (xP (pY (dL (fun _ h=>h) cF (zd A) hG d2 (agT c hp hc A)) (by simp)))⟩
theorem I6 (c:aL) (hp:gO c.ops c.ints c.strs c.U) (hc:bx c=true) {n:Nat} {out:aL × List ct} (hn:n < 10000000) (hr:runN n c=some out) (A:NP) (w:World) (hG:bj (r9 A) w) {σ':St}
 (h2:a9 (r9 A) H0 5 (zc [1,0,1,1,1,1,1]) ⟨[(1,pb 1 27),(2,pb 2 27),(6,pb 6 42)],EK out.1 out.2⟩=some (.ret,σ')) :
 ∃ b,f22.body=some b∧fD Tryz.prog (r9 A) w b ⟨eH 0 [(cd c.ops c.ints c.strs c.U)],[]⟩ .ret σ':=by
 obtain⟨id,hb⟩:=GK;obtain⟨d1,d2,d3,d4,d5⟩:=ag6 A;refine⟨_,hb,ei (dL (fun _ h=>h) cF (zd A) hG d1 (UO c A)) (xP (ei (dL (fun _ h=>h) cF (zd A) hG d2 (agU c hp hc A)) (ei (dL (fun _ h=>h) cF (zd A) hG d3 (agV c A))
  (ei (ZI (dL (fun _ h=>h) cF (zd A) hG d4 (agW c hp A))) (ei (FZ 0) (ei (xO 0 (JN (m:=n) ?_)) (dL (fun _ h=>h) cF (zd A) hG d5 h2)))))))⟩
 exact OZ A w hG id n c [] out hp hc (by simpa using hn) hr
theorem ag7 (c:aL) (n:Nat) (out:aL × List ct) (hp:gO c.ops c.ints c.strs c.U∧n < 10000000∧(if bx c=true then runN n c=some out else out=(⟨[],[],[],[]⟩,[]))):tx Tryz.prog ty G0 22 [(cd c.ops c.ints c.strs c.U)] (.cE [ax out.1,.sl 29 gT (out.2.map bo),J (cy (bx c))]):=by
 obtain⟨hp,hn,ho⟩:=hp;have wrap:∀ {r:AV} {σ':St} {x y z:AV},(∀ A,dS (r9 A) σ' f22.results.toList=some [x,y,z])→(∀ A w,bj (r9 A) w→∃ b,f22.body=some b∧fD Tryz.prog (r9 A) w b ⟨eH 0 [(cd c.ops c.ints c.strs c.U)],[]⟩ .ret σ')→
  (∀ A:Nat→Prop,(av (hand.gn ty σ'.ob 30 [x,y,z]) fun vs=>some (one vs))=some r)→tx Tryz.prog ty G0 22 [(cd c.ops c.ints c.strs c.U)] r:=fun h1 h2 h3=>by
  obtain⟨id,hb⟩:=GK;exact uL (Ef:=r9) (e:= .ret) (fun _=>rfl) (fun _=>rfl) (fun _=>rfl) cF vo (fun _=>rfl) hb (Nat.le_of_ble_eq_true rfl) (by simp[fo,fo.ml]) (.inr rfl) (fun A w hG=>by
   obtain⟨c,e,h⟩:=h2 A w hG;rw[hb] at e;injection e with e;subst e;exact h) (fun A=>by rw[h1 A];exact h3 A)
 cases hc:bx c with
 | false=>
   rw[hc] at ho;simp only[BL] at ho;subst ho;refine tx.eK (wrap (r:= .cE [n4,.sl 0 gN [],J 150]) (fun _=>rfl) (fun A w hG=>Sz c hp hc A w hG) (fun _=>rfl)) ?_;simp[one,oa,j7,lT,uO,Ei,oc,cy,ax]
 | true=>
   rw[hc] at ho;simp only[BL] at ho;obtain⟨d,l⟩:=out;by_cases hl:l=[]
   ·subst hl;have hX:EK d []=ZG d:=if_pos rfl;refine tx.eK (wrap (r:= .cE [ax d,.sl 29 gN [],J 0]) (fun _=>rfl) (fun A w hG=>I6 c hp hc hn ho A w hG (by rw[hX];exact ag3 d A)) (fun _=>rfl)) ?_;simp[one,oa,j7,lT,uO,Ei,oc,cy,ax]
   ·have hX:EK d l=_:=if_neg hl;refine tx.eK (wrap (r:= .cE [ax d,.sl 29 gT (l.map bo),J 0]) (x:=ax d) (y:= .own 27 29 0 l.length) (z:=J 0) (fun _=>rfl) (fun A w hG=>I6 c hp hc hn ho A w hG (by rw[hX];exact ag4 d l A)) (fun _=>?_)) ?_
    ·simp[hand.gn,hand,aA,av,one,ax]
    ·simp[one,oa,j7,lT,uO,Ei,oc,cy,ax]
def R22 (l:List AV) (r:AV):Prop:=∃ (c:aL) (n:Nat) (out:aL × List ct),(gO c.ops c.ints c.strs c.U∧n < 10000000∧(if bx c=true then runN n c=some out else out=(⟨[],[],[],[]⟩,[])))∧l=[(cd c.ops c.ints c.strs c.U)]∧r = .cE [ax out.1,.sl 29 gT (out.2.map bo),J (cy (bx c))]
noncomputable def c22:=y4 R22
theorem O0 (c:aL) (n:Nat) (out:aL × List ct) (hp:gO c.ops c.ints c.strs c.U∧n < 10000000∧(if bx c=true then runN n c=some out else out=(⟨[],[],[],[]⟩,[]))):c22 [(cd c.ops c.ints c.strs c.U)]=some (.cE [ax out.1,.sl 29 gT (out.2.map bo),J (cy (bx c))]):=by
 refine oI (fun l r r'=>?_) ⟨c,n,out,hp,rfl,rfl⟩;rintro⟨⟨N,V,I,U⟩,n,out,hp,h,rfl⟩ ⟨⟨c7,bJ,bL,bK⟩,n',ali,bZ,h',rfl⟩;rw[h] at h';simp only[List.cons.injEq,AV.st.injEq,AV.sl.injEq,AV.int.injEq,AV.bool.injEq,AV.str.injEq,AV.ro.injEq,AV.fn.injEq,AV.own.injEq,Fl.mk.injEq,Prod.mk.injEq,Abs.Obj.mk.injEq,kL,nc,nd,nf,jg,gI,fQ,m_,and_true,true_and,and_assoc] at h';obtain⟨rfl,rfl,rfl,rfl⟩:=h';have:out=ali:=by
  have h1:=hp.2.2;have h2:=bZ.2.2;split at h1
  ·rename_i hc;rw[if_pos hc] at h2;exact EM h1 h2
  ·rename_i hc;rw[if_neg hc] at h2;rw[h1,h2]
 rw[this]
theorem ag9:cI 22 c22:=fun l r h=>by
 obtain⟨c,n,out,hp,rfl,rfl⟩:=sS h;exact⟨⟨f22,vo,rfl,by decide⟩,ag7 c n out hp⟩
end Go.Proofs.Tryz
end
