/- A part of a proof. -/
import Derived.Test.YtbdbjpdlcemeaaaGreatDoorRu05
set_option linter.unusedSimpArgs false
set_option linter.unusedVariables false
section
set_option maxHeartbeats 4000000
set_option maxRecDepth 20000
namespace Go.Proofs.Tryz
open Go Go.Abs
variable (N : List bp) (V : List Int) (I : List ByteArray) (U : List aP) (ao : List (List aB)) (aj : List Bool) (au : List Int)
theorem fH:(false==false)=true:=rfl
theorem fI:(true==true)=true:=rfl
theorem fJ:(false==true)=false:=rfl
theorem fK:(true==false)=false:=rfl
def iV (m n:Int):Bool:=
 ((decide (0 < m)==decide (0 < n))&&decide ((if IntKind.i64.wrap (-m) > m then IntKind.i64.wrap (-m) else m)≤(if IntKind.i64.wrap (-n) > n then IntKind.i64.wrap (-n) else n))) || (decide (0 < m)&&(decide (n < 0)&&decide (m < IntKind.i64.wrap (-n))))
def kn (N:List bp) (V:List Int) (I:List ByteArray) (U:List aP) (ao:List (List aB)) (aj:List Bool) (q:Int):Option aL:=
 let o:=N.getD q.toNat bD
 if (o.op==19)=true then
  let f:=cP ao q o.a
  if (!(o.n==64)&&(!(o.n== -64)&&(!(aj.getD q.toNat false) || (!(f.sort==3) || !(iV f.n o.n)))))=true then none
  else some ⟨N.set q.toNat ⟨3,o.d,o.a,0,0⟩,V,I,U⟩
 else none
theorem h94:Q 94=some f94:=by kernel_rfl
def D94:Nat→Option (List DH × List Nat):=fun i=>match i with | 4=>some ([⟨[7],[],[7]⟩,⟨[7],[],[7]⟩,⟨[7],[],[7]⟩,⟨[7],[],[7]⟩,⟨[7],[],[7]⟩,⟨[7],[],[7]⟩,⟨[7],[],[7]⟩,⟨[7],[],[7]⟩,⟨[7],[],[7]⟩,⟨[7],[],[7]⟩,⟨[],[7],[]⟩,⟨[],[],[]⟩],[7]) | _=>none
theorem c_:D94 4=some ([⟨[7],[],[7]⟩,⟨[7],[],[7]⟩,⟨[7],[],[7]⟩,⟨[7],[],[7]⟩,⟨[7],[],[7]⟩,⟨[7],[],[7]⟩,⟨[7],[],[7]⟩,⟨[7],[],[7]⟩,⟨[7],[],[7]⟩,⟨[7],[],[7]⟩,⟨[],[7],[]⟩,⟨[],[],[]⟩],[7]):=rfl
theorem da:D94 5=none:=rfl
theorem ae_ (q:Int) (hp:XW N V I U ao aj au∧0≤q∧q.toNat < N.length) :∃ r,wk r (aS (kn N V I U ao aj q))∧∀ A,ak (env 103 2475880078570760549800347635 D94 [(112,Gf)] [] A) hN (5) f94 [(wv N V I U ao aj au),J q]=some r:=by
 obtain⟨hw,h0,aR⟩:=hp;have aO:q < (N.length:Int):=by omega
 have cB:=hw.rl;have dt:=hw.bl;have aw:=aD (d:=bD) aR;have cO:=aD (d:=false) (show q.toNat < aj.length by omega);have Gm:=hw.op _ aR;simp only[kn];generalize N.getD q.toNat bD=x at *;obtain⟨⟨cv,ep⟩,-,-⟩:=Gm;have eu:=hw.b8 _ aR;have cu:=aD (d:=([]:List aB)) (show q.toNat < ao.length by omega);have cq:(ao.getD q.toNat [])[x.a.toNat]? = some (cP ao q x.a):=aD (by omega);generalize ao.getD q.toNat []=bs at cu eu cq;have ep:x.a < (8:Int):=by omega
 have bN:=oL N V I U ao aj au q 3 x.d x.a 0 0 ⟨hw.lim,h0,aR⟩;generalize cP ao q x.a=f at *;generalize aj.getD q.toNat false=rg at *;cases bU:(x.op==19)
 ·skip
  simp only[beq_self_eq_true,reduceCtorEq,BEq.rfl,fH,fI,fJ,fK,BL];apply bu
  ·intro A;simp only[ak,ai,f94];simp only[go_sem,c_,da,bU,aw,cO,h0,aO,dt,cu,cq,cv,ep,eu,bN,aF,aW,cB,fH,fI,fJ,fK];rfl
  ·simp[WK,aS,ax]
 ·skip
  cases h1:(decide (0 < f.n))
  ·skip
   cases h2:(decide (0 < x.n))
   ·skip
    cases h3:(decide ((if IntKind.i64.wrap (-f.n) > f.n then IntKind.i64.wrap (-f.n) else f.n)≤(if IntKind.i64.wrap (-x.n) > x.n then IntKind.i64.wrap (-x.n) else x.n)))
    ·skip
     have Gr:iV f.n x.n=false:=by simp only[iV,h1,h2,h3];rfl
     rw[Gr];cases lD:(x.n==64)
     ·skip
      cases m64:(x.n== -64)
      ·skip
       cases hr:rg
       ·skip
        simp only[beq_self_eq_true,reduceCtorEq,BEq.rfl,fH,fI,fJ,fK,BL];apply bu
        ·intro A;simp only[ak,ai,f94];simp only[go_sem,c_,da,bU,h1,h2,h3,lD,m64,hr,aw,cO,h0,aO,dt,cu,cq,cv,ep,eu,bN,aF,aW,cB,fH,fI,fJ,fK];rfl
        ·simp[WK,aS,ax]
       ·skip
        cases hs:(f.sort==3)
        ·skip
         simp only[beq_self_eq_true,reduceCtorEq,BEq.rfl,fH,fI,fJ,fK,BL];apply bu
         ·intro A;simp only[ak,ai,f94];simp only[go_sem,c_,da,bU,h1,h2,h3,lD,m64,hr,hs,aw,cO,h0,aO,dt,cu,cq,cv,ep,eu,bN,aF,aW,cB,fH,fI,fJ,fK];rfl
         ·simp[WK,aS,ax]
        ·skip
         simp only[beq_self_eq_true,reduceCtorEq,BEq.rfl,fH,fI,fJ,fK,BL];apply bu
         ·intro A;simp only[ak,ai,f94];simp only[go_sem,c_,da,bU,h1,h2,h3,lD,m64,hr,hs,aw,cO,h0,aO,dt,cu,cq,cv,ep,eu,bN,aF,aW,cB,fH,fI,fJ,fK];rfl
         ·simp[WK,aS,ax]
      ·skip
       simp only[beq_self_eq_true,reduceCtorEq,BEq.rfl,fH,fI,fJ,fK,BL];apply bu
       ·intro A;simp only[ak,ai,f94];simp only[go_sem,c_,da,bU,h1,h2,h3,lD,m64,aw,cO,h0,aO,dt,cu,cq,cv,ep,eu,bN,aF,aW,cB,fH,fI,fJ,fK];rfl
       ·simp[WK,aS,ax]
     ·skip
      simp only[beq_self_eq_true,reduceCtorEq,BEq.rfl,fH,fI,fJ,fK,BL];apply bu
      ·intro A;simp only[ak,ai,f94];simp only[go_sem,c_,da,bU,h1,h2,h3,lD,aw,cO,h0,aO,dt,cu,cq,cv,ep,eu,bN,aF,aW,cB,fH,fI,fJ,fK];rfl
      ·simp[WK,aS,ax]
    ·skip
     have Gr:iV f.n x.n=true:=by simp only[iV,h1,h2,h3];rfl
     rw[Gr];cases lD:(x.n==64)
     ·skip
      cases m64:(x.n== -64)
      ·skip
       cases hr:rg
       ·skip
        simp only[beq_self_eq_true,reduceCtorEq,BEq.rfl,fH,fI,fJ,fK,BL];apply bu
        ·intro A;simp only[ak,ai,f94];simp only[go_sem,c_,da,bU,h1,h2,h3,lD,m64,hr,aw,cO,h0,aO,dt,cu,cq,cv,ep,eu,bN,aF,aW,cB,fH,fI,fJ,fK];rfl
        ·simp[WK,aS,ax]
       ·skip
        cases hs:(f.sort==3)
        ·skip
         simp only[beq_self_eq_true,reduceCtorEq,BEq.rfl,fH,fI,fJ,fK,BL];apply bu
         ·intro A;simp only[ak,ai,f94];simp only[go_sem,c_,da,bU,h1,h2,h3,lD,m64,hr,hs,aw,cO,h0,aO,dt,cu,cq,cv,ep,eu,bN,aF,aW,cB,fH,fI,fJ,fK];rfl
         ·simp[WK,aS,ax]
        ·skip
         simp only[beq_self_eq_true,reduceCtorEq,BEq.rfl,fH,fI,fJ,fK,BL];apply bu
         ·intro A;simp only[ak,ai,f94];simp only[go_sem,c_,da,bU,h1,h2,h3,lD,m64,hr,hs,aw,cO,h0,aO,dt,cu,cq,cv,ep,eu,bN,aF,aW,cB,fH,fI,fJ,fK];rfl
         ·simp[WK,aS,ax]
      ·skip
       simp only[beq_self_eq_true,reduceCtorEq,BEq.rfl,fH,fI,fJ,fK,BL];apply bu
       ·intro A;simp only[ak,ai,f94];simp only[go_sem,c_,da,bU,h1,h2,h3,lD,m64,aw,cO,h0,aO,dt,cu,cq,cv,ep,eu,bN,aF,aW,cB,fH,fI,fJ,fK];rfl
       ·simp[WK,aS,ax]
     ·skip
      simp only[beq_self_eq_true,reduceCtorEq,BEq.rfl,fH,fI,fJ,fK,BL];apply bu
      ·intro A;simp only[ak,ai,f94];simp only[go_sem,c_,da,bU,h1,h2,h3,lD,aw,cO,h0,aO,dt,cu,cq,cv,ep,eu,bN,aF,aW,cB,fH,fI,fJ,fK];rfl
      ·simp[WK,aS,ax]
   ·skip
    have Gr:iV f.n x.n=false:=by simp only[iV,h1,h2];rfl
    rw[Gr];cases lD:(x.n==64)
    ·skip
     cases m64:(x.n== -64)
     ·skip
      cases hr:rg
      ·skip
       simp only[beq_self_eq_true,reduceCtorEq,BEq.rfl,fH,fI,fJ,fK,BL];apply bu
       ·intro A;simp only[ak,ai,f94];simp only[go_sem,c_,da,bU,h1,h2,lD,m64,hr,aw,cO,h0,aO,dt,cu,cq,cv,ep,eu,bN,aF,aW,cB,fH,fI,fJ,fK];rfl
       ·simp[WK,aS,ax]
      ·skip
       cases hs:(f.sort==3)
       ·skip
        simp only[beq_self_eq_true,reduceCtorEq,BEq.rfl,fH,fI,fJ,fK,BL];apply bu
        ·intro A;simp only[ak,ai,f94];simp only[go_sem,c_,da,bU,h1,h2,lD,m64,hr,hs,aw,cO,h0,aO,dt,cu,cq,cv,ep,eu,bN,aF,aW,cB,fH,fI,fJ,fK];rfl
        ·simp[WK,aS,ax]
       ·skip
        simp only[beq_self_eq_true,reduceCtorEq,BEq.rfl,fH,fI,fJ,fK,BL];apply bu
        ·intro A;simp only[ak,ai,f94];simp only[go_sem,c_,da,bU,h1,h2,lD,m64,hr,hs,aw,cO,h0,aO,dt,cu,cq,cv,ep,eu,bN,aF,aW,cB,fH,fI,fJ,fK];rfl
        ·simp[WK,aS,ax]
     ·skip
      simp only[beq_self_eq_true,reduceCtorEq,BEq.rfl,fH,fI,fJ,fK,BL];apply bu
      ·intro A;simp only[ak,ai,f94];simp only[go_sem,c_,da,bU,h1,h2,lD,m64,aw,cO,h0,aO,dt,cu,cq,cv,ep,eu,bN,aF,aW,cB,fH,fI,fJ,fK];rfl
      ·simp[WK,aS,ax]
    ·skip
     simp only[beq_self_eq_true,reduceCtorEq,BEq.rfl,fH,fI,fJ,fK,BL];apply bu
     ·intro A;simp only[ak,ai,f94];simp only[go_sem,c_,da,bU,h1,h2,lD,aw,cO,h0,aO,dt,cu,cq,cv,ep,eu,bN,aF,aW,cB,fH,fI,fJ,fK];rfl
     ·simp[WK,aS,ax]
  ·skip
   cases h2:(decide (0 < x.n))
   ·skip
    cases h4:(decide (x.n < 0))
    ·skip
     have Gr:iV f.n x.n=false:=by simp only[iV,h1,h2,h4];rfl
     rw[Gr];cases lD:(x.n==64)
     ·skip
      cases m64:(x.n== -64)
      ·skip
       cases hr:rg
       ·skip
        simp only[beq_self_eq_true,reduceCtorEq,BEq.rfl,fH,fI,fJ,fK,BL];apply bu
        ·intro A;simp only[ak,ai,f94];simp only[go_sem,c_,da,bU,h1,h2,h4,lD,m64,hr,aw,cO,h0,aO,dt,cu,cq,cv,ep,eu,bN,aF,aW,cB,fH,fI,fJ,fK];rfl
        ·simp[WK,aS,ax]
       ·skip
        cases hs:(f.sort==3)
        ·skip
         simp only[beq_self_eq_true,reduceCtorEq,BEq.rfl,fH,fI,fJ,fK,BL];apply bu
         ·intro A;simp only[ak,ai,f94];simp only[go_sem,c_,da,bU,h1,h2,h4,lD,m64,hr,hs,aw,cO,h0,aO,dt,cu,cq,cv,ep,eu,bN,aF,aW,cB,fH,fI,fJ,fK];rfl
         ·simp[WK,aS,ax]
        ·skip
         simp only[beq_self_eq_true,reduceCtorEq,BEq.rfl,fH,fI,fJ,fK,BL];apply bu
         ·intro A;simp only[ak,ai,f94];simp only[go_sem,c_,da,bU,h1,h2,h4,lD,m64,hr,hs,aw,cO,h0,aO,dt,cu,cq,cv,ep,eu,bN,aF,aW,cB,fH,fI,fJ,fK];rfl
         ·simp[WK,aS,ax]
      ·skip
       simp only[beq_self_eq_true,reduceCtorEq,BEq.rfl,fH,fI,fJ,fK,BL];apply bu
       ·intro A;simp only[ak,ai,f94];simp only[go_sem,c_,da,bU,h1,h2,h4,lD,m64,aw,cO,h0,aO,dt,cu,cq,cv,ep,eu,bN,aF,aW,cB,fH,fI,fJ,fK];rfl
       ·simp[WK,aS,ax]
     ·skip
      simp only[beq_self_eq_true,reduceCtorEq,BEq.rfl,fH,fI,fJ,fK,BL];apply bu
      ·intro A;simp only[ak,ai,f94];simp only[go_sem,c_,da,bU,h1,h2,h4,lD,aw,cO,h0,aO,dt,cu,cq,cv,ep,eu,bN,aF,aW,cB,fH,fI,fJ,fK];rfl
      ·simp[WK,aS,ax]
    ·skip
     cases h5:(decide (f.n < IntKind.i64.wrap (-x.n)))
     ·skip
      have Gr:iV f.n x.n=false:=by simp only[iV,h1,h2,h4,h5];rfl
      rw[Gr];cases lD:(x.n==64)
      ·skip
       cases m64:(x.n== -64)
       ·skip
        cases hr:rg
        ·skip
         simp only[beq_self_eq_true,reduceCtorEq,BEq.rfl,fH,fI,fJ,fK,BL];apply bu
         ·intro A;simp only[ak,ai,f94];simp only[go_sem,c_,da,bU,h1,h2,h4,h5,lD,m64,hr,aw,cO,h0,aO,dt,cu,cq,cv,ep,eu,bN,aF,aW,cB,fH,fI,fJ,fK];rfl
         ·simp[WK,aS,ax]
        ·skip
         cases hs:(f.sort==3)
         ·skip
          simp only[beq_self_eq_true,reduceCtorEq,BEq.rfl,fH,fI,fJ,fK,BL];apply bu
          ·intro A;simp only[ak,ai,f94];simp only[go_sem,c_,da,bU,h1,h2,h4,h5,lD,m64,hr,hs,aw,cO,h0,aO,dt,cu,cq,cv,ep,eu,bN,aF,aW,cB,fH,fI,fJ,fK];rfl
          ·simp[WK,aS,ax]
         ·skip
          simp only[beq_self_eq_true,reduceCtorEq,BEq.rfl,fH,fI,fJ,fK,BL];apply bu
          ·intro A;simp only[ak,ai,f94];simp only[go_sem,c_,da,bU,h1,h2,h4,h5,lD,m64,hr,hs,aw,cO,h0,aO,dt,cu,cq,cv,ep,eu,bN,aF,aW,cB,fH,fI,fJ,fK];rfl
          ·simp[WK,aS,ax]
       ·skip
        simp only[beq_self_eq_true,reduceCtorEq,BEq.rfl,fH,fI,fJ,fK,BL];apply bu
        ·intro A;simp only[ak,ai,f94];simp only[go_sem,c_,da,bU,h1,h2,h4,h5,lD,m64,aw,cO,h0,aO,dt,cu,cq,cv,ep,eu,bN,aF,aW,cB,fH,fI,fJ,fK];rfl
        ·simp[WK,aS,ax]
      ·skip
       simp only[beq_self_eq_true,reduceCtorEq,BEq.rfl,fH,fI,fJ,fK,BL];apply bu
       ·intro A;simp only[ak,ai,f94];simp only[go_sem,c_,da,bU,h1,h2,h4,h5,lD,aw,cO,h0,aO,dt,cu,cq,cv,ep,eu,bN,aF,aW,cB,fH,fI,fJ,fK];rfl
       ·simp[WK,aS,ax]
     ·skip
      have Gr:iV f.n x.n=true:=by simp only[iV,h1,h2,h4,h5];rfl
      rw[Gr];cases lD:(x.n==64)
      ·skip
       cases m64:(x.n== -64)
       ·skip
        cases hr:rg
        ·skip
         simp only[beq_self_eq_true,reduceCtorEq,BEq.rfl,fH,fI,fJ,fK,BL];apply bu
         ·intro A;simp only[ak,ai,f94];simp only[go_sem,c_,da,bU,h1,h2,h4,h5,lD,m64,hr,aw,cO,h0,aO,dt,cu,cq,cv,ep,eu,bN,aF,aW,cB,fH,fI,fJ,fK];rfl
         ·simp[WK,aS,ax]
        ·skip
         cases hs:(f.sort==3)
         ·skip
          simp only[beq_self_eq_true,reduceCtorEq,BEq.rfl,fH,fI,fJ,fK,BL];apply bu
          ·intro A;simp only[ak,ai,f94];simp only[go_sem,c_,da,bU,h1,h2,h4,h5,lD,m64,hr,hs,aw,cO,h0,aO,dt,cu,cq,cv,ep,eu,bN,aF,aW,cB,fH,fI,fJ,fK];rfl
          ·simp[WK,aS,ax]
         ·skip
          simp only[beq_self_eq_true,reduceCtorEq,BEq.rfl,fH,fI,fJ,fK,BL];apply bu
          ·intro A;simp only[ak,ai,f94];simp only[go_sem,c_,da,bU,h1,h2,h4,h5,lD,m64,hr,hs,aw,cO,h0,aO,dt,cu,cq,cv,ep,eu,bN,aF,aW,cB,fH,fI,fJ,fK];rfl
          ·simp[WK,aS,ax]
       ·skip
        simp only[beq_self_eq_true,reduceCtorEq,BEq.rfl,fH,fI,fJ,fK,BL];apply bu
        ·intro A;simp only[ak,ai,f94];simp only[go_sem,c_,da,bU,h1,h2,h4,h5,lD,m64,aw,cO,h0,aO,dt,cu,cq,cv,ep,eu,bN,aF,aW,cB,fH,fI,fJ,fK];rfl
        ·simp[WK,aS,ax]
      ·skip
       simp only[beq_self_eq_true,reduceCtorEq,BEq.rfl,fH,fI,fJ,fK,BL];apply bu
       ·intro A;simp only[ak,ai,f94];simp only[go_sem,c_,da,bU,h1,h2,h4,h5,lD,aw,cO,h0,aO,dt,cu,cq,cv,ep,eu,bN,aF,aW,cB,fH,fI,fJ,fK];rfl
       ·simp[WK,aS,ax]
   ·skip
    cases h3:(decide ((if IntKind.i64.wrap (-f.n) > f.n then IntKind.i64.wrap (-f.n) else f.n)≤(if IntKind.i64.wrap (-x.n) > x.n then IntKind.i64.wrap (-x.n) else x.n)))
    ·skip
     have h4:decide (x.n < 0)=false:=by simp at h2 ⊢;omega
     have Gr:iV f.n x.n=false:=by simp only[iV,h1,h2,h3,h4];rfl
     rw[Gr];cases lD:(x.n==64)
     ·skip
      cases m64:(x.n== -64)
      ·skip
       cases hr:rg
       ·skip
        simp only[beq_self_eq_true,reduceCtorEq,BEq.rfl,fH,fI,fJ,fK,BL];apply bu
        ·intro A;simp only[ak,ai,f94];simp only[go_sem,c_,da,bU,h1,h2,h3,h4,lD,m64,hr,aw,cO,h0,aO,dt,cu,cq,cv,ep,eu,bN,aF,aW,cB,fH,fI,fJ,fK];rfl
        ·simp[WK,aS,ax]
       ·skip
        cases hs:(f.sort==3)
        ·skip
         simp only[beq_self_eq_true,reduceCtorEq,BEq.rfl,fH,fI,fJ,fK,BL];apply bu
         ·intro A;simp only[ak,ai,f94];simp only[go_sem,c_,da,bU,h1,h2,h3,h4,lD,m64,hr,hs,aw,cO,h0,aO,dt,cu,cq,cv,ep,eu,bN,aF,aW,cB,fH,fI,fJ,fK];rfl
         ·simp[WK,aS,ax]
        ·skip
         simp only[beq_self_eq_true,reduceCtorEq,BEq.rfl,fH,fI,fJ,fK,BL];apply bu
         ·intro A;simp only[ak,ai,f94];simp only[go_sem,c_,da,bU,h1,h2,h3,h4,lD,m64,hr,hs,aw,cO,h0,aO,dt,cu,cq,cv,ep,eu,bN,aF,aW,cB,fH,fI,fJ,fK];rfl
         ·simp[WK,aS,ax]
      ·skip
       simp only[beq_self_eq_true,reduceCtorEq,BEq.rfl,fH,fI,fJ,fK,BL];apply bu
       ·intro A;simp only[ak,ai,f94];simp only[go_sem,c_,da,bU,h1,h2,h3,h4,lD,m64,aw,cO,h0,aO,dt,cu,cq,cv,ep,eu,bN,aF,aW,cB,fH,fI,fJ,fK];rfl
       ·simp[WK,aS,ax]
     ·skip
      simp only[beq_self_eq_true,reduceCtorEq,BEq.rfl,fH,fI,fJ,fK,BL];apply bu
      ·intro A;simp only[ak,ai,f94];simp only[go_sem,c_,da,bU,h1,h2,h3,h4,lD,aw,cO,h0,aO,dt,cu,cq,cv,ep,eu,bN,aF,aW,cB,fH,fI,fJ,fK];rfl
      ·simp[WK,aS,ax]
    ·skip
     have Gr:iV f.n x.n=true:=by simp only[iV,h1,h2,h3];rfl
     rw[Gr];cases lD:(x.n==64)
     ·skip
      cases m64:(x.n== -64)
      ·skip
       cases hr:rg
       ·skip
        simp only[beq_self_eq_true,reduceCtorEq,BEq.rfl,fH,fI,fJ,fK,BL];apply bu
        ·intro A;simp only[ak,ai,f94];simp only[go_sem,c_,da,bU,h1,h2,h3,lD,m64,hr,aw,cO,h0,aO,dt,cu,cq,cv,ep,eu,bN,aF,aW,cB,fH,fI,fJ,fK];rfl
        ·simp[WK,aS,ax]
       ·skip
        cases hs:(f.sort==3)
        ·skip
         simp only[beq_self_eq_true,reduceCtorEq,BEq.rfl,fH,fI,fJ,fK,BL];apply bu
         ·intro A;simp only[ak,ai,f94];simp only[go_sem,c_,da,bU,h1,h2,h3,lD,m64,hr,hs,aw,cO,h0,aO,dt,cu,cq,cv,ep,eu,bN,aF,aW,cB,fH,fI,fJ,fK];rfl
         ·simp[WK,aS,ax]
        ·skip
         simp only[beq_self_eq_true,reduceCtorEq,BEq.rfl,fH,fI,fJ,fK,BL];apply bu
         ·intro A;simp only[ak,ai,f94];simp only[go_sem,c_,da,bU,h1,h2,h3,lD,m64,hr,hs,aw,cO,h0,aO,dt,cu,cq,cv,ep,eu,bN,aF,aW,cB,fH,fI,fJ,fK];rfl
         ·simp[WK,aS,ax]
      ·skip
       simp only[beq_self_eq_true,reduceCtorEq,BEq.rfl,fH,fI,fJ,fK,BL];apply bu
       ·intro A;simp only[ak,ai,f94];simp only[go_sem,c_,da,bU,h1,h2,h3,lD,m64,aw,cO,h0,aO,dt,cu,cq,cv,ep,eu,bN,aF,aW,cB,fH,fI,fJ,fK];rfl
       ·simp[WK,aS,ax]
     ·skip
      simp only[beq_self_eq_true,reduceCtorEq,BEq.rfl,fH,fI,fJ,fK,BL];apply bu
      ·intro A;simp only[ak,ai,f94];simp only[go_sem,c_,da,bU,h1,h2,h3,lD,aw,cO,h0,aO,dt,cu,cq,cv,ep,eu,bN,aF,aW,cB,fH,fI,fJ,fK];rfl
      ·simp[WK,aS,ax]
noncomputable def c94:=bk (α:=(List bp) × (List Int) × (List ByteArray) × (List aP) × (List (List aB)) × (List Bool) × (List Int) × Int) (fun (N,V,I,U,ao,aj,au,q)=>XW N V I U ao aj au∧0≤q∧q.toNat < N.length) (fun (N,V,I,U,ao,aj,au,q)=>[(wv N V I U ao aj au),J q]) (fun (N,V,I,U,ao,aj,au,q)=>aS (kn N V I U ao aj q))
theorem Y0 (q:Int) (hp:XW N V I U ao aj au∧0≤q∧q.toNat < N.length):c94 [(wv N V I U ao aj au),J q]=some (aS (kn N V I U ao aj q)):=aJ (fun X Y hp bZ h'=>by
 obtain⟨N,V,I,U,ao,aj,au,q⟩:=X;obtain⟨c7,bJ,bL,bK,gm,eW,jj,q'⟩:=Y;simp only[cJ] at h';obtain⟨rfl,rfl,rfl,rfl,rfl,rfl,rfl,rfl⟩:=h';rfl) (N,V,I,U,ao,aj,au,q) hp
theorem afa:cI 94 c94:=aE h94 rfl rfl fun (N,V,I,U,ao,aj,au,q) hp=>let ⟨_,hw,hr⟩:=ae_ N V I U ao aj au q hp;(rc h94 hr (fun i=>match i with | 4=>[0,1,3,7,0,0,32,31,255,511,0,2047] | 5=>[0,1,0,4,3,31] | _=>[]) rfl rfl rfl (by kernel_rfl) ⟨x9,trivial⟩ trivial).eK hw
def ir (N:List bp) (V:List Int) (I:List ByteArray) (U:List aP) (ao:List (List aB)) (aj:List Bool) (q:Int):Option aL:=
 let o:=N.getD q.toNat bD
 if aj.getD q.toNat false=true then
  let fa:=cP ao q o.a
  let fb:=cP ao q o.b
  let ca:=((dW o.op 1 2).any fun x=>1==x)&&fa.sort==2
  let cb:=((dW o.op 1 2).any fun x=>2==x)&&fb.sort==2
  if (ca || cb)=true then some ⟨N.set q.toNat ⟨o.op,o.d,if ca=true then fa.n else o.a,if cb=true then fb.n else o.b,o.n⟩,V,I,U⟩ else none
 else none
theorem h90:Q 90=some f90:=by kernel_rfl
def D90:Nat→Option (List DH × List Nat):=fun i=>match i with | 10=>some ([⟨[11],[],[11]⟩,⟨[11],[],[11]⟩,⟨[11],[],[11]⟩,⟨[11],[],[11]⟩,⟨[11],[],[11]⟩,⟨[11],[],[11]⟩,⟨[11],[],[11]⟩,⟨[11],[],[11]⟩,⟨[11],[],[11]⟩,⟨[11],[],[11]⟩,⟨[11],[],[11]⟩,⟨[],[11],[]⟩,⟨[],[],[]⟩],[11]) | _=>none
theorem bO:D90 10=some ([⟨[11],[],[11]⟩,⟨[11],[],[11]⟩,⟨[11],[],[11]⟩,⟨[11],[],[11]⟩,⟨[11],[],[11]⟩,⟨[11],[],[11]⟩,⟨[11],[],[11]⟩,⟨[11],[],[11]⟩,⟨[11],[],[11]⟩,⟨[11],[],[11]⟩,⟨[11],[],[11]⟩,⟨[],[11],[]⟩,⟨[],[],[]⟩],[11]):=rfl
def H90:Nat→Hint:=fun i=>if i=7 then ({ tm:=[0,1,4,5,6,7,8,35,36,37],ob:=[4,6,35],fin:=some ([0,1,4,5,6,8],[4,6]) }:Hint) else { tm:=[],ob:=[] }
theorem bB:H90 7=({ tm:=[0,1,4,5,6,7,8,35,36,37],ob:=[4,6,35],fin:=some ([0,1,4,5,6,8],[4,6]) }:Hint):=by simp[H90]
theorem afb (q:Int) (hp:XW N V I U ao aj au∧0≤q∧q.toNat < N.length) :∃ r,wk r (aS (ir N V I U ao aj q))∧∀ A,ak (env 75 148726944978424041459 D90 [(60,Qg),(116,RJ),(112,Gf)] [] A) (H90) (5) f90 [(wv N V I U ao aj au),J q]=some r:=by
 obtain⟨hw,h0,aR⟩:=hp;have aO:q < (N.length:Int):=by omega
 have cB:=hw.rl;have fp:((2:Nat):Int)=2:=rfl;have eL:IntKind.i64.wrap 1=1:=by decide
 have eX:IntKind.i64.wrap 2=2:=by decide
 have dt:=hw.bl;have aw:=aD (d:=bD) aR;have cO:=aD (d:=false) (show q.toNat < aj.length by omega);have Gm:=hw.op _ aR;simp only[ir];generalize N.getD q.toNat bD=x at *;obtain⟨⟨cv,ep⟩,⟨dJ,eu⟩,-⟩:=Gm;have h8:=hw.b8 _ aR;have cu:=aD (d:=([]:List aB)) (show q.toNat < ao.length by omega);have cq:(ao.getD q.toNat [])[x.a.toNat]? = some (cP ao q x.a):=aD (by omega);have ev:(ao.getD q.toNat [])[x.b.toNat]? = some (cP ao q x.b):=aD (by omega);generalize ao.getD q.toNat []=bs at cu h8 cq ev;have ep:x.a < (8:Int):=by omega
 have eu:x.b < (8:Int):=by omega
 have j9:=NK x.op 0 1 2 0;have e1:=BP (dW x.op 1 2) 1 (by unfold dW;split <;> split <;> simp);have e2:=BP (dW x.op 1 2) 2 (by unfold dW;split <;> split <;> simp);generalize dW x.op 1 2=us at *;generalize cP ao q x.a=fa at *;generalize cP ao q x.b=fb at *;generalize aj.getD q.toNat false=rg at *;have bN:=fun a b=>oL N V I U ao aj au q x.op x.d a b x.n ⟨hw.lim,h0,aR⟩
 cases rg
 ·simp only[BL];apply bu
  ·intro A;simp only[ak,ai,f90];simp only[go_sem,bO,fp,eL,eX,aw,cO,h0,aO,j9,dt,cu,cq,ev,cv,ep,dJ,eu,e1,e2,bN,bB,aF,aW,cB];rfl
  ·simp[WK,aS,ax]
 simp only[BL];cases Fz:(us.any fun x=>1==x)
 ·rw[Fz] at e1;simp only[BL];cases Dc:(us.any fun x=>2==x)
  ·rw[Dc] at e2;simp only[BL];apply bu
   ·intro A;simp only[ak,ai,f90];simp only[go_sem,bO,fp,eL,eX,aw,cO,h0,aO,j9,dt,cu,cq,ev,cv,ep,dJ,eu,e1,e2,bN,bB,aF,aW,cB];rw[aG.eq_def];simp only[go_sem,bO,bB,fp,eL,eX,aw,cO,h0,aO,j9,dt,cu,cq,ev,cv,ep,dJ,eu,e1,e2,bN,bB,aF,aW,cB];rw[aG.eq_def];simp only[go_sem,bO,bB,fp,eL,eX,aw,cO,h0,aO,j9,dt,cu,cq,ev,cv,ep,dJ,eu,e1,e2,bN,bB,aF,aW,cB];rw[aG.eq_def];simp only[go_sem,bO,bB,fp,eL,eX,aw,cO,h0,aO,j9,dt,cu,cq,ev,cv,ep,dJ,eu,e1,e2,bN,bB,aF,aW,cB];simp only[post,St.fin,aQ,aA];simp only[go_sem,bO,fp,eL,eX,aw,cO,h0,aO,j9,dt,cu,cq,ev,cv,ep,dJ,eu,e1,e2,bN,bB,aF,aW,cB];rfl
   ·simp[WK,aS,ax]
  ·rw[Dc] at e2;cases ly:(fb.sort==2)
   ·simp only[BL];apply bu
    ·intro A;simp only[ak,ai,f90];simp only[go_sem,bO,ly,fp,eL,eX,aw,cO,h0,aO,j9,dt,cu,cq,ev,cv,ep,dJ,eu,e1,e2,bN,bB,aF,aW,cB];rw[aG.eq_def];simp only[go_sem,bO,bB,ly,fp,eL,eX,aw,cO,h0,aO,j9,dt,cu,cq,ev,cv,ep,dJ,eu,e1,e2,bN,bB,aF,aW,cB];rw[aG.eq_def];simp only[go_sem,bO,bB,ly,fp,eL,eX,aw,cO,h0,aO,j9,dt,cu,cq,ev,cv,ep,dJ,eu,e1,e2,bN,bB,aF,aW,cB];rw[aG.eq_def];simp only[go_sem,bO,bB,ly,fp,eL,eX,aw,cO,h0,aO,j9,dt,cu,cq,ev,cv,ep,dJ,eu,e1,e2,bN,bB,aF,aW,cB];simp only[post,St.fin,aQ,aA];simp only[go_sem,bO,ly,fp,eL,eX,aw,cO,h0,aO,j9,dt,cu,cq,ev,cv,ep,dJ,eu,e1,e2,bN,bB,aF,aW,cB];rfl
    ·simp[WK,aS,ax]
   ·simp only[BL];apply bu
    ·intro A;simp only[ak,ai,f90];simp only[go_sem,bO,ly,fp,eL,eX,aw,cO,h0,aO,j9,dt,cu,cq,ev,cv,ep,dJ,eu,e1,e2,bN,bB,aF,aW,cB];rw[aG.eq_def];simp only[go_sem,bO,bB,ly,fp,eL,eX,aw,cO,h0,aO,j9,dt,cu,cq,ev,cv,ep,dJ,eu,e1,e2,bN,bB,aF,aW,cB];rw[aG.eq_def];simp only[go_sem,bO,bB,ly,fp,eL,eX,aw,cO,h0,aO,j9,dt,cu,cq,ev,cv,ep,dJ,eu,e1,e2,bN,bB,aF,aW,cB];rw[aG.eq_def];simp only[go_sem,bO,bB,ly,fp,eL,eX,aw,cO,h0,aO,j9,dt,cu,cq,ev,cv,ep,dJ,eu,e1,e2,bN,bB,aF,aW,cB];simp only[post,St.fin,aQ,aA];simp only[go_sem,bO,ly,fp,eL,eX,aw,cO,h0,aO,j9,dt,cu,cq,ev,cv,ep,dJ,eu,e1,e2,bN,bB,aF,aW,cB];rfl
    ·simp[WK,aS,ax]
 ·rw[Fz] at e1;cases oO:(fa.sort==2)
  ·simp only[BL];cases Dc:(us.any fun x=>2==x)
   ·rw[Dc] at e2;simp only[BL];apply bu
    ·intro A;simp only[ak,ai,f90];simp only[go_sem,bO,oO,fp,eL,eX,aw,cO,h0,aO,j9,dt,cu,cq,ev,cv,ep,dJ,eu,e1,e2,bN,bB,aF,aW,cB];rw[aG.eq_def];simp only[go_sem,bO,bB,oO,fp,eL,eX,aw,cO,h0,aO,j9,dt,cu,cq,ev,cv,ep,dJ,eu,e1,e2,bN,bB,aF,aW,cB];rw[aG.eq_def];simp only[go_sem,bO,bB,oO,fp,eL,eX,aw,cO,h0,aO,j9,dt,cu,cq,ev,cv,ep,dJ,eu,e1,e2,bN,bB,aF,aW,cB];rw[aG.eq_def];simp only[go_sem,bO,bB,oO,fp,eL,eX,aw,cO,h0,aO,j9,dt,cu,cq,ev,cv,ep,dJ,eu,e1,e2,bN,bB,aF,aW,cB];simp only[post,St.fin,aQ,aA];simp only[go_sem,bO,oO,fp,eL,eX,aw,cO,h0,aO,j9,dt,cu,cq,ev,cv,ep,dJ,eu,e1,e2,bN,bB,aF,aW,cB];rfl
    ·simp[WK,aS,ax]
   ·rw[Dc] at e2;cases ly:(fb.sort==2)
    ·simp only[BL];apply bu
     ·intro A;simp only[ak,ai,f90];simp only[go_sem,bO,oO,ly,fp,eL,eX,aw,cO,h0,aO,j9,dt,cu,cq,ev,cv,ep,dJ,eu,e1,e2,bN,bB,aF,aW,cB];rw[aG.eq_def];simp only[go_sem,bO,bB,oO,ly,fp,eL,eX,aw,cO,h0,aO,j9,dt,cu,cq,ev,cv,ep,dJ,eu,e1,e2,bN,bB,aF,aW,cB];rw[aG.eq_def];simp only[go_sem,bO,bB,oO,ly,fp,eL,eX,aw,cO,h0,aO,j9,dt,cu,cq,ev,cv,ep,dJ,eu,e1,e2,bN,bB,aF,aW,cB];rw[aG.eq_def];simp only[go_sem,bO,bB,oO,ly,fp,eL,eX,aw,cO,h0,aO,j9,dt,cu,cq,ev,cv,ep,dJ,eu,e1,e2,bN,bB,aF,aW,cB];simp only[post,St.fin,aQ,aA];simp only[go_sem,bO,oO,ly,fp,eL,eX,aw,cO,h0,aO,j9,dt,cu,cq,ev,cv,ep,dJ,eu,e1,e2,bN,bB,aF,aW,cB];rfl
     ·simp[WK,aS,ax]
    ·simp only[BL];apply bu
     ·intro A;simp only[ak,ai,f90];simp only[go_sem,bO,oO,ly,fp,eL,eX,aw,cO,h0,aO,j9,dt,cu,cq,ev,cv,ep,dJ,eu,e1,e2,bN,bB,aF,aW,cB];rw[aG.eq_def];simp only[go_sem,bO,bB,oO,ly,fp,eL,eX,aw,cO,h0,aO,j9,dt,cu,cq,ev,cv,ep,dJ,eu,e1,e2,bN,bB,aF,aW,cB];rw[aG.eq_def];simp only[go_sem,bO,bB,oO,ly,fp,eL,eX,aw,cO,h0,aO,j9,dt,cu,cq,ev,cv,ep,dJ,eu,e1,e2,bN,bB,aF,aW,cB];rw[aG.eq_def];simp only[go_sem,bO,bB,oO,ly,fp,eL,eX,aw,cO,h0,aO,j9,dt,cu,cq,ev,cv,ep,dJ,eu,e1,e2,bN,bB,aF,aW,cB];simp only[post,St.fin,aQ,aA];simp only[go_sem,bO,oO,ly,fp,eL,eX,aw,cO,h0,aO,j9,dt,cu,cq,ev,cv,ep,dJ,eu,e1,e2,bN,bB,aF,aW,cB];rfl
     ·simp[WK,aS,ax]
  ·simp only[BL];cases Dc:(us.any fun x=>2==x)
   ·rw[Dc] at e2;simp only[BL];apply bu
    ·intro A;simp only[ak,ai,f90];simp only[go_sem,bO,oO,fp,eL,eX,aw,cO,h0,aO,j9,dt,cu,cq,ev,cv,ep,dJ,eu,e1,e2,bN,bB,aF,aW,cB];rw[aG.eq_def];simp only[go_sem,bO,bB,oO,fp,eL,eX,aw,cO,h0,aO,j9,dt,cu,cq,ev,cv,ep,dJ,eu,e1,e2,bN,bB,aF,aW,cB];rw[aG.eq_def];simp only[go_sem,bO,bB,oO,fp,eL,eX,aw,cO,h0,aO,j9,dt,cu,cq,ev,cv,ep,dJ,eu,e1,e2,bN,bB,aF,aW,cB];rw[aG.eq_def];simp only[go_sem,bO,bB,oO,fp,eL,eX,aw,cO,h0,aO,j9,dt,cu,cq,ev,cv,ep,dJ,eu,e1,e2,bN,bB,aF,aW,cB];simp only[post,St.fin,aQ,aA];simp only[go_sem,bO,oO,fp,eL,eX,aw,cO,h0,aO,j9,dt,cu,cq,ev,cv,ep,dJ,eu,e1,e2,bN,bB,aF,aW,cB];rfl
    ·simp[WK,aS,ax]
   ·rw[Dc] at e2;cases ly:(fb.sort==2)
    ·simp only[BL];apply bu
     ·intro A;simp only[ak,ai,f90];simp only[go_sem,bO,oO,ly,fp,eL,eX,aw,cO,h0,aO,j9,dt,cu,cq,ev,cv,ep,dJ,eu,e1,e2,bN,bB,aF,aW,cB];rw[aG.eq_def];simp only[go_sem,bO,bB,oO,ly,fp,eL,eX,aw,cO,h0,aO,j9,dt,cu,cq,ev,cv,ep,dJ,eu,e1,e2,bN,bB,aF,aW,cB];rw[aG.eq_def];simp only[go_sem,bO,bB,oO,ly,fp,eL,eX,aw,cO,h0,aO,j9,dt,cu,cq,ev,cv,ep,dJ,eu,e1,e2,bN,bB,aF,aW,cB];rw[aG.eq_def];simp only[go_sem,bO,bB,oO,ly,fp,eL,eX,aw,cO,h0,aO,j9,dt,cu,cq,ev,cv,ep,dJ,eu,e1,e2,bN,bB,aF,aW,cB];simp only[post,St.fin,aQ,aA];simp only[go_sem,bO,oO,ly,fp,eL,eX,aw,cO,h0,aO,j9,dt,cu,cq,ev,cv,ep,dJ,eu,e1,e2,bN,bB,aF,aW,cB];rfl
     ·simp[WK,aS,ax]
    ·simp only[BL];apply bu
     ·intro A;simp only[ak,ai,f90];simp only[go_sem,bO,oO,ly,fp,eL,eX,aw,cO,h0,aO,j9,dt,cu,cq,ev,cv,ep,dJ,eu,e1,e2,bN,bB,aF,aW,cB];rw[aG.eq_def];simp only[go_sem,bO,bB,oO,ly,fp,eL,eX,aw,cO,h0,aO,j9,dt,cu,cq,ev,cv,ep,dJ,eu,e1,e2,bN,bB,aF,aW,cB];rw[aG.eq_def];simp only[go_sem,bO,bB,oO,ly,fp,eL,eX,aw,cO,h0,aO,j9,dt,cu,cq,ev,cv,ep,dJ,eu,e1,e2,bN,bB,aF,aW,cB];rw[aG.eq_def];simp only[go_sem,bO,bB,oO,ly,fp,eL,eX,aw,cO,h0,aO,j9,dt,cu,cq,ev,cv,ep,dJ,eu,e1,e2,bN,bB,aF,aW,cB];simp only[post,St.fin,aQ,aA];simp only[go_sem,bO,oO,ly,fp,eL,eX,aw,cO,h0,aO,j9,dt,cu,cq,ev,cv,ep,dJ,eu,e1,e2,bN,bB,aF,aW,cB];rfl
     ·simp[WK,aS,ax]
noncomputable def c90:=bk (α:=(List bp) × (List Int) × (List ByteArray) × (List aP) × (List (List aB)) × (List Bool) × (List Int) × Int) (fun (N,V,I,U,ao,aj,au,q)=>XW N V I U ao aj au∧0≤q∧q.toNat < N.length) (fun (N,V,I,U,ao,aj,au,q)=>[(wv N V I U ao aj au),J q]) (fun (N,V,I,U,ao,aj,au,q)=>aS (ir N V I U ao aj q))
theorem Y1 (q:Int) (hp:XW N V I U ao aj au∧0≤q∧q.toNat < N.length):c90 [(wv N V I U ao aj au),J q]=some (aS (ir N V I U ao aj q)):=aJ (fun X Y hp bZ h'=>by
 obtain⟨N,V,I,U,ao,aj,au,q⟩:=X;obtain⟨c7,bJ,bL,bK,gm,eW,jj,q'⟩:=Y;simp only[cJ] at h';obtain⟨rfl,rfl,rfl,rfl,rfl,rfl,rfl,rfl⟩:=h';rfl) (N,V,I,U,ao,aj,au,q) hp
theorem afc:cI 90 c90:=aE h90 rfl rfl fun (N,V,I,U,ao,aj,au,q) hp=>let ⟨_,hw,hr⟩:=afb N V I U ao aj au q hp;(rc h90 hr (fun i=>match i with | 10=>[0,1,3,7,0,0,32,96,31,511,1023,0,4095] | _=>[]) rfl rfl rfl (by kernel_rfl) ⟨Un,NO,x9,trivial⟩ trivial).eK hw
end Go.Proofs.Tryz
end
