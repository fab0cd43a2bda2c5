/- Part of the proof of one statement of this seat: an abstract machine for the program, its contracts, and the statement (no condition of our own). -/
import Derived.Test.YtbdbjpdlcemeaaaDoorDp05
set_option linter.unusedSimpArgs false
set_option linter.unusedVariables false
section
set_option maxHeartbeats 4000000
set_option maxRecDepth 20000
namespace Go.Proofs.Tryd
open Go Go.Abs
variable (ops : List XOp) (ints : List Int) (strs : List ByteArray) (rels : List XRel)
theorem bff:(false==false)=true:=rfl
theorem btt:(true==true)=true:=rfl
theorem bft:(false==true)=false:=rfl
theorem btf:(true==false)=false:=rfl
def contF (m n:Int):Bool:=
 ((decide (0 < m)==decide (0 < n))&&decide ((if IntKind.i64.wrap (-m) > m then IntKind.i64.wrap (-m) else m)≤(if IntKind.i64.wrap (-n) > n then IntKind.i64.wrap (-n) else n))) || (decide (0 < m)&&(decide (n < 0)&&decide (m < IntKind.i64.wrap (-n))))
def wrapRF (ops:List XOp) (ints:List Int) (strs:List ByteArray) (rels:List XRel) (before:List (List XFact)) (reached:List Bool) (q:Int):Option XCode:=
 let o:=ops.getD q.toNat op0
 if (o.op==19)=true then
  let f:=factAt before q o.a
  if (!(o.n==64)&&(!(o.n== -64)&&(!(reached.getD q.toNat false) || (!(f.sort==3) || !(contF f.n o.n)))))=true then none
  else some ⟨ops.set q.toNat ⟨3,o.d,o.a,0,0⟩,ints,strs,rels⟩
 else none
theorem h94:Tryd.prog.funcs[55]? = some f55:=by kernel_rfl
def D94:Nat→Option (List DH × List Nat):=fun i=>match i with | 4=>some ([⟨[7],[],[7]⟩,⟨[7],[],[7]⟩,⟨[7],[],[7]⟩,⟨[7],[],[7]⟩,⟨[7],[],[7]⟩,⟨[7],[],[7]⟩,⟨[7],[],[7]⟩,⟨[7],[],[7]⟩,⟨[7],[],[7]⟩,⟨[7],[],[7]⟩,⟨[],[7],[]⟩,⟨[],[],[]⟩],[7]) | _=>none
theorem D94_4:D94 4=some ([⟨[7],[],[7]⟩,⟨[7],[],[7]⟩,⟨[7],[],[7]⟩,⟨[7],[],[7]⟩,⟨[7],[],[7]⟩,⟨[7],[],[7]⟩,⟨[7],[],[7]⟩,⟨[7],[],[7]⟩,⟨[7],[],[7]⟩,⟨[7],[],[7]⟩,⟨[],[7],[]⟩,⟨[],[],[]⟩],[7]):=rfl
theorem D94_5:D94 5=none:=rfl
theorem run94 (before:List (List XFact)) (reached:List Bool) (alive:List Int) (q:Int) (hp:XW ops ints strs rels before reached alive∧0≤q∧q.toNat < ops.length) :∃ r,wk r (eOut (wrapRF ops ints strs rels before reached q))∧∀ A,acall (env 103 2475880078570760549800347635 D94 [(64,c112)] [] A) hN (5) f55 [(wv ops ints strs rels before reached alive),.int .i64 q]=some r:=by
 obtain⟨hw,h0,hlt⟩:=hp;have hlt':q < (ops.length:Int):=by omega
 have hrl:=hw.rl;have hbl:=hw.bl;have hget:=getD_get (d:=op0) hlt;have hrg:=getD_get (d:=false) (show q.toNat < reached.length by omega);have hop:=hw.op _ hlt;simp only[wrapRF];generalize ops.getD q.toNat op0=x at *;obtain⟨⟨ha0,ha8⟩,-,-⟩:=hop;have hb8:=hw.b8 _ hlt;have hgb:=getD_get (d:=([]:List XFact)) (show q.toNat < before.length by omega);have hga:(before.getD q.toNat [])[x.a.toNat]? = some (factAt before q x.a):=getD_get (by omega);generalize before.getD q.toNat []=bs at hgb hb8 hga;have ha8:x.a < (8:Int):=by omega
 have e112:=c112_eq ops ints strs rels before reached alive q 3 x.d x.a 0 0 ⟨hw.lim,h0,hlt⟩;generalize factAt before q x.a=f at *;generalize reached.getD q.toNat false=rg at *;cases h19:(x.op==19)
 ·skip
  simp only[beq_self_eq_true,reduceCtorEq,BEq.rfl,bff,btt,bft,btf,BL];apply wkI
  ·intro A;simp only[acall,macall,f55];simp only[go_sem,D94_4,D94_5,h19,hget,hrg,h0,hlt',hbl,hgb,hga,ha0,ha8,hb8,e112,eFacts,eFact,hrl,bff,btt,bft,btf];rfl
  ·simp[WK,eOut,eCode]
 ·skip
  cases h1:(decide (0 < f.n))
  ·skip
   cases h2:(decide (0 < x.n))
   ·skip
    cases h3:(decide ((if IntKind.i64.wrap (-f.n) > f.n then IntKind.i64.wrap (-f.n) else f.n)≤(if IntKind.i64.wrap (-x.n) > x.n then IntKind.i64.wrap (-x.n) else x.n)))
    ·skip
     have hcv:contF f.n x.n=false:=by simp only[contF,h1,h2,h3];rfl
     rw[hcv];cases n64:(x.n==64)
     ·skip
      cases m64:(x.n== -64)
      ·skip
       cases hr:rg
       ·skip
        simp only[beq_self_eq_true,reduceCtorEq,BEq.rfl,bff,btt,bft,btf,BL];apply wkI
        ·intro A;simp only[acall,macall,f55];simp only[go_sem,D94_4,D94_5,h19,h1,h2,h3,n64,m64,hr,hget,hrg,h0,hlt',hbl,hgb,hga,ha0,ha8,hb8,e112,eFacts,eFact,hrl,bff,btt,bft,btf];rfl
        ·simp[WK,eOut,eCode]
       ·skip
        cases hs:(f.sort==3)
        ·skip
         simp only[beq_self_eq_true,reduceCtorEq,BEq.rfl,bff,btt,bft,btf,BL];apply wkI
         ·intro A;simp only[acall,macall,f55];simp only[go_sem,D94_4,D94_5,h19,h1,h2,h3,n64,m64,hr,hs,hget,hrg,h0,hlt',hbl,hgb,hga,ha0,ha8,hb8,e112,eFacts,eFact,hrl,bff,btt,bft,btf];rfl
         ·simp[WK,eOut,eCode]
        ·skip
         simp only[beq_self_eq_true,reduceCtorEq,BEq.rfl,bff,btt,bft,btf,BL];apply wkI
         ·intro A;simp only[acall,macall,f55];simp only[go_sem,D94_4,D94_5,h19,h1,h2,h3,n64,m64,hr,hs,hget,hrg,h0,hlt',hbl,hgb,hga,ha0,ha8,hb8,e112,eFacts,eFact,hrl,bff,btt,bft,btf];rfl
         ·simp[WK,eOut,eCode]
      ·skip
       simp only[beq_self_eq_true,reduceCtorEq,BEq.rfl,bff,btt,bft,btf,BL];apply wkI
       ·intro A;simp only[acall,macall,f55];simp only[go_sem,D94_4,D94_5,h19,h1,h2,h3,n64,m64,hget,hrg,h0,hlt',hbl,hgb,hga,ha0,ha8,hb8,e112,eFacts,eFact,hrl,bff,btt,bft,btf];rfl
       ·simp[WK,eOut,eCode]
     ·skip
      simp only[beq_self_eq_true,reduceCtorEq,BEq.rfl,bff,btt,bft,btf,BL];apply wkI
      ·intro A;simp only[acall,macall,f55];simp only[go_sem,D94_4,D94_5,h19,h1,h2,h3,n64,hget,hrg,h0,hlt',hbl,hgb,hga,ha0,ha8,hb8,e112,eFacts,eFact,hrl,bff,btt,bft,btf];rfl
      ·simp[WK,eOut,eCode]
    ·skip
     have hcv:contF f.n x.n=true:=by simp only[contF,h1,h2,h3];rfl
     rw[hcv];cases n64:(x.n==64)
     ·skip
      cases m64:(x.n== -64)
      ·skip
       cases hr:rg
       ·skip
        simp only[beq_self_eq_true,reduceCtorEq,BEq.rfl,bff,btt,bft,btf,BL];apply wkI
        ·intro A;simp only[acall,macall,f55];simp only[go_sem,D94_4,D94_5,h19,h1,h2,h3,n64,m64,hr,hget,hrg,h0,hlt',hbl,hgb,hga,ha0,ha8,hb8,e112,eFacts,eFact,hrl,bff,btt,bft,btf];rfl
        ·simp[WK,eOut,eCode]
       ·skip
        cases hs:(f.sort==3)
        ·skip
         simp only[beq_self_eq_true,reduceCtorEq,BEq.rfl,bff,btt,bft,btf,BL];apply wkI
         ·intro A;simp only[acall,macall,f55];simp only[go_sem,D94_4,D94_5,h19,h1,h2,h3,n64,m64,hr,hs,hget,hrg,h0,hlt',hbl,hgb,hga,ha0,ha8,hb8,e112,eFacts,eFact,hrl,bff,btt,bft,btf];rfl
         ·simp[WK,eOut,eCode]
        ·skip
         simp only[beq_self_eq_true,reduceCtorEq,BEq.rfl,bff,btt,bft,btf,BL];apply wkI
         ·intro A;simp only[acall,macall,f55];simp only[go_sem,D94_4,D94_5,h19,h1,h2,h3,n64,m64,hr,hs,hget,hrg,h0,hlt',hbl,hgb,hga,ha0,ha8,hb8,e112,eFacts,eFact,hrl,bff,btt,bft,btf];rfl
         ·simp[WK,eOut,eCode]
      ·skip
       simp only[beq_self_eq_true,reduceCtorEq,BEq.rfl,bff,btt,bft,btf,BL];apply wkI
       ·intro A;simp only[acall,macall,f55];simp only[go_sem,D94_4,D94_5,h19,h1,h2,h3,n64,m64,hget,hrg,h0,hlt',hbl,hgb,hga,ha0,ha8,hb8,e112,eFacts,eFact,hrl,bff,btt,bft,btf];rfl
       ·simp[WK,eOut,eCode]
     ·skip
      simp only[beq_self_eq_true,reduceCtorEq,BEq.rfl,bff,btt,bft,btf,BL];apply wkI
      ·intro A;simp only[acall,macall,f55];simp only[go_sem,D94_4,D94_5,h19,h1,h2,h3,n64,hget,hrg,h0,hlt',hbl,hgb,hga,ha0,ha8,hb8,e112,eFacts,eFact,hrl,bff,btt,bft,btf];rfl
      ·simp[WK,eOut,eCode]
   ·skip
    have hcv:contF f.n x.n=false:=by simp only[contF,h1,h2];rfl
    rw[hcv];cases n64:(x.n==64)
    ·skip
     cases m64:(x.n== -64)
     ·skip
      cases hr:rg
      ·skip
       simp only[beq_self_eq_true,reduceCtorEq,BEq.rfl,bff,btt,bft,btf,BL];apply wkI
       ·intro A;simp only[acall,macall,f55];simp only[go_sem,D94_4,D94_5,h19,h1,h2,n64,m64,hr,hget,hrg,h0,hlt',hbl,hgb,hga,ha0,ha8,hb8,e112,eFacts,eFact,hrl,bff,btt,bft,btf];rfl
       ·simp[WK,eOut,eCode]
      ·skip
       cases hs:(f.sort==3)
       ·skip
        simp only[beq_self_eq_true,reduceCtorEq,BEq.rfl,bff,btt,bft,btf,BL];apply wkI
        ·intro A;simp only[acall,macall,f55];simp only[go_sem,D94_4,D94_5,h19,h1,h2,n64,m64,hr,hs,hget,hrg,h0,hlt',hbl,hgb,hga,ha0,ha8,hb8,e112,eFacts,eFact,hrl,bff,btt,bft,btf];rfl
        ·simp[WK,eOut,eCode]
       ·skip
        simp only[beq_self_eq_true,reduceCtorEq,BEq.rfl,bff,btt,bft,btf,BL];apply wkI
        ·intro A;simp only[acall,macall,f55];simp only[go_sem,D94_4,D94_5,h19,h1,h2,n64,m64,hr,hs,hget,hrg,h0,hlt',hbl,hgb,hga,ha0,ha8,hb8,e112,eFacts,eFact,hrl,bff,btt,bft,btf];rfl
        ·simp[WK,eOut,eCode]
     ·skip
      simp only[beq_self_eq_true,reduceCtorEq,BEq.rfl,bff,btt,bft,btf,BL];apply wkI
      ·intro A;simp only[acall,macall,f55];simp only[go_sem,D94_4,D94_5,h19,h1,h2,n64,m64,hget,hrg,h0,hlt',hbl,hgb,hga,ha0,ha8,hb8,e112,eFacts,eFact,hrl,bff,btt,bft,btf];rfl
      ·simp[WK,eOut,eCode]
    ·skip
     simp only[beq_self_eq_true,reduceCtorEq,BEq.rfl,bff,btt,bft,btf,BL];apply wkI
     ·intro A;simp only[acall,macall,f55];simp only[go_sem,D94_4,D94_5,h19,h1,h2,n64,hget,hrg,h0,hlt',hbl,hgb,hga,ha0,ha8,hb8,e112,eFacts,eFact,hrl,bff,btt,bft,btf];rfl
     ·simp[WK,eOut,eCode]
  ·skip
   cases h2:(decide (0 < x.n))
   ·skip
    cases h4:(decide (x.n < 0))
    ·skip
     have hcv:contF f.n x.n=false:=by simp only[contF,h1,h2,h4];rfl
     rw[hcv];cases n64:(x.n==64)
     ·skip
      cases m64:(x.n== -64)
      ·skip
       cases hr:rg
       ·skip
        simp only[beq_self_eq_true,reduceCtorEq,BEq.rfl,bff,btt,bft,btf,BL];apply wkI
        ·intro A;simp only[acall,macall,f55];simp only[go_sem,D94_4,D94_5,h19,h1,h2,h4,n64,m64,hr,hget,hrg,h0,hlt',hbl,hgb,hga,ha0,ha8,hb8,e112,eFacts,eFact,hrl,bff,btt,bft,btf];rfl
        ·simp[WK,eOut,eCode]
       ·skip
        cases hs:(f.sort==3)
        ·skip
         simp only[beq_self_eq_true,reduceCtorEq,BEq.rfl,bff,btt,bft,btf,BL];apply wkI
         ·intro A;simp only[acall,macall,f55];simp only[go_sem,D94_4,D94_5,h19,h1,h2,h4,n64,m64,hr,hs,hget,hrg,h0,hlt',hbl,hgb,hga,ha0,ha8,hb8,e112,eFacts,eFact,hrl,bff,btt,bft,btf];rfl
         ·simp[WK,eOut,eCode]
        ·skip
         simp only[beq_self_eq_true,reduceCtorEq,BEq.rfl,bff,btt,bft,btf,BL];apply wkI
         ·intro A;simp only[acall,macall,f55];simp only[go_sem,D94_4,D94_5,h19,h1,h2,h4,n64,m64,hr,hs,hget,hrg,h0,hlt',hbl,hgb,hga,ha0,ha8,hb8,e112,eFacts,eFact,hrl,bff,btt,bft,btf];rfl
         ·simp[WK,eOut,eCode]
      ·skip
       simp only[beq_self_eq_true,reduceCtorEq,BEq.rfl,bff,btt,bft,btf,BL];apply wkI
       ·intro A;simp only[acall,macall,f55];simp only[go_sem,D94_4,D94_5,h19,h1,h2,h4,n64,m64,hget,hrg,h0,hlt',hbl,hgb,hga,ha0,ha8,hb8,e112,eFacts,eFact,hrl,bff,btt,bft,btf];rfl
       ·simp[WK,eOut,eCode]
     ·skip
      simp only[beq_self_eq_true,reduceCtorEq,BEq.rfl,bff,btt,bft,btf,BL];apply wkI
      ·intro A;simp only[acall,macall,f55];simp only[go_sem,D94_4,D94_5,h19,h1,h2,h4,n64,hget,hrg,h0,hlt',hbl,hgb,hga,ha0,ha8,hb8,e112,eFacts,eFact,hrl,bff,btt,bft,btf];rfl
      ·simp[WK,eOut,eCode]
    ·skip
     cases h5:(decide (f.n < IntKind.i64.wrap (-x.n)))
     ·skip
      have hcv:contF f.n x.n=false:=by simp only[contF,h1,h2,h4,h5];rfl
      rw[hcv];cases n64:(x.n==64)
      ·skip
       cases m64:(x.n== -64)
       ·skip
        cases hr:rg
        ·skip
         simp only[beq_self_eq_true,reduceCtorEq,BEq.rfl,bff,btt,bft,btf,BL];apply wkI
         ·intro A;simp only[acall,macall,f55];simp only[go_sem,D94_4,D94_5,h19,h1,h2,h4,h5,n64,m64,hr,hget,hrg,h0,hlt',hbl,hgb,hga,ha0,ha8,hb8,e112,eFacts,eFact,hrl,bff,btt,bft,btf];rfl
         ·simp[WK,eOut,eCode]
        ·skip
         cases hs:(f.sort==3)
         ·skip
          simp only[beq_self_eq_true,reduceCtorEq,BEq.rfl,bff,btt,bft,btf,BL];apply wkI
          ·intro A;simp only[acall,macall,f55];simp only[go_sem,D94_4,D94_5,h19,h1,h2,h4,h5,n64,m64,hr,hs,hget,hrg,h0,hlt',hbl,hgb,hga,ha0,ha8,hb8,e112,eFacts,eFact,hrl,bff,btt,bft,btf];rfl
          ·simp[WK,eOut,eCode]
         ·skip
          simp only[beq_self_eq_true,reduceCtorEq,BEq.rfl,bff,btt,bft,btf,BL];apply wkI
          ·intro A;simp only[acall,macall,f55];simp only[go_sem,D94_4,D94_5,h19,h1,h2,h4,h5,n64,m64,hr,hs,hget,hrg,h0,hlt',hbl,hgb,hga,ha0,ha8,hb8,e112,eFacts,eFact,hrl,bff,btt,bft,btf];rfl
          ·simp[WK,eOut,eCode]
       ·skip
        simp only[beq_self_eq_true,reduceCtorEq,BEq.rfl,bff,btt,bft,btf,BL];apply wkI
        ·intro A;simp only[acall,macall,f55];simp only[go_sem,D94_4,D94_5,h19,h1,h2,h4,h5,n64,m64,hget,hrg,h0,hlt',hbl,hgb,hga,ha0,ha8,hb8,e112,eFacts,eFact,hrl,bff,btt,bft,btf];rfl
        ·simp[WK,eOut,eCode]
      ·skip
       simp only[beq_self_eq_true,reduceCtorEq,BEq.rfl,bff,btt,bft,btf,BL];apply wkI
       ·intro A;simp only[acall,macall,f55];simp only[go_sem,D94_4,D94_5,h19,h1,h2,h4,h5,n64,hget,hrg,h0,hlt',hbl,hgb,hga,ha0,ha8,hb8,e112,eFacts,eFact,hrl,bff,btt,bft,btf];rfl
       ·simp[WK,eOut,eCode]
     ·skip
      have hcv:contF f.n x.n=true:=by simp only[contF,h1,h2,h4,h5];rfl
      rw[hcv];cases n64:(x.n==64)
      ·skip
       cases m64:(x.n== -64)
       ·skip
        cases hr:rg
        ·skip
         simp only[beq_self_eq_true,reduceCtorEq,BEq.rfl,bff,btt,bft,btf,BL];apply wkI
         ·intro A;simp only[acall,macall,f55];simp only[go_sem,D94_4,D94_5,h19,h1,h2,h4,h5,n64,m64,hr,hget,hrg,h0,hlt',hbl,hgb,hga,ha0,ha8,hb8,e112,eFacts,eFact,hrl,bff,btt,bft,btf];rfl
         ·simp[WK,eOut,eCode]
        ·skip
         cases hs:(f.sort==3)
         ·skip
          simp only[beq_self_eq_true,reduceCtorEq,BEq.rfl,bff,btt,bft,btf,BL];apply wkI
          ·intro A;simp only[acall,macall,f55];simp only[go_sem,D94_4,D94_5,h19,h1,h2,h4,h5,n64,m64,hr,hs,hget,hrg,h0,hlt',hbl,hgb,hga,ha0,ha8,hb8,e112,eFacts,eFact,hrl,bff,btt,bft,btf];rfl
          ·simp[WK,eOut,eCode]
         ·skip
          simp only[beq_self_eq_true,reduceCtorEq,BEq.rfl,bff,btt,bft,btf,BL];apply wkI
          ·intro A;simp only[acall,macall,f55];simp only[go_sem,D94_4,D94_5,h19,h1,h2,h4,h5,n64,m64,hr,hs,hget,hrg,h0,hlt',hbl,hgb,hga,ha0,ha8,hb8,e112,eFacts,eFact,hrl,bff,btt,bft,btf];rfl
          ·simp[WK,eOut,eCode]
       ·skip
        simp only[beq_self_eq_true,reduceCtorEq,BEq.rfl,bff,btt,bft,btf,BL];apply wkI
        ·intro A;simp only[acall,macall,f55];simp only[go_sem,D94_4,D94_5,h19,h1,h2,h4,h5,n64,m64,hget,hrg,h0,hlt',hbl,hgb,hga,ha0,ha8,hb8,e112,eFacts,eFact,hrl,bff,btt,bft,btf];rfl
        ·simp[WK,eOut,eCode]
      ·skip
       simp only[beq_self_eq_true,reduceCtorEq,BEq.rfl,bff,btt,bft,btf,BL];apply wkI
       ·intro A;simp only[acall,macall,f55];simp only[go_sem,D94_4,D94_5,h19,h1,h2,h4,h5,n64,hget,hrg,h0,hlt',hbl,hgb,hga,ha0,ha8,hb8,e112,eFacts,eFact,hrl,bff,btt,bft,btf];rfl
       ·simp[WK,eOut,eCode]
   ·skip
    cases h3:(decide ((if IntKind.i64.wrap (-f.n) > f.n then IntKind.i64.wrap (-f.n) else f.n)≤(if IntKind.i64.wrap (-x.n) > x.n then IntKind.i64.wrap (-x.n) else x.n)))
    ·skip
     have h4:decide (x.n < 0)=false:=by simp at h2 ⊢;omega
     have hcv:contF f.n x.n=false:=by simp only[contF,h1,h2,h3,h4];rfl
     rw[hcv];cases n64:(x.n==64)
     ·skip
      cases m64:(x.n== -64)
      ·skip
       cases hr:rg
       ·skip
        simp only[beq_self_eq_true,reduceCtorEq,BEq.rfl,bff,btt,bft,btf,BL];apply wkI
        ·intro A;simp only[acall,macall,f55];simp only[go_sem,D94_4,D94_5,h19,h1,h2,h3,h4,n64,m64,hr,hget,hrg,h0,hlt',hbl,hgb,hga,ha0,ha8,hb8,e112,eFacts,eFact,hrl,bff,btt,bft,btf];rfl
        ·simp[WK,eOut,eCode]
       ·skip
        cases hs:(f.sort==3)
        ·skip
         simp only[beq_self_eq_true,reduceCtorEq,BEq.rfl,bff,btt,bft,btf,BL];apply wkI
         ·intro A;simp only[acall,macall,f55];simp only[go_sem,D94_4,D94_5,h19,h1,h2,h3,h4,n64,m64,hr,hs,hget,hrg,h0,hlt',hbl,hgb,hga,ha0,ha8,hb8,e112,eFacts,eFact,hrl,bff,btt,bft,btf];rfl
         ·simp[WK,eOut,eCode]
        ·skip
         simp only[beq_self_eq_true,reduceCtorEq,BEq.rfl,bff,btt,bft,btf,BL];apply wkI
         ·intro A;simp only[acall,macall,f55];simp only[go_sem,D94_4,D94_5,h19,h1,h2,h3,h4,n64,m64,hr,hs,hget,hrg,h0,hlt',hbl,hgb,hga,ha0,ha8,hb8,e112,eFacts,eFact,hrl,bff,btt,bft,btf];rfl
         ·simp[WK,eOut,eCode]
      ·skip
       simp only[beq_self_eq_true,reduceCtorEq,BEq.rfl,bff,btt,bft,btf,BL];apply wkI
       ·intro A;simp only[acall,macall,f55];simp only[go_sem,D94_4,D94_5,h19,h1,h2,h3,h4,n64,m64,hget,hrg,h0,hlt',hbl,hgb,hga,ha0,ha8,hb8,e112,eFacts,eFact,hrl,bff,btt,bft,btf];rfl
       ·simp[WK,eOut,eCode]
     ·skip
      simp only[beq_self_eq_true,reduceCtorEq,BEq.rfl,bff,btt,bft,btf,BL];apply wkI
      ·intro A;simp only[acall,macall,f55];simp only[go_sem,D94_4,D94_5,h19,h1,h2,h3,h4,n64,hget,hrg,h0,hlt',hbl,hgb,hga,ha0,ha8,hb8,e112,eFacts,eFact,hrl,bff,btt,bft,btf];rfl
      ·simp[WK,eOut,eCode]
    ·skip
     have hcv:contF f.n x.n=true:=by simp only[contF,h1,h2,h3];rfl
     rw[hcv];cases n64:(x.n==64)
     ·skip
      cases m64:(x.n== -64)
      ·skip
       cases hr:rg
       ·skip
        simp only[beq_self_eq_true,reduceCtorEq,BEq.rfl,bff,btt,bft,btf,BL];apply wkI
        ·intro A;simp only[acall,macall,f55];simp only[go_sem,D94_4,D94_5,h19,h1,h2,h3,n64,m64,hr,hget,hrg,h0,hlt',hbl,hgb,hga,ha0,ha8,hb8,e112,eFacts,eFact,hrl,bff,btt,bft,btf];rfl
        ·simp[WK,eOut,eCode]
       ·skip
        cases hs:(f.sort==3)
        ·skip
         simp only[beq_self_eq_true,reduceCtorEq,BEq.rfl,bff,btt,bft,btf,BL];apply wkI
         ·intro A;simp only[acall,macall,f55];simp only[go_sem,D94_4,D94_5,h19,h1,h2,h3,n64,m64,hr,hs,hget,hrg,h0,hlt',hbl,hgb,hga,ha0,ha8,hb8,e112,eFacts,eFact,hrl,bff,btt,bft,btf];rfl
         ·simp[WK,eOut,eCode]
        ·skip
         simp only[beq_self_eq_true,reduceCtorEq,BEq.rfl,bff,btt,bft,btf,BL];apply wkI
         ·intro A;simp only[acall,macall,f55];simp only[go_sem,D94_4,D94_5,h19,h1,h2,h3,n64,m64,hr,hs,hget,hrg,h0,hlt',hbl,hgb,hga,ha0,ha8,hb8,e112,eFacts,eFact,hrl,bff,btt,bft,btf];rfl
         ·simp[WK,eOut,eCode]
      ·skip
       simp only[beq_self_eq_true,reduceCtorEq,BEq.rfl,bff,btt,bft,btf,BL];apply wkI
       ·intro A;simp only[acall,macall,f55];simp only[go_sem,D94_4,D94_5,h19,h1,h2,h3,n64,m64,hget,hrg,h0,hlt',hbl,hgb,hga,ha0,ha8,hb8,e112,eFacts,eFact,hrl,bff,btt,bft,btf];rfl
       ·simp[WK,eOut,eCode]
     ·skip
      simp only[beq_self_eq_true,reduceCtorEq,BEq.rfl,bff,btt,bft,btf,BL];apply wkI
      ·intro A;simp only[acall,macall,f55];simp only[go_sem,D94_4,D94_5,h19,h1,h2,h3,n64,hget,hrg,h0,hlt',hbl,hgb,hga,ha0,ha8,hb8,e112,eFacts,eFact,hrl,bff,btt,bft,btf];rfl
      ·simp[WK,eOut,eCode]
noncomputable def c94:=famP (α:=(List XOp) × (List Int) × (List ByteArray) × (List XRel) × (List (List XFact)) × (List Bool) × (List Int) × Int) (fun (ops,ints,strs,rels,before,reached,alive,q)=>XW ops ints strs rels before reached alive∧0≤q∧q.toNat < ops.length) (fun (ops,ints,strs,rels,before,reached,alive,q)=>[(wv ops ints strs rels before reached alive),.int .i64 q]) (fun (ops,ints,strs,rels,before,reached,alive,q)=>eOut (wrapRF ops ints strs rels before reached q))
theorem c94_eq (before:List (List XFact)) (reached:List Bool) (alive:List Int) (q:Int) (hp:XW ops ints strs rels before reached alive∧0≤q∧q.toNat < ops.length):c94 [(wv ops ints strs rels before reached alive),.int .i64 q]=some (eOut (wrapRF ops ints strs rels before reached q)):=fam_eq (fun X Y hp hp' h'=>by
 obtain⟨ops,ints,strs,rels,before,reached,alive,q⟩:=X;obtain⟨ops',ints',strs',rels',before',reached',alive',q'⟩:=Y;simp only[INJ] at h';obtain⟨rfl,rfl,rfl,rfl,rfl,rfl,rfl,rfl⟩:=h';rfl) (ops,ints,strs,rels,before,reached,alive,q) hp
theorem snd94:Snd 55 c94:=fam_snd h94 rfl rfl fun (ops,ints,strs,rels,before,reached,alive,q) hp=>let ⟨_,hw,hr⟩:=run94 ops ints strs rels before reached alive q hp;(rc h94 hr (fun i=>match i with | 4=>[0,1,3,7,0,0,32,31,255,511,0,2047] | 5=>[0,1,0,4,3,31] | _=>[]) rfl rfl rfl (by kernel_rfl) ⟨snd112,trivial⟩ trivial).weak hw
def copiesF (ops:List XOp) (ints:List Int) (strs:List ByteArray) (rels:List XRel) (before:List (List XFact)) (reached:List Bool) (q:Int):Option XCode:=
 let o:=ops.getD q.toNat op0
 if reached.getD q.toNat false=true then
  let fa:=factAt before q o.a
  let fb:=factAt before q o.b
  let ca:=((usesF o.op 1 2).any fun x=>1==x)&&fa.sort==2
  let cb:=((usesF o.op 1 2).any fun x=>2==x)&&fb.sort==2
  if (ca || cb)=true then some ⟨ops.set q.toNat ⟨o.op,o.d,if ca=true then fa.n else o.a,if cb=true then fb.n else o.b,o.n⟩,ints,strs,rels⟩ else none
 else none
theorem h90:Tryd.prog.funcs[51]? = some f51:=by kernel_rfl
def D90:Nat→Option (List DH × List Nat):=fun i=>match i with | 10=>some ([⟨[11],[],[11]⟩,⟨[11],[],[11]⟩,⟨[11],[],[11]⟩,⟨[11],[],[11]⟩,⟨[11],[],[11]⟩,⟨[11],[],[11]⟩,⟨[11],[],[11]⟩,⟨[11],[],[11]⟩,⟨[11],[],[11]⟩,⟨[11],[],[11]⟩,⟨[11],[],[11]⟩,⟨[],[11],[]⟩,⟨[],[],[]⟩],[11]) | _=>none
theorem D90_10:D90 10=some ([⟨[11],[],[11]⟩,⟨[11],[],[11]⟩,⟨[11],[],[11]⟩,⟨[11],[],[11]⟩,⟨[11],[],[11]⟩,⟨[11],[],[11]⟩,⟨[11],[],[11]⟩,⟨[11],[],[11]⟩,⟨[11],[],[11]⟩,⟨[11],[],[11]⟩,⟨[11],[],[11]⟩,⟨[],[11],[]⟩,⟨[],[],[]⟩],[11]):=rfl
def H90:Nat→Hint:=fun i=>if i=7 then ({ tm:=[0,1,4,5,6,7,8,35,36,37],ob:=[4,6,35],fin:=some ([0,1,4,5,6,8],[4,6]) }:Hint) else { tm:=[],ob:=[] }
theorem H90_7:H90 7=({ tm:=[0,1,4,5,6,7,8,35,36,37],ob:=[4,6,35],fin:=some ([0,1,4,5,6,8],[4,6]) }:Hint):=by simp[H90]
theorem run90 (before:List (List XFact)) (reached:List Bool) (alive:List Int) (q:Int) (hp:XW ops ints strs rels before reached alive∧0≤q∧q.toNat < ops.length) :∃ r,wk r (eOut (copiesF ops ints strs rels before reached q))∧∀ A,acall (env 75 148726944978424041459 D90 [(37,c60),(68,c116),(64,c112)] [] A) (H90) (5) f51 [(wv ops ints strs rels before reached alive),.int .i64 q]=some r:=by
 obtain⟨hw,h0,hlt⟩:=hp;have hlt':q < (ops.length:Int):=by omega
 have hrl:=hw.rl;have hc2:((2:Nat):Int)=2:=rfl;have hw1:IntKind.i64.wrap 1=1:=by decide
 have hw2:IntKind.i64.wrap 2=2:=by decide
 have hbl:=hw.bl;have hget:=getD_get (d:=op0) hlt;have hrg:=getD_get (d:=false) (show q.toNat < reached.length by omega);have hop:=hw.op _ hlt;simp only[copiesF];generalize ops.getD q.toNat op0=x at *;obtain⟨⟨ha0,ha8⟩,⟨hb0,hb8⟩,-⟩:=hop;have h8:=hw.b8 _ hlt;have hgb:=getD_get (d:=([]:List XFact)) (show q.toNat < before.length by omega);have hga:(before.getD q.toNat [])[x.a.toNat]? = some (factAt before q x.a):=getD_get (by omega);have hgb2:(before.getD q.toNat [])[x.b.toNat]? = some (factAt before q x.b):=getD_get (by omega);generalize before.getD q.toNat []=bs at hgb h8 hga hgb2;have ha8:x.a < (8:Int):=by omega
 have hb8:x.b < (8:Int):=by omega
 have e60:=c60_eq x.op 0 1 2 0;have e1:=c116_eq (usesF x.op 1 2) 1 (by unfold usesF;split <;> split <;> simp);have e2:=c116_eq (usesF x.op 1 2) 2 (by unfold usesF;split <;> split <;> simp);generalize usesF x.op 1 2=us at *;generalize factAt before q x.a=fa at *;generalize factAt before q x.b=fb at *;generalize reached.getD q.toNat false=rg at *;have e112:=fun a b=>c112_eq ops ints strs rels before reached alive q x.op x.d a b x.n ⟨hw.lim,h0,hlt⟩
 cases rg
 ·simp only[BL];apply wkI
  ·intro A;simp only[acall,macall,f51];simp only[go_sem,D90_10,hc2,hw1,hw2,hget,hrg,h0,hlt',e60,hbl,hgb,hga,hgb2,ha0,ha8,hb0,hb8,e1,e2,e112,H90_7,eFacts,eFact,hrl];rfl
  ·simp[WK,eOut,eCode]
 simp only[BL];cases hr1:(us.any fun x=>1==x)
 ·rw[hr1] at e1;simp only[BL];cases hr2:(us.any fun x=>2==x)
  ·rw[hr2] at e2;simp only[BL];apply wkI
   ·intro A;simp only[acall,macall,f51];simp only[go_sem,D90_10,hc2,hw1,hw2,hget,hrg,h0,hlt',e60,hbl,hgb,hga,hgb2,ha0,ha8,hb0,hb8,e1,e2,e112,H90_7,eFacts,eFact,hrl];rw[aloop.eq_def];simp only[go_sem,D90_10,H90_7,hc2,hw1,hw2,hget,hrg,h0,hlt',e60,hbl,hgb,hga,hgb2,ha0,ha8,hb0,hb8,e1,e2,e112,H90_7,eFacts,eFact,hrl];rw[aloop.eq_def];simp only[go_sem,D90_10,H90_7,hc2,hw1,hw2,hget,hrg,h0,hlt',e60,hbl,hgb,hga,hgb2,ha0,ha8,hb0,hb8,e1,e2,e112,H90_7,eFacts,eFact,hrl];rw[aloop.eq_def];simp only[go_sem,D90_10,H90_7,hc2,hw1,hw2,hget,hrg,h0,hlt',e60,hbl,hgb,hga,hgb2,ha0,ha8,hb0,hb8,e1,e2,e112,H90_7,eFacts,eFact,hrl];simp only[post,St.fin,keepL,aget];simp only[go_sem,D90_10,hc2,hw1,hw2,hget,hrg,h0,hlt',e60,hbl,hgb,hga,hgb2,ha0,ha8,hb0,hb8,e1,e2,e112,H90_7,eFacts,eFact,hrl];rfl
   ·simp[WK,eOut,eCode]
  ·rw[hr2] at e2;cases hs2:(fb.sort==2)
   ·simp only[BL];apply wkI
    ·intro A;simp only[acall,macall,f51];simp only[go_sem,D90_10,hs2,hc2,hw1,hw2,hget,hrg,h0,hlt',e60,hbl,hgb,hga,hgb2,ha0,ha8,hb0,hb8,e1,e2,e112,H90_7,eFacts,eFact,hrl];rw[aloop.eq_def];simp only[go_sem,D90_10,H90_7,hs2,hc2,hw1,hw2,hget,hrg,h0,hlt',e60,hbl,hgb,hga,hgb2,ha0,ha8,hb0,hb8,e1,e2,e112,H90_7,eFacts,eFact,hrl];rw[aloop.eq_def];simp only[go_sem,D90_10,H90_7,hs2,hc2,hw1,hw2,hget,hrg,h0,hlt',e60,hbl,hgb,hga,hgb2,ha0,ha8,hb0,hb8,e1,e2,e112,H90_7,eFacts,eFact,hrl];rw[aloop.eq_def];simp only[go_sem,D90_10,H90_7,hs2,hc2,hw1,hw2,hget,hrg,h0,hlt',e60,hbl,hgb,hga,hgb2,ha0,ha8,hb0,hb8,e1,e2,e112,H90_7,eFacts,eFact,hrl];simp only[post,St.fin,keepL,aget];simp only[go_sem,D90_10,hs2,hc2,hw1,hw2,hget,hrg,h0,hlt',e60,hbl,hgb,hga,hgb2,ha0,ha8,hb0,hb8,e1,e2,e112,H90_7,eFacts,eFact,hrl];rfl
    ·simp[WK,eOut,eCode]
   ·simp only[BL];apply wkI
    ·intro A;simp only[acall,macall,f51];simp only[go_sem,D90_10,hs2,hc2,hw1,hw2,hget,hrg,h0,hlt',e60,hbl,hgb,hga,hgb2,ha0,ha8,hb0,hb8,e1,e2,e112,H90_7,eFacts,eFact,hrl];rw[aloop.eq_def];simp only[go_sem,D90_10,H90_7,hs2,hc2,hw1,hw2,hget,hrg,h0,hlt',e60,hbl,hgb,hga,hgb2,ha0,ha8,hb0,hb8,e1,e2,e112,H90_7,eFacts,eFact,hrl];rw[aloop.eq_def];simp only[go_sem,D90_10,H90_7,hs2,hc2,hw1,hw2,hget,hrg,h0,hlt',e60,hbl,hgb,hga,hgb2,ha0,ha8,hb0,hb8,e1,e2,e112,H90_7,eFacts,eFact,hrl];rw[aloop.eq_def];simp only[go_sem,D90_10,H90_7,hs2,hc2,hw1,hw2,hget,hrg,h0,hlt',e60,hbl,hgb,hga,hgb2,ha0,ha8,hb0,hb8,e1,e2,e112,H90_7,eFacts,eFact,hrl];simp only[post,St.fin,keepL,aget];simp only[go_sem,D90_10,hs2,hc2,hw1,hw2,hget,hrg,h0,hlt',e60,hbl,hgb,hga,hgb2,ha0,ha8,hb0,hb8,e1,e2,e112,H90_7,eFacts,eFact,hrl];rfl
    ·simp[WK,eOut,eCode]
 ·rw[hr1] at e1;cases hs1:(fa.sort==2)
  ·simp only[BL];cases hr2:(us.any fun x=>2==x)
   ·rw[hr2] at e2;simp only[BL];apply wkI
    ·intro A;simp only[acall,macall,f51];simp only[go_sem,D90_10,hs1,hc2,hw1,hw2,hget,hrg,h0,hlt',e60,hbl,hgb,hga,hgb2,ha0,ha8,hb0,hb8,e1,e2,e112,H90_7,eFacts,eFact,hrl];rw[aloop.eq_def];simp only[go_sem,D90_10,H90_7,hs1,hc2,hw1,hw2,hget,hrg,h0,hlt',e60,hbl,hgb,hga,hgb2,ha0,ha8,hb0,hb8,e1,e2,e112,H90_7,eFacts,eFact,hrl];rw[aloop.eq_def];simp only[go_sem,D90_10,H90_7,hs1,hc2,hw1,hw2,hget,hrg,h0,hlt',e60,hbl,hgb,hga,hgb2,ha0,ha8,hb0,hb8,e1,e2,e112,H90_7,eFacts,eFact,hrl];rw[aloop.eq_def];simp only[go_sem,D90_10,H90_7,hs1,hc2,hw1,hw2,hget,hrg,h0,hlt',e60,hbl,hgb,hga,hgb2,ha0,ha8,hb0,hb8,e1,e2,e112,H90_7,eFacts,eFact,hrl];simp only[post,St.fin,keepL,aget];simp only[go_sem,D90_10,hs1,hc2,hw1,hw2,hget,hrg,h0,hlt',e60,hbl,hgb,hga,hgb2,ha0,ha8,hb0,hb8,e1,e2,e112,H90_7,eFacts,eFact,hrl];rfl
    ·simp[WK,eOut,eCode]
   ·rw[hr2] at e2;cases hs2:(fb.sort==2)
    ·simp only[BL];apply wkI
     ·intro A;simp only[acall,macall,f51];simp only[go_sem,D90_10,hs1,hs2,hc2,hw1,hw2,hget,hrg,h0,hlt',e60,hbl,hgb,hga,hgb2,ha0,ha8,hb0,hb8,e1,e2,e112,H90_7,eFacts,eFact,hrl];rw[aloop.eq_def];simp only[go_sem,D90_10,H90_7,hs1,hs2,hc2,hw1,hw2,hget,hrg,h0,hlt',e60,hbl,hgb,hga,hgb2,ha0,ha8,hb0,hb8,e1,e2,e112,H90_7,eFacts,eFact,hrl];rw[aloop.eq_def];simp only[go_sem,D90_10,H90_7,hs1,hs2,hc2,hw1,hw2,hget,hrg,h0,hlt',e60,hbl,hgb,hga,hgb2,ha0,ha8,hb0,hb8,e1,e2,e112,H90_7,eFacts,eFact,hrl];rw[aloop.eq_def];simp only[go_sem,D90_10,H90_7,hs1,hs2,hc2,hw1,hw2,hget,hrg,h0,hlt',e60,hbl,hgb,hga,hgb2,ha0,ha8,hb0,hb8,e1,e2,e112,H90_7,eFacts,eFact,hrl];simp only[post,St.fin,keepL,aget];simp only[go_sem,D90_10,hs1,hs2,hc2,hw1,hw2,hget,hrg,h0,hlt',e60,hbl,hgb,hga,hgb2,ha0,ha8,hb0,hb8,e1,e2,e112,H90_7,eFacts,eFact,hrl];rfl
     ·simp[WK,eOut,eCode]
    ·simp only[BL];apply wkI
     ·intro A;simp only[acall,macall,f51];simp only[go_sem,D90_10,hs1,hs2,hc2,hw1,hw2,hget,hrg,h0,hlt',e60,hbl,hgb,hga,hgb2,ha0,ha8,hb0,hb8,e1,e2,e112,H90_7,eFacts,eFact,hrl];rw[aloop.eq_def];simp only[go_sem,D90_10,H90_7,hs1,hs2,hc2,hw1,hw2,hget,hrg,h0,hlt',e60,hbl,hgb,hga,hgb2,ha0,ha8,hb0,hb8,e1,e2,e112,H90_7,eFacts,eFact,hrl];rw[aloop.eq_def];simp only[go_sem,D90_10,H90_7,hs1,hs2,hc2,hw1,hw2,hget,hrg,h0,hlt',e60,hbl,hgb,hga,hgb2,ha0,ha8,hb0,hb8,e1,e2,e112,H90_7,eFacts,eFact,hrl];rw[aloop.eq_def];simp only[go_sem,D90_10,H90_7,hs1,hs2,hc2,hw1,hw2,hget,hrg,h0,hlt',e60,hbl,hgb,hga,hgb2,ha0,ha8,hb0,hb8,e1,e2,e112,H90_7,eFacts,eFact,hrl];simp only[post,St.fin,keepL,aget];simp only[go_sem,D90_10,hs1,hs2,hc2,hw1,hw2,hget,hrg,h0,hlt',e60,hbl,hgb,hga,hgb2,ha0,ha8,hb0,hb8,e1,e2,e112,H90_7,eFacts,eFact,hrl];rfl
     ·simp[WK,eOut,eCode]
  ·simp only[BL];cases hr2:(us.any fun x=>2==x)
   ·rw[hr2] at e2;simp only[BL];apply wkI
    ·intro A;simp only[acall,macall,f51];simp only[go_sem,D90_10,hs1,hc2,hw1,hw2,hget,hrg,h0,hlt',e60,hbl,hgb,hga,hgb2,ha0,ha8,hb0,hb8,e1,e2,e112,H90_7,eFacts,eFact,hrl];rw[aloop.eq_def];simp only[go_sem,D90_10,H90_7,hs1,hc2,hw1,hw2,hget,hrg,h0,hlt',e60,hbl,hgb,hga,hgb2,ha0,ha8,hb0,hb8,e1,e2,e112,H90_7,eFacts,eFact,hrl];rw[aloop.eq_def];simp only[go_sem,D90_10,H90_7,hs1,hc2,hw1,hw2,hget,hrg,h0,hlt',e60,hbl,hgb,hga,hgb2,ha0,ha8,hb0,hb8,e1,e2,e112,H90_7,eFacts,eFact,hrl];rw[aloop.eq_def];simp only[go_sem,D90_10,H90_7,hs1,hc2,hw1,hw2,hget,hrg,h0,hlt',e60,hbl,hgb,hga,hgb2,ha0,ha8,hb0,hb8,e1,e2,e112,H90_7,eFacts,eFact,hrl];simp only[post,St.fin,keepL,aget];simp only[go_sem,D90_10,hs1,hc2,hw1,hw2,hget,hrg,h0,hlt',e60,hbl,hgb,hga,hgb2,ha0,ha8,hb0,hb8,e1,e2,e112,H90_7,eFacts,eFact,hrl];rfl
    ·simp[WK,eOut,eCode]
   ·rw[hr2] at e2;cases hs2:(fb.sort==2)
    ·simp only[BL];apply wkI
     ·intro A;simp only[acall,macall,f51];simp only[go_sem,D90_10,hs1,hs2,hc2,hw1,hw2,hget,hrg,h0,hlt',e60,hbl,hgb,hga,hgb2,ha0,ha8,hb0,hb8,e1,e2,e112,H90_7,eFacts,eFact,hrl];rw[aloop.eq_def];simp only[go_sem,D90_10,H90_7,hs1,hs2,hc2,hw1,hw2,hget,hrg,h0,hlt',e60,hbl,hgb,hga,hgb2,ha0,ha8,hb0,hb8,e1,e2,e112,H90_7,eFacts,eFact,hrl];rw[aloop.eq_def];simp only[go_sem,D90_10,H90_7,hs1,hs2,hc2,hw1,hw2,hget,hrg,h0,hlt',e60,hbl,hgb,hga,hgb2,ha0,ha8,hb0,hb8,e1,e2,e112,H90_7,eFacts,eFact,hrl];rw[aloop.eq_def];simp only[go_sem,D90_10,H90_7,hs1,hs2,hc2,hw1,hw2,hget,hrg,h0,hlt',e60,hbl,hgb,hga,hgb2,ha0,ha8,hb0,hb8,e1,e2,e112,H90_7,eFacts,eFact,hrl];simp only[post,St.fin,keepL,aget];simp only[go_sem,D90_10,hs1,hs2,hc2,hw1,hw2,hget,hrg,h0,hlt',e60,hbl,hgb,hga,hgb2,ha0,ha8,hb0,hb8,e1,e2,e112,H90_7,eFacts,eFact,hrl];rfl
     ·simp[WK,eOut,eCode]
    ·simp only[BL];apply wkI
     ·intro A;simp only[acall,macall,f51];simp only[go_sem,D90_10,hs1,hs2,hc2,hw1,hw2,hget,hrg,h0,hlt',e60,hbl,hgb,hga,hgb2,ha0,ha8,hb0,hb8,e1,e2,e112,H90_7,eFacts,eFact,hrl];rw[aloop.eq_def];simp only[go_sem,D90_10,H90_7,hs1,hs2,hc2,hw1,hw2,hget,hrg,h0,hlt',e60,hbl,hgb,hga,hgb2,ha0,ha8,hb0,hb8,e1,e2,e112,H90_7,eFacts,eFact,hrl];rw[aloop.eq_def];simp only[go_sem,D90_10,H90_7,hs1,hs2,hc2,hw1,hw2,hget,hrg,h0,hlt',e60,hbl,hgb,hga,hgb2,ha0,ha8,hb0,hb8,e1,e2,e112,H90_7,eFacts,eFact,hrl];rw[aloop.eq_def];simp only[go_sem,D90_10,H90_7,hs1,hs2,hc2,hw1,hw2,hget,hrg,h0,hlt',e60,hbl,hgb,hga,hgb2,ha0,ha8,hb0,hb8,e1,e2,e112,H90_7,eFacts,eFact,hrl];simp only[post,St.fin,keepL,aget];simp only[go_sem,D90_10,hs1,hs2,hc2,hw1,hw2,hget,hrg,h0,hlt',e60,hbl,hgb,hga,hgb2,ha0,ha8,hb0,hb8,e1,e2,e112,H90_7,eFacts,eFact,hrl];rfl
     ·simp[WK,eOut,eCode]
noncomputable def c90:=famP (α:=(List XOp) × (List Int) × (List ByteArray) × (List XRel) × (List (List XFact)) × (List Bool) × (List Int) × Int) (fun (ops,ints,strs,rels,before,reached,alive,q)=>XW ops ints strs rels before reached alive∧0≤q∧q.toNat < ops.length) (fun (ops,ints,strs,rels,before,reached,alive,q)=>[(wv ops ints strs rels before reached alive),.int .i64 q]) (fun (ops,ints,strs,rels,before,reached,alive,q)=>eOut (copiesF ops ints strs rels before reached q))
theorem c90_eq (before:List (List XFact)) (reached:List Bool) (alive:List Int) (q:Int) (hp:XW ops ints strs rels before reached alive∧0≤q∧q.toNat < ops.length):c90 [(wv ops ints strs rels before reached alive),.int .i64 q]=some (eOut (copiesF ops ints strs rels before reached q)):=fam_eq (fun X Y hp hp' h'=>by
 obtain⟨ops,ints,strs,rels,before,reached,alive,q⟩:=X;obtain⟨ops',ints',strs',rels',before',reached',alive',q'⟩:=Y;simp only[INJ] at h';obtain⟨rfl,rfl,rfl,rfl,rfl,rfl,rfl,rfl⟩:=h';rfl) (ops,ints,strs,rels,before,reached,alive,q) hp
theorem snd90:Snd 51 c90:=fam_snd h90 rfl rfl fun (ops,ints,strs,rels,before,reached,alive,q) hp=>let ⟨_,hw,hr⟩:=run90 ops ints strs rels before reached alive q hp;(rc h90 hr (fun i=>match i with | 10=>[0,1,3,7,0,0,32,96,31,511,1023,0,4095] | _=>[]) rfl rfl rfl (by kernel_rfl) ⟨snd60,snd116,snd112,trivial⟩ trivial).weak hw
end Go.Proofs.Tryd
end
