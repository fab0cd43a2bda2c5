/- Part of the proof of one statement of this seat: an abstract machine for the program, its contracts, and the statement (no condition of our own). -/
import Derived.Test.YtbdbjpdlcemeaaaDoorDp11
import Derived.Test.YtbdbjpdlcemeaaaDoorDp13
set_option linter.unusedSimpArgs false
set_option linter.unusedVariables false
section
set_option maxHeartbeats 4000000
set_option maxRecDepth 20000
namespace Go.Proofs.Tryd
open Go Go.Abs
def resF (ops:List XOp) (ints:List Int) (rels:List XRel) (f:List XFact) (q:Int):XFact:=
 let o:=ops.getD q.toNat op0
 let a:=f.getD o.a.toNat ⟨0,0⟩
 let r:=rels.any fun r=>r.at_==q
 if (o.op==1)=true then (if r=true then ⟨0,0⟩ else ⟨1,ints.getD o.n.toNat 0⟩)
 else if (o.op==3)=true then ⟨(movedF a.sort a.n o.d o.a).1,(movedF a.sort a.n o.d o.a).2⟩
 else if (o.op==19)=true then ⟨3,o.n⟩ else if (o.op==27)=true then ⟨3,o.n⟩
 else if (o.op==26)=true then (if r=true then ⟨0,0⟩ else ⟨3,o.n⟩)
 else if (o.op==20)=true then ⟨3,8⟩ else if (o.op==21)=true then ⟨3,8⟩ else if (o.op==22)=true then ⟨3,8⟩
 else if (o.op==23)=true then ⟨3,-8⟩ else ⟨0,0⟩
theorem behind_r (ops:List XOp) (ints:List Int) (rels:List XRel) (f:List XFact) (q:Int) :
 behindF ops ints rels f q=if (formF (ops.getD q.toNat op0).op).d=true then (f.map (clrF (ops.getD q.toNat op0).d)).set (ops.getD q.toNat op0).d.toNat (resF ops ints rels f q) else f:=by
 unfold behindF resF;dsimp only;generalize ops.getD q.toNat op0=o;generalize f.getD o.a.toNat ⟨0,0⟩=a;generalize (rels.any fun r=>r.at_==q)=r;generalize f.map (clrF o.d)=f3;have ap:∀ (c:Prop) [Decidable c] (x y:XFact),f3.set o.d.toNat (if c then x else y)=if c then f3.set o.d.toNat x else f3.set o.d.toNat y:=fun c _ x y=>by split <;> rfl
 simp only[List.set_set,ap]
def movR (s n d a:Int):XFact:=if (s==1)=true then ⟨s,n⟩ else if (s==2)=true then (if (n==d)=true then ⟨0,0⟩ else ⟨s,n⟩) else if (a==d)=true then ⟨s,n⟩ else ⟨2,a⟩
theorem mov_r (s n d a:Int):(⟨(movedF s n d a).1,(movedF s n d a).2⟩:XFact)=movR s n d a:=by
 unfold movedF movR;simp only[beq_iff_eq];by_cases h1:s=1
 ·simp[h1]
 ·by_cases h2:s=2
  ·by_cases h3:n=d <;> simp[h2,h3]
  ·by_cases h3:a=d <;> simp[h1,h2,h3]
end Go.Proofs.Tryd
end
