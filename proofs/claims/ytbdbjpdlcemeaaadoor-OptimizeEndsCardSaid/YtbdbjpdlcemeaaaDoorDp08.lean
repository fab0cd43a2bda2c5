/- Part of the proof of one statement of this seat: an abstract machine for the program, its contracts, and the statement (no condition of our own). -/
import Derived.Test.YtbdbjpdlcemeaaaDoorDp05
set_option linter.unusedSimpArgs false
set_option linter.unusedVariables false
section
set_option maxHeartbeats 4000000
set_option maxRecDepth 20000
namespace Go.Proofs.Tryd
open Go Go.Abs
variable (ops : List XOp) (ints : List Int) (strs : List ByteArray) (rels : List XRel)
theorem litAll7 {α:Type} (x:α):litAll x 7=[x,x,x,x,x,x,x]:=rfl
def callF (is:Bool) (a v o:Int) (l:List Int):Bool:=is&&(a==v&&l.any fun x=>o==x)
theorem h119:Tryd.prog.funcs[72]? = some f72:=by kernel_rfl
theorem run119 (v:Int) (xs:List Int) (is:Bool) (a o d y b n:Int) (hp:xs.length≤100000) (A:Nat→Prop):acall (env 20 159 D0 [(65,c113)] [] A) hN (5) f72 [.int .i64 v,.sl 3 gF (xs.map eI),.ro false 4 (.bool is),.ro false 2 (.int .i64 a),.ro false 36 (.st 36 [.int .i64 o,.int .i64 d,.int .i64 y,.int .i64 b,.int .i64 n])]=some (.bool (callF is a v o xs)):=by
 have e113:=c113_eq xs o hp;unfold callF;cases is
 ·have ha:=trivial;simp only[BL];simp only[acall,macall,f72];simp only[go_sem,e113,ha];try rfl
 cases ha:(a==v)
 ·simp only[BL];simp only[acall,macall,f72];simp only[go_sem,e113,ha];try rfl
 ·simp only[BL];simp only[acall,macall,f72];simp only[go_sem,e113,ha];try rfl
noncomputable def c119:=famP (α:=Int × (List Int) × Bool × Int × Int × Int × Int × Int × Int) (fun (v,xs,is,a,o,d,y,b,n)=>xs.length≤100000) (fun (v,xs,is,a,o,d,y,b,n)=>[.int .i64 v,.sl 3 gF (xs.map eI),.ro false 4 (.bool is),.ro false 2 (.int .i64 a),.ro false 36 (.st 36 [.int .i64 o,.int .i64 d,.int .i64 y,.int .i64 b,.int .i64 n])]) (fun (v,xs,is,a,o,d,y,b,n)=> .bool (callF is a v o xs))
theorem c119_eq (v:Int) (xs:List Int) (is:Bool) (a o d y b n:Int) (hp:xs.length≤100000):c119 [.int .i64 v,.sl 3 gF (xs.map eI),.ro false 4 (.bool is),.ro false 2 (.int .i64 a),.ro false 36 (.st 36 [.int .i64 o,.int .i64 d,.int .i64 y,.int .i64 b,.int .i64 n])]=some (.bool (callF is a v o xs)):=fam_eq (fun X Y hp hp' h'=>by
 obtain⟨v,xs,is,a,o,d,y,b,n⟩:=X;obtain⟨v',xs',is',a',o',d',y',b',n'⟩:=Y;simp only[INJ] at h';obtain⟨rfl,rfl,rfl,rfl,rfl,rfl,rfl,rfl,rfl⟩:=h';rfl) (v,xs,is,a,o,d,y,b,n) hp
theorem snd119:Snd 72 c119:=fam_snd h119 rfl rfl fun (v,xs,is,a,o,d,y,b,n) hp=>rc h119 (fun A=>run119 v xs is a o d y b n hp A) (fun _=>[]) rfl rfl rfl (by kernel_rfl) ⟨snd113,trivial⟩ trivial
theorem h120:Tryd.prog.funcs[73]? = some f73:=by kernel_rfl
theorem run120 (v:Int) (xs:List Int) (is:Bool) (a o d y b n:Int) (hp:xs.length≤100000) (A:Nat→Prop):acall (env 20 159 D0 [(65,c113)] [] A) hN (5) f73 [.int .i64 v,.sl 3 gF (xs.map eI),.ro false 4 (.bool is),.ro false 2 (.int .i64 a),.ro false 36 (.st 36 [.int .i64 o,.int .i64 d,.int .i64 y,.int .i64 b,.int .i64 n])]=some (.bool (callF is a v o xs)):=by
 have e113:=c113_eq xs o hp;unfold callF;cases is
 ·have ha:=trivial;simp only[BL];simp only[acall,macall,f73];simp only[go_sem,e113,ha];try rfl
 cases ha:(a==v)
 ·simp only[BL];simp only[acall,macall,f73];simp only[go_sem,e113,ha];try rfl
 ·simp only[BL];simp only[acall,macall,f73];simp only[go_sem,e113,ha];try rfl
noncomputable def c120:=famP (α:=Int × (List Int) × Bool × Int × Int × Int × Int × Int × Int) (fun (v,xs,is,a,o,d,y,b,n)=>xs.length≤100000) (fun (v,xs,is,a,o,d,y,b,n)=>[.int .i64 v,.sl 3 gF (xs.map eI),.ro false 4 (.bool is),.ro false 2 (.int .i64 a),.ro false 36 (.st 36 [.int .i64 o,.int .i64 d,.int .i64 y,.int .i64 b,.int .i64 n])]) (fun (v,xs,is,a,o,d,y,b,n)=> .bool (callF is a v o xs))
theorem c120_eq (v:Int) (xs:List Int) (is:Bool) (a o d y b n:Int) (hp:xs.length≤100000):c120 [.int .i64 v,.sl 3 gF (xs.map eI),.ro false 4 (.bool is),.ro false 2 (.int .i64 a),.ro false 36 (.st 36 [.int .i64 o,.int .i64 d,.int .i64 y,.int .i64 b,.int .i64 n])]=some (.bool (callF is a v o xs)):=fam_eq (fun X Y hp hp' h'=>by
 obtain⟨v,xs,is,a,o,d,y,b,n⟩:=X;obtain⟨v',xs',is',a',o',d',y',b',n'⟩:=Y;simp only[INJ] at h';obtain⟨rfl,rfl,rfl,rfl,rfl,rfl,rfl,rfl,rfl⟩:=h';rfl) (v,xs,is,a,o,d,y,b,n) hp
theorem snd120:Snd 73 c120:=fam_snd h120 rfl rfl fun (v,xs,is,a,o,d,y,b,n) hp=>rc h120 (fun A=>run120 v xs is a o d y b n hp A) (fun _=>[]) rfl rfl rfl (by kernel_rfl) ⟨snd113,trivial⟩ trivial
def moveTo (ops:List XOp) (ints:List Int) (strs:List ByteArray) (rels:List XRel) (q d a:Int):Option XCode:=some ⟨ops.set q.toNat ⟨3,d,a,0,0⟩,ints,strs,rels⟩
def identF (ops:List XOp) (ints:List Int) (strs:List ByteArray) (rels:List XRel) (before:List (List XFact)) (reached:List Bool) (q:Int):Option XCode:=
 let o:=ops.getD q.toNat op0
 if reached.getD q.toNat false=true then
  if (decide (o.op < 4))=true then none else if (decide (16 < o.op))=true then none
  else
   let fa:=factAt before q o.a
   let fb:=factAt before q o.b
   let first:=callF (fa.sort==1) fa.n
   let second:=callF (fb.sort==1) fb.n
   if second 0 o.op [4,5,12,13,14,15,16]=true then moveTo ops ints strs rels q o.d o.a else if second 1 o.op [6,7,8]=true then moveTo ops ints strs rels q o.d o.a else if second (-1) o.op [11]=true then moveTo ops ints strs rels q o.d o.a
   else if first 0 o.op [4,12,13]=true then moveTo ops ints strs rels q o.d o.b else if first 1 o.op [6]=true then moveTo ops ints strs rels q o.d o.b else if first (-1) o.op [11]=true then moveTo ops ints strs rels q o.d o.b
   else if first 0 o.op [6,11]=true then puttingF ops ints strs rels q o.d 0 else if second 0 o.op [6,11]=true then puttingF ops ints strs rels q o.d 0 else if second 1 o.op [9,10]=true then puttingF ops ints strs rels q o.d 0
   else if (o.a==o.b)=true then (if ([5,13].any fun x=>o.op==x)=true then puttingF ops ints strs rels q o.d 0 else none) else none
 else none
theorem h95:Tryd.prog.funcs[56]? = some f56:=by kernel_rfl
theorem run95 (before:List (List XFact)) (reached:List Bool) (alive:List Int) (q:Int) (hp:XW ops ints strs rels before reached alive∧0≤q∧q.toNat < ops.length) :∃ r,wk r (eOut (identF ops ints strs rels before reached q))∧∀ A,acall (env 127 316912952288800484682499104755 D0 [(63,c47),(64,c112),(65,c113),(67,c115),(72,c119),(73,c120)] [] A) hN (5) f56 [(wv ops ints strs rels before reached alive),.int .i64 q]=some r:=by
 obtain⟨hw,h0,hlt⟩:=hp;have hlt':q < (ops.length:Int):=by omega
 have hrl:=hw.rl;have hget:=getD_get (d:=op0) hlt;have hrg:=getD_get (d:=false) (show q.toNat < reached.length by omega);have hop:=hw.op _ hlt;simp only[identF];generalize ops.getD q.toNat op0=x at *;obtain⟨⟨ha0,ha8⟩,⟨hb0,hb8⟩,-⟩:=hop;have ea:=c47_eq ops ints strs rels before reached alive q x.a ⟨by have:=hw.bl;omega,h0,ha0,by rw[hw.b8 _ hlt];exact ha8⟩;have eb:=c47_eq ops ints strs rels before reached alive q x.b ⟨by have:=hw.bl;omega,h0,hb0,by rw[hw.b8 _ hlt];exact hb8⟩;have eA:=c112_eq ops ints strs rels before reached alive q 3 x.d x.a 0 0 ⟨hw.lim,h0,hlt⟩;have eBv:=c112_eq ops ints strs rels before reached alive q 3 x.d x.b 0 0 ⟨hw.lim,h0,hlt⟩;have e115:=c115_eq ops ints strs rels before reached alive q x.d 0 ⟨hw.lim,⟨h0,hlt⟩,hw.i200,hw.rel⟩;have e113:=c113_eq [5,13] x.op (by decide);generalize factAt before q x.a=fa at *;generalize factAt before q x.b=fb at *
 generalize reached.getD q.toNat false=rg at *;generalize puttingF ops ints strs rels q x.d 0=pu at *;have es0:=c120_eq 0 [4,5,12,13,14,15,16] (fb.sort==1) fb.n x.op x.d x.a x.b x.n (by decide);have es1:=c120_eq 1 [6,7,8] (fb.sort==1) fb.n x.op x.d x.a x.b x.n (by decide);have esm:=c120_eq (-1) [11] (fb.sort==1) fb.n x.op x.d x.a x.b x.n (by decide);have ef0:=c119_eq 0 [4,12,13] (fa.sort==1) fa.n x.op x.d x.a x.b x.n (by decide);have ef1:=c119_eq 1 [6] (fa.sort==1) fa.n x.op x.d x.a x.b x.n (by decide);have efm:=c119_eq (-1) [11] (fa.sort==1) fa.n x.op x.d x.a x.b x.n (by decide);have eg0:=c119_eq 0 [6,11] (fa.sort==1) fa.n x.op x.d x.a x.b x.n (by decide);have et0:=c120_eq 0 [6,11] (fb.sort==1) fb.n x.op x.d x.a x.b x.n (by decide);have et1:=c120_eq 1 [9,10] (fb.sort==1) fb.n x.op x.d x.a x.b x.n (by decide);generalize callF (fb.sort==1) fb.n 0 x.op [4,5,12,13,14,15,16]=s0 at *
 generalize callF (fb.sort==1) fb.n 1 x.op [6,7,8]=s1 at *;generalize callF (fb.sort==1) fb.n (-1) x.op [11]=sm at *;generalize callF (fa.sort==1) fa.n 0 x.op [4,12,13]=f0 at *;generalize callF (fa.sort==1) fa.n 1 x.op [6]=f1 at *;generalize callF (fa.sort==1) fa.n (-1) x.op [11]=fm at *;generalize callF (fa.sort==1) fa.n 0 x.op [6,11]=g0 at *;generalize callF (fb.sort==1) fb.n 0 x.op [6,11]=t0 at *;generalize callF (fb.sort==1) fb.n 1 x.op [9,10]=t1 at *;simp only[List.map_cons,List.map_nil,eI] at es0 es1 esm ef0 ef1 efm eg0 et0 et1 e113;cases rg
 ·simp only[BL];apply wkI
  ·intro A;simp only[acall,macall,f56];simp only[go_sem,hget,hrg,h0,hlt',ea,eb,hrl,litAll7];rfl
  ·simp[WK,eOut,eCode]
 simp only[BL];cases h4:(decide (x.op < 4))
 rotate_left
 ·simp only[BL];apply wkI
  ·intro A;simp only[acall,macall,f56];simp only[go_sem,h4,hget,hrg,h0,hlt',ea,eb,hrl,litAll7];rfl
  ·simp[WK,eOut,eCode]
 cases h16:(decide (16 < x.op))
 rotate_left
 ·simp only[BL];apply wkI
  ·intro A;simp only[acall,macall,f56];simp only[go_sem,h4,h16,hget,hrg,h0,hlt',ea,eb,hrl,litAll7];rfl
  ·simp[WK,eOut,eCode]
 simp only[BL];cases s0;rotate_left
 ·simp only[BL];simp only[moveTo];apply wkI
  ·intro A;simp only[acall,macall,f56];simp only[go_sem,h4,h16,es0,hget,hrg,h0,hlt',ea,eb,hrl,litAll7,eA];rfl
  ·simp[WK,eOut,eCode]
 simp only[BL];cases s1;rotate_left
 ·simp only[BL];simp only[moveTo];apply wkI
  ·intro A;simp only[acall,macall,f56];simp only[go_sem,h4,h16,es0,es1,hget,hrg,h0,hlt',ea,eb,hrl,litAll7,eA];rfl
  ·simp[WK,eOut,eCode]
 simp only[BL];cases sm;rotate_left
 ·simp only[BL];simp only[moveTo];apply wkI
  ·intro A;simp only[acall,macall,f56];simp only[go_sem,h4,h16,es0,es1,esm,hget,hrg,h0,hlt',ea,eb,hrl,litAll7,eA];rfl
  ·simp[WK,eOut,eCode]
 simp only[BL];cases f0;rotate_left
 ·simp only[BL];simp only[moveTo];apply wkI
  ·intro A;simp only[acall,macall,f56];simp only[go_sem,h4,h16,es0,es1,esm,ef0,hget,hrg,h0,hlt',ea,eb,hrl,litAll7,eBv];rfl
  ·simp[WK,eOut,eCode]
 simp only[BL];cases f1;rotate_left
 ·simp only[BL];simp only[moveTo];apply wkI
  ·intro A;simp only[acall,macall,f56];simp only[go_sem,h4,h16,es0,es1,esm,ef0,ef1,hget,hrg,h0,hlt',ea,eb,hrl,litAll7,eBv];rfl
  ·simp[WK,eOut,eCode]
 simp only[BL];cases fm;rotate_left
 ·simp only[BL];simp only[moveTo];apply wkI
  ·intro A;simp only[acall,macall,f56];simp only[go_sem,h4,h16,es0,es1,esm,ef0,ef1,efm,hget,hrg,h0,hlt',ea,eb,hrl,litAll7,eBv];rfl
  ·simp[WK,eOut,eCode]
 simp only[BL];cases g0;rotate_left
 ·simp only[BL];cases pu;all_goals
   simp only[eOut,eCode] at e115;apply wkI
   ·intro A;simp only[acall,macall,f56];simp only[go_sem,h4,h16,es0,es1,esm,ef0,ef1,efm,eg0,hget,hrg,h0,hlt',ea,eb,hrl,litAll7,e115];rfl
   ·simp[WK,eOut,eCode]
 simp only[BL];cases t0;rotate_left
 ·simp only[BL];cases pu;all_goals
   simp only[eOut,eCode] at e115;apply wkI
   ·intro A;simp only[acall,macall,f56];simp only[go_sem,h4,h16,es0,es1,esm,ef0,ef1,efm,eg0,et0,hget,hrg,h0,hlt',ea,eb,hrl,litAll7,e115];rfl
   ·simp[WK,eOut,eCode]
 simp only[BL];cases t1;rotate_left
 ·simp only[BL];cases pu;all_goals
   simp only[eOut,eCode] at e115;apply wkI
   ·intro A;simp only[acall,macall,f56];simp only[go_sem,h4,h16,es0,es1,esm,ef0,ef1,efm,eg0,et0,et1,hget,hrg,h0,hlt',ea,eb,hrl,litAll7,e115];rfl
   ·simp[WK,eOut,eCode]
 simp only[BL];cases hab:(x.a==x.b)
 ·simp only[BL];apply wkI
  ·intro A;simp only[acall,macall,f56];simp only[go_sem,h4,h16,es0,es1,esm,ef0,ef1,efm,eg0,et0,et1,hab,hget,hrg,h0,hlt',ea,eb,hrl,litAll7];rfl
  ·simp[WK,eOut,eCode]
 cases h5:([5,13].any fun y=>x.op==y)
 ·rw[h5] at e113;simp only[BL];apply wkI
  ·intro A;simp only[acall,macall,f56];simp only[go_sem,h4,h16,es0,es1,esm,ef0,ef1,efm,eg0,et0,et1,hab,e113,hget,hrg,h0,hlt',ea,eb,hrl,litAll7];rfl
  ·simp[WK,eOut,eCode]
 ·rw[h5] at e113;simp only[BL];cases pu;all_goals
   simp only[eOut,eCode] at e115;apply wkI
   ·intro A;simp only[acall,macall,f56];simp only[go_sem,h4,h16,es0,es1,esm,ef0,ef1,efm,eg0,et0,et1,hab,e113,hget,hrg,h0,hlt',ea,eb,hrl,litAll7,e115];rfl
   ·simp[WK,eOut,eCode]
noncomputable def c95:=famP (α:=(List XOp) × (List Int) × (List ByteArray) × (List XRel) × (List (List XFact)) × (List Bool) × (List Int) × Int) (fun (ops,ints,strs,rels,before,reached,alive,q)=>XW ops ints strs rels before reached alive∧0≤q∧q.toNat < ops.length) (fun (ops,ints,strs,rels,before,reached,alive,q)=>[(wv ops ints strs rels before reached alive),.int .i64 q]) (fun (ops,ints,strs,rels,before,reached,alive,q)=>eOut (identF ops ints strs rels before reached q))
theorem c95_eq (before:List (List XFact)) (reached:List Bool) (alive:List Int) (q:Int) (hp:XW ops ints strs rels before reached alive∧0≤q∧q.toNat < ops.length):c95 [(wv ops ints strs rels before reached alive),.int .i64 q]=some (eOut (identF ops ints strs rels before reached q)):=fam_eq (fun X Y hp hp' h'=>by
 obtain⟨ops,ints,strs,rels,before,reached,alive,q⟩:=X;obtain⟨ops',ints',strs',rels',before',reached',alive',q'⟩:=Y;simp only[INJ] at h';obtain⟨rfl,rfl,rfl,rfl,rfl,rfl,rfl,rfl⟩:=h';rfl) (ops,ints,strs,rels,before,reached,alive,q) hp
theorem snd95:Snd 56 c95:=fam_snd h95 rfl rfl fun (ops,ints,strs,rels,before,reached,alive,q) hp=>let ⟨_,hw,hr⟩:=run95 ops ints strs rels before reached alive q hp;(rc h95 hr (fun _=>[]) rfl rfl rfl (by kernel_rfl) ⟨snd47,snd112,snd113,snd115,snd119,snd120,trivial⟩ trivial).weak hw
end Go.Proofs.Tryd
end
