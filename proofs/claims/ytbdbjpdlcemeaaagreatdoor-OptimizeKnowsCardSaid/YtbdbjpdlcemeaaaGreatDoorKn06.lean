/- Part of the proof of one statement of this seat: an abstract machine for the program, its contracts, and the statement (no condition of our own). -/
import Derived.Lib.Strings
import Derived.Lib.Slices
import Derived.Lib.Walk
import Derived.Lib.Bytealg
import Derived.Test.YtbdbjpdlcemeaaaGreatDoorKn05
set_option linter.unusedSimpArgs false
set_option linter.unusedVariables false
section
set_option maxHeartbeats 4000000
set_option maxRecDepth 20000
namespace Go.Proofs.Tryz
open Go Go.Abs
variable (ops : List XOp) (ints : List Int) (strs : List ByteArray) (rels : List XRel)
theorem litAll7 {α:Type} (x:α):litAll x 7=[x,x,x,x,x,x,x]:=rfl
def callF (is:Bool) (a v o:Int) (l:List Int):Bool:=is&&(a==v&&l.any fun x=>o==x)
theorem h119:Tryz.prog.funcs[119]? = some f119:=by kernel_rfl
theorem run119 (v:Int) (xs:List Int) (is:Bool) (a o d y b n:Int) (hp:xs.length≤100000) (A:Nat→Prop):acall (env 20 159 D0 [(113,c113)] [] A) (fun _=>{ tm:=[],ob:=[] }) (5) f119 [.int .i64 v,.sl 3 gF (xs.map eI),.ro false 4 (.bool is),.ro false 2 (.int .i64 a),.ro false 80 (.st 80 [.int .i64 o,.int .i64 d,.int .i64 y,.int .i64 b,.int .i64 n])]=some (.bool (callF is a v o xs)):=by
 have e113:=c113_eq xs o hp
 unfold callF
 cases is
 ·have ha:=trivial
  simp only[BL]
  simp only[acall,macall,f119]
  simp only[go_sem,simprocAttr,e113,ha]
  try rfl
 cases ha:(a==v)
 ·simp only[BL]
  simp only[acall,macall,f119]
  simp only[go_sem,simprocAttr,e113,ha]
  try rfl
 ·simp only[BL]
  simp only[acall,macall,f119]
  simp only[go_sem,simprocAttr,e113,ha]
  try rfl
noncomputable def c119:=famP (α:=Int × (List Int) × Bool × Int × Int × Int × Int × Int × Int) (fun (v,xs,is,a,o,d,y,b,n)=>xs.length≤100000) (fun (v,xs,is,a,o,d,y,b,n)=>[.int .i64 v,.sl 3 gF (xs.map eI),.ro false 4 (.bool is),.ro false 2 (.int .i64 a),.ro false 80 (.st 80 [.int .i64 o,.int .i64 d,.int .i64 y,.int .i64 b,.int .i64 n])]) (fun (v,xs,is,a,o,d,y,b,n)=> .bool (callF is a v o xs))
theorem c119_eq (v:Int) (xs:List Int) (is:Bool) (a o d y b n:Int) (hp:xs.length≤100000):c119 [.int .i64 v,.sl 3 gF (xs.map eI),.ro false 4 (.bool is),.ro false 2 (.int .i64 a),.ro false 80 (.st 80 [.int .i64 o,.int .i64 d,.int .i64 y,.int .i64 b,.int .i64 n])]=some (.bool (callF is a v o xs)):=fam_eq (fun X Y hp hp' h'=>by
 obtain⟨v,xs,is,a,o,d,y,b,n⟩:=X;obtain⟨v',xs',is',a',o',d',y',b',n'⟩:=Y;simp only[INJ] at h'
 obtain⟨rfl,rfl,rfl,rfl,rfl,rfl,rfl,rfl,rfl⟩:=h'
 rfl) (v,xs,is,a,o,d,y,b,n) hp
theorem snd119:Snd 119 c119:=fam_snd h119 rfl rfl fun (v,xs,is,a,o,d,y,b,n) hp=>rc h119 (fun A=>run119 v xs is a o d y b n hp A) (fun _=>[]) rfl rfl rfl (by kernel_rfl) ⟨snd113,trivial⟩ trivial
theorem h120:Tryz.prog.funcs[120]? = some f120:=by kernel_rfl
theorem run120 (v:Int) (xs:List Int) (is:Bool) (a o d y b n:Int) (hp:xs.length≤100000) (A:Nat→Prop):acall (env 20 159 D0 [(113,c113)] [] A) (fun _=>{ tm:=[],ob:=[] }) (5) f120 [.int .i64 v,.sl 3 gF (xs.map eI),.ro false 4 (.bool is),.ro false 2 (.int .i64 a),.ro false 80 (.st 80 [.int .i64 o,.int .i64 d,.int .i64 y,.int .i64 b,.int .i64 n])]=some (.bool (callF is a v o xs)):=by
 have e113:=c113_eq xs o hp
 unfold callF
 cases is
 ·have ha:=trivial
  simp only[BL]
  simp only[acall,macall,f120]
  simp only[go_sem,simprocAttr,e113,ha]
  try rfl
 cases ha:(a==v)
 ·simp only[BL]
  simp only[acall,macall,f120]
  simp only[go_sem,simprocAttr,e113,ha]
  try rfl
 ·simp only[BL]
  simp only[acall,macall,f120]
  simp only[go_sem,simprocAttr,e113,ha]
  try rfl
noncomputable def c120:=famP (α:=Int × (List Int) × Bool × Int × Int × Int × Int × Int × Int) (fun (v,xs,is,a,o,d,y,b,n)=>xs.length≤100000) (fun (v,xs,is,a,o,d,y,b,n)=>[.int .i64 v,.sl 3 gF (xs.map eI),.ro false 4 (.bool is),.ro false 2 (.int .i64 a),.ro false 80 (.st 80 [.int .i64 o,.int .i64 d,.int .i64 y,.int .i64 b,.int .i64 n])]) (fun (v,xs,is,a,o,d,y,b,n)=> .bool (callF is a v o xs))
theorem c120_eq (v:Int) (xs:List Int) (is:Bool) (a o d y b n:Int) (hp:xs.length≤100000):c120 [.int .i64 v,.sl 3 gF (xs.map eI),.ro false 4 (.bool is),.ro false 2 (.int .i64 a),.ro false 80 (.st 80 [.int .i64 o,.int .i64 d,.int .i64 y,.int .i64 b,.int .i64 n])]=some (.bool (callF is a v o xs)):=fam_eq (fun X Y hp hp' h'=>by
 obtain⟨v,xs,is,a,o,d,y,b,n⟩:=X;obtain⟨v',xs',is',a',o',d',y',b',n'⟩:=Y;simp only[INJ] at h'
 obtain⟨rfl,rfl,rfl,rfl,rfl,rfl,rfl,rfl,rfl⟩:=h'
 rfl) (v,xs,is,a,o,d,y,b,n) hp
theorem snd120:Snd 120 c120:=fam_snd h120 rfl rfl fun (v,xs,is,a,o,d,y,b,n) hp=>rc h120 (fun A=>run120 v xs is a o d y b n hp A) (fun _=>[]) rfl rfl rfl (by kernel_rfl) ⟨snd113,trivial⟩ trivial
def moveTo (ops:List XOp) (ints:List Int) (strs:List ByteArray) (rels:List XRel) (q d a:Int):Option XCode:=some ⟨ops.set q.toNat ⟨3,d,a,0,0⟩,ints,strs,rels⟩
def identF (ops:List XOp) (ints:List Int) (strs:List ByteArray) (rels:List XRel) (before:List (List XFact)) (reached:List Bool) (q:Int):Option XCode:=
 let o:=ops.getD q.toNat op0
 if reached.getD q.toNat false=true then
  if (decide (o.op < 4))=true then none else if (decide (16 < o.op))=true then none
  else
   let fa:=factAt before q o.a
   let fb:=factAt before q o.b
   let first:=callF (fa.sort==1) fa.n
   let second:=callF (fb.sort==1) fb.n
   if second 0 o.op [4,5,12,13,14,15,16]=true then moveTo ops ints strs rels q o.d o.a else if second 1 o.op [6,7,8]=true then moveTo ops ints strs rels q o.d o.a else if second (-1) o.op [11]=true then moveTo ops ints strs rels q o.d o.a
   else if first 0 o.op [4,12,13]=true then moveTo ops ints strs rels q o.d o.b else if first 1 o.op [6]=true then moveTo ops ints strs rels q o.d o.b else if first (-1) o.op [11]=true then moveTo ops ints strs rels q o.d o.b
   else if first 0 o.op [6,11]=true then puttingF ops ints strs rels q o.d 0 else if second 0 o.op [6,11]=true then puttingF ops ints strs rels q o.d 0 else if second 1 o.op [9,10]=true then puttingF ops ints strs rels q o.d 0
   else if (o.a==o.b)=true then (if ([5,13].any fun x=>o.op==x)=true then puttingF ops ints strs rels q o.d 0 else none) else none
 else none
theorem h95:Tryz.prog.funcs[95]? = some f95:=by kernel_rfl
theorem run95 (before:List (List XFact)) (reached:List Bool) (alive:List Int) (q:Int) (hp:XW ops ints strs rels before reached alive∧0≤q∧q.toNat < ops.length) :∃ r,wk r (eOut (identF ops ints strs rels before reached q))∧∀ A,acall (env 127 316912952288800484682499104755 D0 [(47,c47),(112,c112),(113,c113),(115,c115),(119,c119),(120,c120)] [] A) (fun _=>{ tm:=[],ob:=[] }) (5) f95 [.ro false 106 (.st 106 [(cd ops ints strs rels),.sl 119 gT (before.map eFacts),.sl 4 gT (reached.map eB),.sl 109 gT (alive.map eU)]),.int .i64 q]=some r:=by
 obtain⟨hw,h0,hlt⟩:=hp
 have hlt':q < (ops.length:Int):=by omega
 have hrl:=hw.rl
 have hget:=getD_get (d:=op0) hlt
 have hrg:=getD_get (d:=false) (show q.toNat < reached.length by omega)
 have hop:=hw.op _ hlt
 simp only[identF]
 generalize ops.getD q.toNat op0=x at *
 obtain⟨⟨ha0,ha8⟩,⟨hb0,hb8⟩,-⟩:=hop
 have ea:=c47_eq ops ints strs rels before reached alive q x.a ⟨by have:=hw.bl;omega,h0,ha0,by rw[hw.b8 _ hlt];exact ha8⟩
 have eb:=c47_eq ops ints strs rels before reached alive q x.b ⟨by have:=hw.bl;omega,h0,hb0,by rw[hw.b8 _ hlt];exact hb8⟩
 have eA:=c112_eq ops ints strs rels before reached alive q 3 x.d x.a 0 0 ⟨hw.lim,h0,hlt⟩
 have eBv:=c112_eq ops ints strs rels before reached alive q 3 x.d x.b 0 0 ⟨hw.lim,h0,hlt⟩
 have e115:=c115_eq ops ints strs rels before reached alive q x.d 0 ⟨hw.lim,⟨h0,hlt⟩,hw.i200,hw.rel⟩
 have e113:=c113_eq [5,13] x.op (by decide)
 generalize factAt before q x.a=fa at *
 generalize factAt before q x.b=fb at *
 generalize reached.getD q.toNat false=rg at *
 generalize puttingF ops ints strs rels q x.d 0=pu at *
 have es0:=c120_eq 0 [4,5,12,13,14,15,16] (fb.sort==1) fb.n x.op x.d x.a x.b x.n (by decide)
 have es1:=c120_eq 1 [6,7,8] (fb.sort==1) fb.n x.op x.d x.a x.b x.n (by decide)
 have esm:=c120_eq (-1) [11] (fb.sort==1) fb.n x.op x.d x.a x.b x.n (by decide)
 have ef0:=c119_eq 0 [4,12,13] (fa.sort==1) fa.n x.op x.d x.a x.b x.n (by decide)
 have ef1:=c119_eq 1 [6] (fa.sort==1) fa.n x.op x.d x.a x.b x.n (by decide)
 have efm:=c119_eq (-1) [11] (fa.sort==1) fa.n x.op x.d x.a x.b x.n (by decide)
 have eg0:=c119_eq 0 [6,11] (fa.sort==1) fa.n x.op x.d x.a x.b x.n (by decide)
 have et0:=c120_eq 0 [6,11] (fb.sort==1) fb.n x.op x.d x.a x.b x.n (by decide)
 have et1:=c120_eq 1 [9,10] (fb.sort==1) fb.n x.op x.d x.a x.b x.n (by decide)
 generalize callF (fb.sort==1) fb.n 0 x.op [4,5,12,13,14,15,16]=s0 at *
 generalize callF (fb.sort==1) fb.n 1 x.op [6,7,8]=s1 at *
 generalize callF (fb.sort==1) fb.n (-1) x.op [11]=sm at *
 generalize callF (fa.sort==1) fa.n 0 x.op [4,12,13]=f0 at *
 generalize callF (fa.sort==1) fa.n 1 x.op [6]=f1 at *
 generalize callF (fa.sort==1) fa.n (-1) x.op [11]=fm at *
 generalize callF (fa.sort==1) fa.n 0 x.op [6,11]=g0 at *
 generalize callF (fb.sort==1) fb.n 0 x.op [6,11]=t0 at *
 generalize callF (fb.sort==1) fb.n 1 x.op [9,10]=t1 at *
 simp only[List.map_cons,List.map_nil,eI] at es0 es1 esm ef0 ef1 efm eg0 et0 et1 e113
 cases rg
 ·simp only[BL]
  apply wkI
  ·intro A
   simp only[acall,macall,f95]
   simp only[go_sem,simprocAttr,hget,hrg,h0,hlt',ea,eb,hrl,litAll7]
   rfl
  ·simp[WK,eOut,eCode]
 simp only[BL]
 cases h4:(decide (x.op < 4))
 rotate_left
 ·simp only[BL]
  apply wkI
  ·intro A
   simp only[acall,macall,f95]
   simp only[go_sem,simprocAttr,h4,hget,hrg,h0,hlt',ea,eb,hrl,litAll7]
   rfl
  ·simp[WK,eOut,eCode]
 cases h16:(decide (16 < x.op))
 rotate_left
 ·simp only[BL]
  apply wkI
  ·intro A
   simp only[acall,macall,f95]
   simp only[go_sem,simprocAttr,h4,h16,hget,hrg,h0,hlt',ea,eb,hrl,litAll7]
   rfl
  ·simp[WK,eOut,eCode]
 simp only[BL]
 cases s0
 rotate_left
 ·simp only[BL]
  simp only[moveTo]
  apply wkI
  ·intro A
   simp only[acall,macall,f95]
   simp only[go_sem,simprocAttr,h4,h16,es0,hget,hrg,h0,hlt',ea,eb,hrl,litAll7,eA]
   rfl
  ·simp[WK,eOut,eCode]
 simp only[BL]
 cases s1
 rotate_left
 ·simp only[BL]
  simp only[moveTo]
  apply wkI
  ·intro A
   simp only[acall,macall,f95]
   simp only[go_sem,simprocAttr,h4,h16,es0,es1,hget,hrg,h0,hlt',ea,eb,hrl,litAll7,eA]
   rfl
  ·simp[WK,eOut,eCode]
 simp only[BL]
 cases sm
 rotate_left
 ·simp only[BL]
  simp only[moveTo]
  apply wkI
  ·intro A
   simp only[acall,macall,f95]
   simp only[go_sem,simprocAttr,h4,h16,es0,es1,esm,hget,hrg,h0,hlt',ea,eb,hrl,litAll7,eA]
   rfl
  ·simp[WK,eOut,eCode]
 simp only[BL]
 cases f0
 rotate_left
 ·simp only[BL]
  simp only[moveTo]
  apply wkI
  ·intro A
   simp only[acall,macall,f95]
   simp only[go_sem,simprocAttr,h4,h16,es0,es1,esm,ef0,hget,hrg,h0,hlt',ea,eb,hrl,litAll7,eBv]
   rfl
  ·simp[WK,eOut,eCode]
 simp only[BL]
 cases f1
 rotate_left
 ·simp only[BL]
  simp only[moveTo]
  apply wkI
  ·intro A
   simp only[acall,macall,f95]
   simp only[go_sem,simprocAttr,h4,h16,es0,es1,esm,ef0,ef1,hget,hrg,h0,hlt',ea,eb,hrl,litAll7,eBv]
   rfl
  ·simp[WK,eOut,eCode]
 simp only[BL]
 cases fm
 rotate_left
 ·simp only[BL]
  simp only[moveTo]
  apply wkI
  ·intro A
   simp only[acall,macall,f95]
   simp only[go_sem,simprocAttr,h4,h16,es0,es1,esm,ef0,ef1,efm,hget,hrg,h0,hlt',ea,eb,hrl,litAll7,eBv]
   rfl
  ·simp[WK,eOut,eCode]
 simp only[BL]
 cases g0
 rotate_left
 ·simp only[BL]
  cases pu
  all_goals
   simp only[eOut,eCode] at e115
   apply wkI
   ·intro A
    simp only[acall,macall,f95]
    simp only[go_sem,simprocAttr,h4,h16,es0,es1,esm,ef0,ef1,efm,eg0,hget,hrg,h0,hlt',ea,eb,hrl,litAll7,e115]
    rfl
   ·simp[WK,eOut,eCode]
 simp only[BL]
 cases t0
 rotate_left
 ·simp only[BL]
  cases pu
  all_goals
   simp only[eOut,eCode] at e115
   apply wkI
   ·intro A
    simp only[acall,macall,f95]
    simp only[go_sem,simprocAttr,h4,h16,es0,es1,esm,ef0,ef1,efm,eg0,et0,hget,hrg,h0,hlt',ea,eb,hrl,litAll7,e115]
    rfl
   ·simp[WK,eOut,eCode]
 simp only[BL]
 cases t1
 rotate_left
 ·simp only[BL]
  cases pu
  all_goals
   simp only[eOut,eCode] at e115
   apply wkI
   ·intro A
    simp only[acall,macall,f95]
    simp only[go_sem,simprocAttr,h4,h16,es0,es1,esm,ef0,ef1,efm,eg0,et0,et1,hget,hrg,h0,hlt',ea,eb,hrl,litAll7,e115]
    rfl
   ·simp[WK,eOut,eCode]
 simp only[BL]
 cases hab:(x.a==x.b)
 ·simp only[BL]
  apply wkI
  ·intro A
   simp only[acall,macall,f95]
   simp only[go_sem,simprocAttr,h4,h16,es0,es1,esm,ef0,ef1,efm,eg0,et0,et1,hab,hget,hrg,h0,hlt',ea,eb,hrl,litAll7]
   rfl
  ·simp[WK,eOut,eCode]
 cases h5:([5,13].any fun y=>x.op==y)
 ·rw[h5] at e113
  simp only[BL]
  apply wkI
  ·intro A
   simp only[acall,macall,f95]
   simp only[go_sem,simprocAttr,h4,h16,es0,es1,esm,ef0,ef1,efm,eg0,et0,et1,hab,e113,hget,hrg,h0,hlt',ea,eb,hrl,litAll7]
   rfl
  ·simp[WK,eOut,eCode]
 ·rw[h5] at e113
  simp only[BL]
  cases pu
  all_goals
   simp only[eOut,eCode] at e115
   apply wkI
   ·intro A
    simp only[acall,macall,f95]
    simp only[go_sem,simprocAttr,h4,h16,es0,es1,esm,ef0,ef1,efm,eg0,et0,et1,hab,e113,hget,hrg,h0,hlt',ea,eb,hrl,litAll7,e115]
    rfl
   ·simp[WK,eOut,eCode]
noncomputable def c95:=famP (α:=(List XOp) × (List Int) × (List ByteArray) × (List XRel) × (List (List XFact)) × (List Bool) × (List Int) × Int) (fun (ops,ints,strs,rels,before,reached,alive,q)=>XW ops ints strs rels before reached alive∧0≤q∧q.toNat < ops.length) (fun (ops,ints,strs,rels,before,reached,alive,q)=>[.ro false 106 (.st 106 [(cd ops ints strs rels),.sl 119 gT (before.map eFacts),.sl 4 gT (reached.map eB),.sl 109 gT (alive.map eU)]),.int .i64 q]) (fun (ops,ints,strs,rels,before,reached,alive,q)=>eOut (identF ops ints strs rels before reached q))
theorem c95_eq (before:List (List XFact)) (reached:List Bool) (alive:List Int) (q:Int) (hp:XW ops ints strs rels before reached alive∧0≤q∧q.toNat < ops.length):c95 [.ro false 106 (.st 106 [(cd ops ints strs rels),.sl 119 gT (before.map eFacts),.sl 4 gT (reached.map eB),.sl 109 gT (alive.map eU)]),.int .i64 q]=some (eOut (identF ops ints strs rels before reached q)):=fam_eq (fun X Y hp hp' h'=>by
 obtain⟨ops,ints,strs,rels,before,reached,alive,q⟩:=X;obtain⟨ops',ints',strs',rels',before',reached',alive',q'⟩:=Y;simp only[INJ] at h'
 obtain⟨rfl,rfl,rfl,rfl,rfl,rfl,rfl,rfl⟩:=h'
 rfl) (ops,ints,strs,rels,before,reached,alive,q) hp
theorem snd95:Snd 95 c95:=fam_snd h95 rfl rfl fun (ops,ints,strs,rels,before,reached,alive,q) hp=>let ⟨_,hw,hr⟩:=run95 ops ints strs rels before reached alive q hp;(rc h95 hr (fun _=>[]) rfl rfl rfl (by kernel_rfl) ⟨snd47,snd112,snd113,snd115,snd119,snd120,trivial⟩ trivial).weak hw
def copiesF (ops:List XOp) (ints:List Int) (strs:List ByteArray) (rels:List XRel) (before:List (List XFact)) (reached:List Bool) (q:Int):Option XCode:=
 let o:=ops.getD q.toNat op0
 if reached.getD q.toNat false=true then
  let fa:=factAt before q o.a
  let fb:=factAt before q o.b
  let ca:=((usesF o.op 1 2).any fun x=>1==x)&&fa.sort==2
  let cb:=((usesF o.op 1 2).any fun x=>2==x)&&fb.sort==2
  if (ca || cb)=true then some ⟨ops.set q.toNat ⟨o.op,o.d,if ca=true then fa.n else o.a,if cb=true then fb.n else o.b,o.n⟩,ints,strs,rels⟩ else none
 else none
theorem h90:Tryz.prog.funcs[90]? = some f90:=by kernel_rfl
def D90:Nat→Option (List DH × List Nat):=fun i=>match i with | 10=>some ([⟨[11],[],[11]⟩,⟨[11],[],[11]⟩,⟨[11],[],[11]⟩,⟨[11],[],[11]⟩,⟨[11],[],[11]⟩,⟨[11],[],[11]⟩,⟨[11],[],[11]⟩,⟨[11],[],[11]⟩,⟨[11],[],[11]⟩,⟨[11],[],[11]⟩,⟨[11],[],[11]⟩,⟨[],[11],[]⟩,⟨[],[],[]⟩],[11]) | _=>none
theorem D90_10:D90 10=some ([⟨[11],[],[11]⟩,⟨[11],[],[11]⟩,⟨[11],[],[11]⟩,⟨[11],[],[11]⟩,⟨[11],[],[11]⟩,⟨[11],[],[11]⟩,⟨[11],[],[11]⟩,⟨[11],[],[11]⟩,⟨[11],[],[11]⟩,⟨[11],[],[11]⟩,⟨[11],[],[11]⟩,⟨[],[11],[]⟩,⟨[],[],[]⟩],[11]):=rfl
def H90:Nat→Hint:=fun i=>if i=7 then ({ tm:=[0,1,4,5,6,7,8,35,36,37],ob:=[4,6,35],fin:=some ([0,1,4,5,6,8],[4,6]) }:Hint) else { tm:=[],ob:=[] }
theorem H90_7:H90 7=({ tm:=[0,1,4,5,6,7,8,35,36,37],ob:=[4,6,35],fin:=some ([0,1,4,5,6,8],[4,6]) }:Hint):=by simp[H90]
theorem run90 (before:List (List XFact)) (reached:List Bool) (alive:List Int) (q:Int) (hp:XW ops ints strs rels before reached alive∧0≤q∧q.toNat < ops.length) :∃ r,wk r (eOut (copiesF ops ints strs rels before reached q))∧∀ A,acall (env 75 148726944978424041459 D90 [(60,c60),(116,c116),(112,c112)] [] A) (H90) (5) f90 [.ro false 106 (.st 106 [(cd ops ints strs rels),.sl 119 gT (before.map eFacts),.sl 4 gT (reached.map eB),.sl 109 gT (alive.map eU)]),.int .i64 q]=some r:=by
 obtain⟨hw,h0,hlt⟩:=hp
 have hlt':q < (ops.length:Int):=by omega
 have hrl:=hw.rl
 have hc2:((2:Nat):Int)=2:=rfl
 have hw1:IntKind.i64.wrap 1=1:=by decide
 have hw2:IntKind.i64.wrap 2=2:=by decide
 have hbl:=hw.bl
 have hget:=getD_get (d:=op0) hlt
 have hrg:=getD_get (d:=false) (show q.toNat < reached.length by omega)
 have hop:=hw.op _ hlt
 simp only[copiesF]
 generalize ops.getD q.toNat op0=x at *
 obtain⟨⟨ha0,ha8⟩,⟨hb0,hb8⟩,-⟩:=hop
 have h8:=hw.b8 _ hlt
 have hgb:=getD_get (d:=([]:List XFact)) (show q.toNat < before.length by omega)
 have hga:(before.getD q.toNat [])[x.a.toNat]? = some (factAt before q x.a):=getD_get (by omega)
 have hgb2:(before.getD q.toNat [])[x.b.toNat]? = some (factAt before q x.b):=getD_get (by omega)
 generalize before.getD q.toNat []=bs at hgb h8 hga hgb2
 have ha8:x.a < (8:Int):=by omega
 have hb8:x.b < (8:Int):=by omega
 have e60:=c60_eq x.op 0 1 2 0
 have e1:=c116_eq (usesF x.op 1 2) 1 (by unfold usesF;split <;> split <;> simp)
 have e2:=c116_eq (usesF x.op 1 2) 2 (by unfold usesF;split <;> split <;> simp)
 generalize usesF x.op 1 2=us at *
 generalize factAt before q x.a=fa at *
 generalize factAt before q x.b=fb at *
 generalize reached.getD q.toNat false=rg at *
 have e112:=fun a b=>c112_eq ops ints strs rels before reached alive q x.op x.d a b x.n ⟨hw.lim,h0,hlt⟩
 cases rg
 ·simp only[BL]
  apply wkI
  ·intro A
   simp only[acall,macall,f90]
   simp only[go_sem,simprocAttr,D90_10,hc2,hw1,hw2,hget,hrg,h0,hlt',e60,hbl,hgb,hga,hgb2,ha0,ha8,hb0,hb8,e1,e2,e112,H90_7,eFacts,eFact,hrl]
   rfl
  ·simp[WK,eOut,eCode]
 simp only[BL]
 cases hr1:(us.any fun x=>1==x)
 ·rw[hr1] at e1
  simp only[BL]
  cases hr2:(us.any fun x=>2==x)
  ·rw[hr2] at e2
   simp only[BL]
   apply wkI
   ·intro A
    simp only[acall,macall,f90]
    simp only[go_sem,simprocAttr,D90_10,hc2,hw1,hw2,hget,hrg,h0,hlt',e60,hbl,hgb,hga,hgb2,ha0,ha8,hb0,hb8,e1,e2,e112,H90_7,eFacts,eFact,hrl]
    rw[aloop.eq_def]
    simp only[go_sem,simprocAttr,D90_10,H90_7,hc2,hw1,hw2,hget,hrg,h0,hlt',e60,hbl,hgb,hga,hgb2,ha0,ha8,hb0,hb8,e1,e2,e112,H90_7,eFacts,eFact,hrl]
    rw[aloop.eq_def]
    simp only[go_sem,simprocAttr,D90_10,H90_7,hc2,hw1,hw2,hget,hrg,h0,hlt',e60,hbl,hgb,hga,hgb2,ha0,ha8,hb0,hb8,e1,e2,e112,H90_7,eFacts,eFact,hrl]
    rw[aloop.eq_def]
    simp only[go_sem,simprocAttr,D90_10,H90_7,hc2,hw1,hw2,hget,hrg,h0,hlt',e60,hbl,hgb,hga,hgb2,ha0,ha8,hb0,hb8,e1,e2,e112,H90_7,eFacts,eFact,hrl]
    simp only[post,St.fin,keepL,aget]
    simp only[go_sem,simprocAttr,D90_10,hc2,hw1,hw2,hget,hrg,h0,hlt',e60,hbl,hgb,hga,hgb2,ha0,ha8,hb0,hb8,e1,e2,e112,H90_7,eFacts,eFact,hrl]
    rfl
   ·simp[WK,eOut,eCode]
  ·rw[hr2] at e2
   cases hs2:(fb.sort==2)
   ·simp only[BL]
    apply wkI
    ·intro A
     simp only[acall,macall,f90]
     simp only[go_sem,simprocAttr,D90_10,hs2,hc2,hw1,hw2,hget,hrg,h0,hlt',e60,hbl,hgb,hga,hgb2,ha0,ha8,hb0,hb8,e1,e2,e112,H90_7,eFacts,eFact,hrl]
     rw[aloop.eq_def]
     simp only[go_sem,simprocAttr,D90_10,H90_7,hs2,hc2,hw1,hw2,hget,hrg,h0,hlt',e60,hbl,hgb,hga,hgb2,ha0,ha8,hb0,hb8,e1,e2,e112,H90_7,eFacts,eFact,hrl]
     rw[aloop.eq_def]
     simp only[go_sem,simprocAttr,D90_10,H90_7,hs2,hc2,hw1,hw2,hget,hrg,h0,hlt',e60,hbl,hgb,hga,hgb2,ha0,ha8,hb0,hb8,e1,e2,e112,H90_7,eFacts,eFact,hrl]
     rw[aloop.eq_def]
     simp only[go_sem,simprocAttr,D90_10,H90_7,hs2,hc2,hw1,hw2,hget,hrg,h0,hlt',e60,hbl,hgb,hga,hgb2,ha0,ha8,hb0,hb8,e1,e2,e112,H90_7,eFacts,eFact,hrl]
     simp only[post,St.fin,keepL,aget]
     simp only[go_sem,simprocAttr,D90_10,hs2,hc2,hw1,hw2,hget,hrg,h0,hlt',e60,hbl,hgb,hga,hgb2,ha0,ha8,hb0,hb8,e1,e2,e112,H90_7,eFacts,eFact,hrl]
     rfl
    ·simp[WK,eOut,eCode]
   ·simp only[BL]
    apply wkI
    ·intro A
     simp only[acall,macall,f90]
     simp only[go_sem,simprocAttr,D90_10,hs2,hc2,hw1,hw2,hget,hrg,h0,hlt',e60,hbl,hgb,hga,hgb2,ha0,ha8,hb0,hb8,e1,e2,e112,H90_7,eFacts,eFact,hrl]
     rw[aloop.eq_def]
     simp only[go_sem,simprocAttr,D90_10,H90_7,hs2,hc2,hw1,hw2,hget,hrg,h0,hlt',e60,hbl,hgb,hga,hgb2,ha0,ha8,hb0,hb8,e1,e2,e112,H90_7,eFacts,eFact,hrl]
     rw[aloop.eq_def]
     simp only[go_sem,simprocAttr,D90_10,H90_7,hs2,hc2,hw1,hw2,hget,hrg,h0,hlt',e60,hbl,hgb,hga,hgb2,ha0,ha8,hb0,hb8,e1,e2,e112,H90_7,eFacts,eFact,hrl]
     rw[aloop.eq_def]
     simp only[go_sem,simprocAttr,D90_10,H90_7,hs2,hc2,hw1,hw2,hget,hrg,h0,hlt',e60,hbl,hgb,hga,hgb2,ha0,ha8,hb0,hb8,e1,e2,e112,H90_7,eFacts,eFact,hrl]
     simp only[post,St.fin,keepL,aget]
     simp only[go_sem,simprocAttr,D90_10,hs2,hc2,hw1,hw2,hget,hrg,h0,hlt',e60,hbl,hgb,hga,hgb2,ha0,ha8,hb0,hb8,e1,e2,e112,H90_7,eFacts,eFact,hrl]
     rfl
    ·simp[WK,eOut,eCode]
 ·rw[hr1] at e1
  cases hs1:(fa.sort==2)
  ·simp only[BL]
   cases hr2:(us.any fun x=>2==x)
   ·rw[hr2] at e2
    simp only[BL]
    apply wkI
    ·intro A
     simp only[acall,macall,f90]
     simp only[go_sem,simprocAttr,D90_10,hs1,hc2,hw1,hw2,hget,hrg,h0,hlt',e60,hbl,hgb,hga,hgb2,ha0,ha8,hb0,hb8,e1,e2,e112,H90_7,eFacts,eFact,hrl]
     rw[aloop.eq_def]
     simp only[go_sem,simprocAttr,D90_10,H90_7,hs1,hc2,hw1,hw2,hget,hrg,h0,hlt',e60,hbl,hgb,hga,hgb2,ha0,ha8,hb0,hb8,e1,e2,e112,H90_7,eFacts,eFact,hrl]
     rw[aloop.eq_def]
     simp only[go_sem,simprocAttr,D90_10,H90_7,hs1,hc2,hw1,hw2,hget,hrg,h0,hlt',e60,hbl,hgb,hga,hgb2,ha0,ha8,hb0,hb8,e1,e2,e112,H90_7,eFacts,eFact,hrl]
     rw[aloop.eq_def]
     simp only[go_sem,simprocAttr,D90_10,H90_7,hs1,hc2,hw1,hw2,hget,hrg,h0,hlt',e60,hbl,hgb,hga,hgb2,ha0,ha8,hb0,hb8,e1,e2,e112,H90_7,eFacts,eFact,hrl]
     simp only[post,St.fin,keepL,aget]
     simp only[go_sem,simprocAttr,D90_10,hs1,hc2,hw1,hw2,hget,hrg,h0,hlt',e60,hbl,hgb,hga,hgb2,ha0,ha8,hb0,hb8,e1,e2,e112,H90_7,eFacts,eFact,hrl]
     rfl
    ·simp[WK,eOut,eCode]
   ·rw[hr2] at e2
    cases hs2:(fb.sort==2)
    ·simp only[BL]
     apply wkI
     ·intro A
      simp only[acall,macall,f90]
      simp only[go_sem,simprocAttr,D90_10,hs1,hs2,hc2,hw1,hw2,hget,hrg,h0,hlt',e60,hbl,hgb,hga,hgb2,ha0,ha8,hb0,hb8,e1,e2,e112,H90_7,eFacts,eFact,hrl]
      rw[aloop.eq_def]
      simp only[go_sem,simprocAttr,D90_10,H90_7,hs1,hs2,hc2,hw1,hw2,hget,hrg,h0,hlt',e60,hbl,hgb,hga,hgb2,ha0,ha8,hb0,hb8,e1,e2,e112,H90_7,eFacts,eFact,hrl]
      rw[aloop.eq_def]
      simp only[go_sem,simprocAttr,D90_10,H90_7,hs1,hs2,hc2,hw1,hw2,hget,hrg,h0,hlt',e60,hbl,hgb,hga,hgb2,ha0,ha8,hb0,hb8,e1,e2,e112,H90_7,eFacts,eFact,hrl]
      rw[aloop.eq_def]
      simp only[go_sem,simprocAttr,D90_10,H90_7,hs1,hs2,hc2,hw1,hw2,hget,hrg,h0,hlt',e60,hbl,hgb,hga,hgb2,ha0,ha8,hb0,hb8,e1,e2,e112,H90_7,eFacts,eFact,hrl]
      simp only[post,St.fin,keepL,aget]
      simp only[go_sem,simprocAttr,D90_10,hs1,hs2,hc2,hw1,hw2,hget,hrg,h0,hlt',e60,hbl,hgb,hga,hgb2,ha0,ha8,hb0,hb8,e1,e2,e112,H90_7,eFacts,eFact,hrl]
      rfl
     ·simp[WK,eOut,eCode]
    ·simp only[BL]
     apply wkI
     ·intro A
      simp only[acall,macall,f90]
      simp only[go_sem,simprocAttr,D90_10,hs1,hs2,hc2,hw1,hw2,hget,hrg,h0,hlt',e60,hbl,hgb,hga,hgb2,ha0,ha8,hb0,hb8,e1,e2,e112,H90_7,eFacts,eFact,hrl]
      rw[aloop.eq_def]
      simp only[go_sem,simprocAttr,D90_10,H90_7,hs1,hs2,hc2,hw1,hw2,hget,hrg,h0,hlt',e60,hbl,hgb,hga,hgb2,ha0,ha8,hb0,hb8,e1,e2,e112,H90_7,eFacts,eFact,hrl]
      rw[aloop.eq_def]
      simp only[go_sem,simprocAttr,D90_10,H90_7,hs1,hs2,hc2,hw1,hw2,hget,hrg,h0,hlt',e60,hbl,hgb,hga,hgb2,ha0,ha8,hb0,hb8,e1,e2,e112,H90_7,eFacts,eFact,hrl]
      rw[aloop.eq_def]
      simp only[go_sem,simprocAttr,D90_10,H90_7,hs1,hs2,hc2,hw1,hw2,hget,hrg,h0,hlt',e60,hbl,hgb,hga,hgb2,ha0,ha8,hb0,hb8,e1,e2,e112,H90_7,eFacts,eFact,hrl]
      simp only[post,St.fin,keepL,aget]
      simp only[go_sem,simprocAttr,D90_10,hs1,hs2,hc2,hw1,hw2,hget,hrg,h0,hlt',e60,hbl,hgb,hga,hgb2,ha0,ha8,hb0,hb8,e1,e2,e112,H90_7,eFacts,eFact,hrl]
      rfl
     ·simp[WK,eOut,eCode]
  ·simp only[BL]
   cases hr2:(us.any fun x=>2==x)
   ·rw[hr2] at e2
    simp only[BL]
    apply wkI
    ·intro A
     simp only[acall,macall,f90]
     simp only[go_sem,simprocAttr,D90_10,hs1,hc2,hw1,hw2,hget,hrg,h0,hlt',e60,hbl,hgb,hga,hgb2,ha0,ha8,hb0,hb8,e1,e2,e112,H90_7,eFacts,eFact,hrl]
     rw[aloop.eq_def]
     simp only[go_sem,simprocAttr,D90_10,H90_7,hs1,hc2,hw1,hw2,hget,hrg,h0,hlt',e60,hbl,hgb,hga,hgb2,ha0,ha8,hb0,hb8,e1,e2,e112,H90_7,eFacts,eFact,hrl]
     rw[aloop.eq_def]
     simp only[go_sem,simprocAttr,D90_10,H90_7,hs1,hc2,hw1,hw2,hget,hrg,h0,hlt',e60,hbl,hgb,hga,hgb2,ha0,ha8,hb0,hb8,e1,e2,e112,H90_7,eFacts,eFact,hrl]
     rw[aloop.eq_def]
     simp only[go_sem,simprocAttr,D90_10,H90_7,hs1,hc2,hw1,hw2,hget,hrg,h0,hlt',e60,hbl,hgb,hga,hgb2,ha0,ha8,hb0,hb8,e1,e2,e112,H90_7,eFacts,eFact,hrl]
     simp only[post,St.fin,keepL,aget]
     simp only[go_sem,simprocAttr,D90_10,hs1,hc2,hw1,hw2,hget,hrg,h0,hlt',e60,hbl,hgb,hga,hgb2,ha0,ha8,hb0,hb8,e1,e2,e112,H90_7,eFacts,eFact,hrl]
     rfl
    ·simp[WK,eOut,eCode]
   ·rw[hr2] at e2
    cases hs2:(fb.sort==2)
    ·simp only[BL]
     apply wkI
     ·intro A
      simp only[acall,macall,f90]
      simp only[go_sem,simprocAttr,D90_10,hs1,hs2,hc2,hw1,hw2,hget,hrg,h0,hlt',e60,hbl,hgb,hga,hgb2,ha0,ha8,hb0,hb8,e1,e2,e112,H90_7,eFacts,eFact,hrl]
      rw[aloop.eq_def]
      simp only[go_sem,simprocAttr,D90_10,H90_7,hs1,hs2,hc2,hw1,hw2,hget,hrg,h0,hlt',e60,hbl,hgb,hga,hgb2,ha0,ha8,hb0,hb8,e1,e2,e112,H90_7,eFacts,eFact,hrl]
      rw[aloop.eq_def]
      simp only[go_sem,simprocAttr,D90_10,H90_7,hs1,hs2,hc2,hw1,hw2,hget,hrg,h0,hlt',e60,hbl,hgb,hga,hgb2,ha0,ha8,hb0,hb8,e1,e2,e112,H90_7,eFacts,eFact,hrl]
      rw[aloop.eq_def]
      simp only[go_sem,simprocAttr,D90_10,H90_7,hs1,hs2,hc2,hw1,hw2,hget,hrg,h0,hlt',e60,hbl,hgb,hga,hgb2,ha0,ha8,hb0,hb8,e1,e2,e112,H90_7,eFacts,eFact,hrl]
      simp only[post,St.fin,keepL,aget]
      simp only[go_sem,simprocAttr,D90_10,hs1,hs2,hc2,hw1,hw2,hget,hrg,h0,hlt',e60,hbl,hgb,hga,hgb2,ha0,ha8,hb0,hb8,e1,e2,e112,H90_7,eFacts,eFact,hrl]
      rfl
     ·simp[WK,eOut,eCode]
    ·simp only[BL]
     apply wkI
     ·intro A
      simp only[acall,macall,f90]
      simp only[go_sem,simprocAttr,D90_10,hs1,hs2,hc2,hw1,hw2,hget,hrg,h0,hlt',e60,hbl,hgb,hga,hgb2,ha0,ha8,hb0,hb8,e1,e2,e112,H90_7,eFacts,eFact,hrl]
      rw[aloop.eq_def]
      simp only[go_sem,simprocAttr,D90_10,H90_7,hs1,hs2,hc2,hw1,hw2,hget,hrg,h0,hlt',e60,hbl,hgb,hga,hgb2,ha0,ha8,hb0,hb8,e1,e2,e112,H90_7,eFacts,eFact,hrl]
      rw[aloop.eq_def]
      simp only[go_sem,simprocAttr,D90_10,H90_7,hs1,hs2,hc2,hw1,hw2,hget,hrg,h0,hlt',e60,hbl,hgb,hga,hgb2,ha0,ha8,hb0,hb8,e1,e2,e112,H90_7,eFacts,eFact,hrl]
      rw[aloop.eq_def]
      simp only[go_sem,simprocAttr,D90_10,H90_7,hs1,hs2,hc2,hw1,hw2,hget,hrg,h0,hlt',e60,hbl,hgb,hga,hgb2,ha0,ha8,hb0,hb8,e1,e2,e112,H90_7,eFacts,eFact,hrl]
      simp only[post,St.fin,keepL,aget]
      simp only[go_sem,simprocAttr,D90_10,hs1,hs2,hc2,hw1,hw2,hget,hrg,h0,hlt',e60,hbl,hgb,hga,hgb2,ha0,ha8,hb0,hb8,e1,e2,e112,H90_7,eFacts,eFact,hrl]
      rfl
     ·simp[WK,eOut,eCode]
noncomputable def c90:=famP (α:=(List XOp) × (List Int) × (List ByteArray) × (List XRel) × (List (List XFact)) × (List Bool) × (List Int) × Int) (fun (ops,ints,strs,rels,before,reached,alive,q)=>XW ops ints strs rels before reached alive∧0≤q∧q.toNat < ops.length) (fun (ops,ints,strs,rels,before,reached,alive,q)=>[.ro false 106 (.st 106 [(cd ops ints strs rels),.sl 119 gT (before.map eFacts),.sl 4 gT (reached.map eB),.sl 109 gT (alive.map eU)]),.int .i64 q]) (fun (ops,ints,strs,rels,before,reached,alive,q)=>eOut (copiesF ops ints strs rels before reached q))
theorem c90_eq (before:List (List XFact)) (reached:List Bool) (alive:List Int) (q:Int) (hp:XW ops ints strs rels before reached alive∧0≤q∧q.toNat < ops.length):c90 [.ro false 106 (.st 106 [(cd ops ints strs rels),.sl 119 gT (before.map eFacts),.sl 4 gT (reached.map eB),.sl 109 gT (alive.map eU)]),.int .i64 q]=some (eOut (copiesF ops ints strs rels before reached q)):=fam_eq (fun X Y hp hp' h'=>by
 obtain⟨ops,ints,strs,rels,before,reached,alive,q⟩:=X;obtain⟨ops',ints',strs',rels',before',reached',alive',q'⟩:=Y;simp only[INJ] at h'
 obtain⟨rfl,rfl,rfl,rfl,rfl,rfl,rfl,rfl⟩:=h'
 rfl) (ops,ints,strs,rels,before,reached,alive,q) hp
theorem snd90:Snd 90 c90:=fam_snd h90 rfl rfl fun (ops,ints,strs,rels,before,reached,alive,q) hp=>let ⟨_,hw,hr⟩:=run90 ops ints strs rels before reached alive q hp;(rc h90 hr (fun i=>match i with | 10=>[0,1,3,7,0,0,32,96,31,511,1023,0,4095] | _=>[]) rfl rfl rfl (by kernel_rfl) ⟨snd60,snd116,snd112,trivial⟩ trivial).weak hw
theorem firstF_skip (p:Nat→Bool):∀ (n s m:Nat),(∀ j,s≤j→j < s+n→p j=false)→n≤m→firstF p s m=firstF p (s+n) (m - n)
 | 0,s,m,_,_=>rfl
 | n+1,s,m,h,hm=>by
   obtain⟨m',rfl⟩:∃ m',m=m'+1:=⟨m - 1,by omega⟩
   rw[firstF,if_neg (by rw[h s (Nat.le_refl _) (by omega)];simp),firstF_skip p n (s+1) m' (fun j h1 h2=>h j (by omega) (by omega)) (by omega)]
   rw[show s+1+n=s+(n+1) by omega,show m'+1 - (n+1)=m' - n by omega]
theorem firstF_here {p:Nat→Bool} {s m:Nat} (h:p s=true) (hm:0 < m):firstF p s m=s:=by
 obtain⟨m',rfl⟩:∃ m',m=m'+1:=⟨m - 1,by omega⟩
 rw[firstF,if_pos h]
theorem idxAt_spec {α:Type} (p:α→Bool):∀ (l:List α) (i:Nat),(idxAt p l i = -1∧∀ (j:Nat) (x:α),l[j]? = some x→p x=false)∨
 ∃ k,k < l.length∧idxAt p l i=((i+k:Nat):Int)∧(∀ (j:Nat) (x:α),j < k→l[j]? = some x→p x=false)∧∃ x,l[k]? = some x∧p x=true
 | [],i=> .inl ⟨rfl,by simp⟩
 | y::r,i=>by
   unfold idxAt
   cases hy:p y
   ·simp only[BL]
    rcases idxAt_spec p r (i+1) with ⟨h1,h2⟩ | ⟨k,h1,h2,h3,h4⟩
    ·refine .inl ⟨h1,fun j x hx=>?_⟩
     cases j with
     | zero=>simp at hx;subst hx;exact hy
     | succ j=>exact h2 j x (by simpa using hx)
    ·refine .inr ⟨k+1,by simp;omega,by rw[h2];congr 1;omega,fun j x hj hx=>?_,by simpa using h4⟩
     cases j with
     | zero=>simp at hx;subst hx;exact hy
     | succ j=>exact h3 j x (by omega) (by simpa using hx)
   ·simp only[BL]
    exact .inr ⟨0,by simp,by simp,fun j x hj=>by omega,y,by simp,hy⟩
def eqP (ops:List XOp) (ints:List Int) (rels:List XRel) (v:Int) (k:Nat):Bool:=ints.getD k 0==v&& !(rels.any (fixF ops k))
def sameR (p:Nat→Bool) (i:Nat) (s:Int):Int:=if s = -1 then -1 else if firstF p s.toNat (i - s.toNat) < i then (firstF p s.toNat (i - s.toNat):Int) else -1
theorem sub_get {ints:List Int} {i s j:Nat} (hi:i≤ints.length):((ints.take i).drop (s+1))[j]? = if s+1+j < i then some (ints.getD (s+1+j) 0) else none:=by
 rw[List.getElem?_drop,List.getElem?_take]
 split
 ·rename_i h;rw[getD_get (d:=0) (by omega)]
 ·rfl
theorem same_none {ops:List XOp} {ints:List Int} {rels:List XRel} {v:Int} {i s:Nat} (hi:i≤ints.length) (hs:s < i) (hf:rels.any (fixF ops s)=true) (h:idxAt (fun x=>v==x) ((ints.take i).drop (s+1)) 0 = -1) :
 firstF (eqP ops ints rels v) s (i - s)=i:=by
 rcases idxAt_spec (fun x=>v==x) ((ints.take i).drop (s+1)) 0 with ⟨_,h2⟩ | ⟨k,_,h2,_⟩
 ·rw[firstF_skip _ (i - s) s (i - s) (fun j h3 h4=>?_) (Nat.le_refl _)]
  ·rw[Nat.sub_self,firstF];omega
  ·by_cases hj:j=s
   ·subst hj;simp[eqP,hf]
   ·have:=h2 (j - (s+1)) (ints.getD j 0) (by rw[sub_get hi,if_pos (by omega),show s+1+(j - (s+1))=j by omega])
    simp only[beq_eq_false_iff_ne,ne_eq] at this
    simp only[eqP,Bool.and_eq_false_iff,beq_eq_false_iff_ne,ne_eq]
    exact .inl fun e=>this e.symm
 ·rw[h2] at h;omega
theorem same_some {ops:List XOp} {ints:List Int} {rels:List XRel} {v:Int} {i s:Nat} (hi:i≤ints.length) (hs:s < i) (hf:rels.any (fixF ops s)=true) (h:idxAt (fun x=>v==x) ((ints.take i).drop (s+1)) 0 ≠ -1) :
 ∃ k:Nat,idxAt (fun x=>v==x) ((ints.take i).drop (s+1)) 0=(k:Int)∧s+1+k < i∧ints.getD (s+1+k) 0=v∧firstF (eqP ops ints rels v) s (i - s)=firstF (eqP ops ints rels v) (s+1+k) (i - (s+1+k)):=by
 rcases idxAt_spec (fun x=>v==x) ((ints.take i).drop (s+1)) 0 with ⟨h2,_⟩ | ⟨k,h1,h2,h3,x,h4,h5⟩
 ·exact absurd h2 h
 ·rw[sub_get hi] at h4
  split at h4
  ·rename_i hk
   injection h4 with h4
   refine⟨k,by rw[h2];simp,hk,by simp at h5;rw[h4,h5],?_⟩
   rw[firstF_skip _ (1+k) s (i - s) (fun j h6 h7=>?_) (by omega)]
   ·congr 1 <;> omega
   ·by_cases hj:j=s
    ·subst hj;simp[eqP,hf]
    ·have:=h3 (j - (s+1)) (ints.getD j 0) (by omega) (by rw[sub_get hi,if_pos (by omega),show s+1+(j - (s+1))=j by omega])
     simp only[beq_eq_false_iff_ne,ne_eq] at this
     simp only[eqP,Bool.and_eq_false_iff,beq_eq_false_iff_ne,ne_eq]
     exact .inl fun e=>this e.symm
  ·cases h4
theorem same_start {ops:List XOp} {ints:List Int} {rels:List XRel} {v:Int} {i:Nat} (hi:i≤ints.length) :
 sameR (eqP ops ints rels v) i (idxAt (fun x=>x==v) (ints.take i) 0)=sameR (eqP ops ints rels v) i 0∧(idxAt (fun x=>x==v) (ints.take i) 0 = -1∨∃ s:Nat,idxAt (fun x=>x==v) (ints.take i) 0=s∧s < i∧ints.getD s 0=v):=by
 have hz:sameR (eqP ops ints rels v) i 0=if firstF (eqP ops ints rels v) 0 i < i then (firstF (eqP ops ints rels v) 0 i:Int) else -1:=by
  unfold sameR;rw[if_neg (by omega)];rfl
 have hget:∀ j,j < i→(ints.take i)[j]? = some (ints.getD j 0):=fun j hj=>by
  rw[List.getElem?_take,if_pos hj,getD_get (d:=0) (by omega)]
 rcases idxAt_spec (fun x=>x==v) (ints.take i) 0 with ⟨h1,h2⟩ | ⟨k,h1,h2,h3,x,h4,h5⟩
 ·refine⟨?_,.inl h1⟩
  rw[h1,hz]
  have:firstF (eqP ops ints rels v) 0 i=i:=by
   rw[firstF_skip _ i 0 i (fun j _ h4=>?_) (Nat.le_refl _)]
   ·rw[Nat.sub_self,firstF];omega
   ·have:=h2 j _ (hget j (by omega))
    simp only[eqP,Bool.and_eq_false_iff]
    exact .inl this
  rw[this,if_neg (by omega)];rfl
 ·have hk:k < i:=by rw[List.length_take] at h1;omega
  rw[hget k hk] at h4
  injection h4 with h4
  refine⟨?_,.inr ⟨k,by rw[h2];simp,hk,by simp at h5;rw[h4,h5]⟩⟩
  rw[h2,hz]
  unfold sameR
  rw[if_neg (by omega)]
  have:firstF (eqP ops ints rels v) 0 i=firstF (eqP ops ints rels v) k (i - k):=by
   rw[firstF_skip _ k 0 i (fun j _ h6=>?_) (by omega)]
   ·congr 1;omega
   ·have:=h3 j _ (by omega) (hget j (by omega))
    simp only[eqP,Bool.and_eq_false_iff]
    exact .inl this
  rw[this]
  simp
def plOp (op i same:Int) (o:XOp):XOp:=if (o.op==op)=true then (if (o.n==i)=true then ⟨o.op,o.d,o.a,o.b,same⟩ else if (decide (i < o.n))=true then ⟨o.op,o.d,o.a,o.b,o.n - 1⟩ else o) else o
def sameI (ops:List XOp) (ints:List Int) (rels:List XRel) (q:Int):Int:=if (rels.any (fixF ops q))=true then -1 else sameR (eqP ops ints rels (ints.getD q.toNat 0)) q.toNat 0
def sameS (strs:List ByteArray) (i:Int):Int:=idxAt (fun x=>(strs.getD i.toNat ⟨#[]⟩).toList==x.toList) (strs.take i.toNat) 0
def poolF (ops:List XOp) (ints:List Int) (strs:List ByteArray) (rels:List XRel) (q:Int):Option XCode:=
 if (decide (q < (ints.length:Int)))=true then
  (if ((ops.any fun o=>o.op==1&&o.n==q)&&decide (sameI ops ints rels q < 0))=true then none else some ⟨ops.map (plOp 1 q (sameI ops ints rels q)),ints.eraseIdx q.toNat,strs,rels⟩)
 else
  (if ((ops.any fun o=>o.op==2&&o.n==q - ints.length)&&decide (sameS strs (q - ints.length) < 0))=true then none else some ⟨ops.map (plOp 2 (q - ints.length) (sameS strs (q - ints.length))),ints,strs.eraseIdx (q - ints.length).toNat,rels⟩)
theorem h96:Tryz.prog.funcs[96]? = some f96:=by kernel_rfl
def D96:Nat→Option (List DH × List Nat):=fun i=>match i with | 12=>some ([⟨[7],[],[]⟩,⟨[7],[],[]⟩,⟨[7],[],[]⟩,⟨[7],[],[]⟩,⟨[7],[],[]⟩,⟨[],[7],[]⟩,⟨[],[],[]⟩],[]) | _=>none
theorem D96_12:D96 12=some ([⟨[7],[],[]⟩,⟨[7],[],[]⟩,⟨[7],[],[]⟩,⟨[7],[],[]⟩,⟨[7],[],[]⟩,⟨[],[7],[]⟩,⟨[],[],[]⟩],[]):=rfl
theorem D96_6:D96 6=none:=rfl
theorem D96_13:D96 13=none:=rfl
def H96:Nat→Hint:=fun i=>if i=5 then ({ tm:=[4,5,6,7,8,9],ob:=[4,6,7,8,3018000,3018001,3018002,3018003],fin:=some ([4,5,6,7,8,9],[4,6,7,8,3018000,3018001,3018002,3018003]) }:Hint) else if i=18 then ({ tm:=[4,5,6,7,8,9,85,86,87],ob:=[4,6,7,8,3018000,3018001,3018002,3018003],fin:=some ([4,5,6,7,8,9],[4,6,7,8,3018000,3018001,3018002,3018003]) }:Hint) else { tm:=[],ob:=[] }
theorem H96_5:H96 5=({ tm:=[4,5,6,7,8,9],ob:=[4,6,7,8,3018000,3018001,3018002,3018003],fin:=some ([4,5,6,7,8,9],[4,6,7,8,3018000,3018001,3018002,3018003]) }:Hint):=by simp[H96]
theorem H96_18:H96 18=({ tm:=[4,5,6,7,8,9,85,86,87],ob:=[4,6,7,8,3018000,3018001,3018002,3018003],fin:=some ([4,5,6,7,8,9],[4,6,7,8,3018000,3018001,3018002,3018003]) }:Hint):=by simp[H96]
theorem loop96_5 (q:Int) (h0:0≤q) (hqn:q.toNat < ints.length) (hil:ints.length≤100000) (hrl:rels.length≤100000) (hr:∀ r ∈ rels,0≤r.at_∧r.at_.toNat < ops.length) (A:Nat→Prop) (k:Nat):∀ (m:Nat) (s:Int) (σ:St),(s = -1∨∃ sn:Nat,s=sn∧sn < q.toNat∧ints.getD sn 0=ints.getD q.toNat 0∧q.toNat - sn≤m)→
 σ.keep (H96 5)=⟨[(4,.ptr 4 (.box 27) []),(5,.bool false),(6,.ptr 6 (.box 27) []),(7,.ptr 7 (.box 3) []),(8,.ptr 8 (.box 3) []),(9,.int .i64 s)],[(4,⟨.box 27,true,[.st 27 [.sl 80 ⟨true,some true,true⟩ [],.sl 2 ⟨true,some true,true⟩ [],.sl 9 ⟨true,some true,true⟩ [],.sl 90 ⟨true,some true,true⟩ []]]⟩),(6,⟨.box 27,true,[.st 27 [.own 3018000 80 0 ops.length,.own 3018001 2 0 ints.length,.own 3018002 9 0 strs.length,.own 3018003 90 0 rels.length]]⟩),(7,⟨.box 3,true,[.int .i64 1]⟩),(8,⟨.box 3,true,[.int .i64 q]⟩),(3018000,⟨.row 80,false,(ops).map eOp⟩),(3018001,⟨.row 2,false,ints.map eI⟩),(3018002,⟨.row 9,false,strs.map eS⟩),(3018003,⟨.row 90,false,rels.map eRel⟩)]⟩→
 post (H96 5) (aloop ty (arun (env 139 10633986344983520064974317284547903475 D96 [(121,c121),(123,c123),(124,c124),(125,c125),(126,c126)] [(46,c46),(128,c128),(129,c129)] A) H96 k (sub (f96.body.getD .skip) [1,1,1,0,1,0,1,0,0,0])) (H96 5) (m+1) σ)=some (.exit 0,⟨[(4,.ptr 4 (.box 27) []),(5,.bool false),(6,.ptr 6 (.box 27) []),(7,.ptr 7 (.box 3) []),(8,.ptr 8 (.box 3) []),(9,.int .i64 (sameR (eqP ops ints rels (ints.getD q.toNat 0)) q.toNat s))],[(4,⟨.box 27,true,[.st 27 [.sl 80 ⟨true,some true,true⟩ [],.sl 2 ⟨true,some true,true⟩ [],.sl 9 ⟨true,some true,true⟩ [],.sl 90 ⟨true,some true,true⟩ []]]⟩),(6,⟨.box 27,true,[.st 27 [.own 3018000 80 0 ops.length,.own 3018001 2 0 ints.length,.own 3018002 9 0 strs.length,.own 3018003 90 0 rels.length]]⟩),(7,⟨.box 3,true,[.int .i64 1]⟩),(8,⟨.box 3,true,[.int .i64 q]⟩),(3018000,⟨.row 80,false,(ops).map eOp⟩),(3018001,⟨.row 2,false,ints.map eI⟩),(3018002,⟨.row 9,false,strs.map eS⟩),(3018003,⟨.row 90,false,rels.map eRel⟩)]⟩):=by
 simp only[f96,sub,Option.getD_some,H96_5]
 have hgq:=getD_get (d:=(0:Int)) hqn
 have hqi:q < (ints.length:Int):=by omega
 have hqle:q.toNat≤ints.length:=by omega
 intro m
 induction m with
 | zero=>
   intro s σ hs hσ
   rcases hs with rfl | ⟨sn,rfl,h1,h2,h3⟩
   ·rw[aloop,hσ]
    simp only[go_sem,simprocAttr,D96_6,D96_12,D96_13,c129_eq]
    simp[post,St.fin,keepL,aget,sameR]
   ·omega
 | succ m ih=>
   intro s σ hs hσ
   rcases hs with rfl | ⟨sn,rfl,h1,h2,h3⟩
   ·rw[aloop,hσ]
    simp only[go_sem,simprocAttr,D96_6,D96_12,D96_13,c129_eq]
    simp[post,St.fin,keepL,aget,sameR]
   have hd1:decide (0≤(sn:Int))=true:=by simp
   have hne:(sn:Int) ≠ -1:=by omega
   have e123:=c123_eq ops ints strs rels sn ⟨hrl,hr⟩
   have hw:IntKind.i64.wrap ((sn:Int)+1)=((sn+1:Nat):Int):=wrap_nat (by omega)
   rw[aloop,hσ]
   cases hf:rels.any (fixF ops sn)
   ·rw[hf] at e123
    have hR:sameR (eqP ops ints rels (ints.getD q.toNat 0)) q.toNat (sn:Int)=sn:=by
     unfold sameR
     rw[if_neg hne,Int.toNat_natCast,firstF_here (by unfold eqP;rw[hf,h2];simp) (by omega),if_pos h1]
    rw[hR]
    simp only[go_sem,simprocAttr,D96_6,D96_12,D96_13,hd1,e123]
    simp[post,St.fin,keepL,aget]
   ·rw[hf] at e123
    have hsl:sn+1≤q.toNat:=h1
    have hni1:(0:Int)≤(sn:Int)+1:=by omega
    have hni2:(0:Int)≤((sn+1:Nat):Int):=by omega
    have e124:=c124_eq ((ints.take q.toNat).drop (sn+1)) (ints.getD q.toNat 0) (by simp;omega)
    have hdr:(((ints.map eI).drop (sn+1)).take (q.toNat - (sn+1)))=((ints.take q.toNat).drop (sn+1)).map eI:=by
     rw[List.map_drop,List.map_take,List.drop_take]
    have hsum:sn+1+(q.toNat - (sn+1))≤ints.length:=by omega
    have hz1:(sn+1=0)=False:=by simp
    have hrest:∀ s',(idxAt (fun x=>ints.getD q.toNat 0==x) ((ints.take q.toNat).drop (sn+1)) 0=s')→True:=fun _ _=>trivial
    have hno:=same_none (ops:=ops) (rels:=rels) (v:=ints.getD q.toNat 0) hqle h1 hf
    have hso:=same_some (ops:=ops) (rels:=rels) (v:=ints.getD q.toNat 0) hqle h1 hf
    by_cases hk:idxAt (fun x=>ints.getD q.toNat 0==x) ((ints.take q.toNat).drop (sn+1)) 0 = -1
    ·have hR:sameR (eqP ops ints rels (ints.getD q.toNat 0)) q.toNat (sn:Int) = -1:=by
      unfold sameR
      rw[if_neg hne,Int.toNat_natCast,hno hk,if_neg (by omega)]
     rw[hk] at e124
     rw[hR]
     by_cases hlt:sn+1 < q.toNat
     ·simp only[go_sem,simprocAttr,D96_6,D96_12,D96_13,hd1,e123,e124,hw,hni1,hni2,hsl,hdr,hsum,hz1,hlt,h0,hqi,hqle,hgq]
      simp[post,St.fin,keepL,aget]
     ·have heq:(ints.take q.toNat).drop (sn+1)=[]:=by rw[List.drop_eq_nil_iff,List.length_take];omega
      rw[heq] at e124
      simp only[List.map_nil] at e124
      simp only[go_sem,simprocAttr,D96_6,D96_12,D96_13,hd1,e123,e124,hw,hni1,hni2,hsl,hdr,hsum,hz1,hlt,h0,hqi,hqle,hgq]
      simp[post,St.fin,keepL,aget]
    ·obtain⟨k,hk1,hk2,hk3,hk4⟩:=hso hk
     have hlt:sn+1 < q.toNat:=by omega
     have hR:sameR (eqP ops ints rels (ints.getD q.toNat 0)) q.toNat (sn:Int)=sameR (eqP ops ints rels (ints.getD q.toNat 0)) q.toNat ((sn+1+k:Nat):Int):=by
      unfold sameR
      have hne2:((sn+1+k:Nat):Int) ≠ -1:=by omega
      rw[if_neg hne,if_neg hne2,Int.toNat_natCast,Int.toNat_natCast,hk4]
     rw[hk1] at e124
     rw[hR]
     have hkl:decide ((k:Int) < 0)=false:=by simp
     have hw2:IntKind.i64.wrap ((k:Int)+1)=(k:Int)+1:=wrap_i64 (by omega) (by omega)
     have hw3:IntKind.i64.wrap ((sn:Int)+((k:Int)+1))=(sn:Int)+1+(k:Int):=by rw[wrap_i64 (by omega) (by omega)];omega
     simp only[go_sem,simprocAttr,D96_6,D96_12,D96_13,hd1,e123,e124,hw,hni1,hni2,hsl,hdr,hsum,hz1,hlt,h0,hqi,hqle,hgq,hkl,hw2,hw3]
     have hcc:((sn+1+k:Nat):Int)=(sn:Int)+1+(k:Int):=by omega
     rw[hcc]
     exact ih _ _ (.inr ⟨sn+1+k,hcc.symm,hk2,hk3,by omega⟩) (by simp only[go_sem,simprocAttr])
theorem loop96_18 (p i s:Int) (hi0:0≤i) (hn:∀ o ∈ ops,InR o.n) (hlim:ops.length≤100000) (A:Nat→Prop) (k:Nat):∀ (m j:Nat) (σ:St),j+m=ops.length→
 σ.keep (H96 18)=⟨[(4,.ptr 4 (.box 27) []),(5,.bool false),(6,.ptr 6 (.box 27) []),(7,.ptr 7 (.box 3) []),(8,.ptr 8 (.box 3) []),(9,.int .i64 s),(85,.own 3018000 80 0 ops.length),(86,.int .i64 ops.length),(87,.int .i64 j)],[(4,⟨.box 27,true,[.st 27 [.sl 80 ⟨true,some true,true⟩ [],.sl 2 ⟨true,some true,true⟩ [],.sl 9 ⟨true,some true,true⟩ [],.sl 90 ⟨true,some true,true⟩ []]]⟩),(6,⟨.box 27,true,[.st 27 [.own 3018000 80 0 ops.length,.own 3018001 2 0 ints.length,.own 3018002 9 0 strs.length,.own 3018003 90 0 rels.length]]⟩),(7,⟨.box 3,true,[.int .i64 p]⟩),(8,⟨.box 3,true,[.int .i64 i]⟩),(3018000,⟨.row 80,false,(rowAt (plOp p i s) ops j).map eOp⟩),(3018001,⟨.row 2,false,ints.map eI⟩),(3018002,⟨.row 9,false,strs.map eS⟩),(3018003,⟨.row 90,false,rels.map eRel⟩)]⟩→
 post (H96 18) (aloop ty (arun (env 139 10633986344983520064974317284547903475 D96 [(121,c121),(123,c123),(124,c124),(125,c125),(126,c126)] [(46,c46),(128,c128),(129,c129)] A) H96 k (sub (f96.body.getD .skip) [1,1,1,1,1,1,0,1,0,0])) (H96 18) (m+1) σ)=some (.exit 2,⟨[(4,.ptr 4 (.box 27) []),(5,.bool false),(6,.ptr 6 (.box 27) []),(7,.ptr 7 (.box 3) []),(8,.ptr 8 (.box 3) []),(9,.int .i64 s)],[(4,⟨.box 27,true,[.st 27 [.sl 80 ⟨true,some true,true⟩ [],.sl 2 ⟨true,some true,true⟩ [],.sl 9 ⟨true,some true,true⟩ [],.sl 90 ⟨true,some true,true⟩ []]]⟩),(6,⟨.box 27,true,[.st 27 [.own 3018000 80 0 ops.length,.own 3018001 2 0 ints.length,.own 3018002 9 0 strs.length,.own 3018003 90 0 rels.length]]⟩),(7,⟨.box 3,true,[.int .i64 p]⟩),(8,⟨.box 3,true,[.int .i64 i]⟩),(3018000,⟨.row 80,false,(ops.map (plOp p i s)).map eOp⟩),(3018001,⟨.row 2,false,ints.map eI⟩),(3018002,⟨.row 9,false,strs.map eS⟩),(3018003,⟨.row 90,false,rels.map eRel⟩)]⟩):=by
 simp only[f96,sub,Option.getD_some,H96_18]
 intro m
 induction m with
 | zero=>
   intro j σ hj hσ
   have h1:¬ ((j:Int) < (ops.length:Int)):=by omega
   have hlen:=rowAt_len (plOp p i s) ops j
   rw[aloop,hσ]
   simp only[go_sem,simprocAttr,D96_6,D96_12,D96_13,h1,hlen]
   simp[post,St.fin,keepL,aget,rowAt_end (plOp p i s) ops j (by omega)]
 | succ m ih=>
   intro j σ hj hσ
   have h1:(j:Int) < (ops.length:Int):=by omega
   have hlt:j < ops.length:=by omega
   have hni:(0:Int)≤(j:Int):=Int.natCast_nonneg j
   have hget:=rowAt_get (plOp p i s) ops j hlt
   have hlen:=rowAt_len (plOp p i s) ops j
   have hw:IntKind.i64.wrap ((j:Int)+1)=((j+1:Nat):Int):=wrap_nat (by omega)
   have hn1:=hn _ (List.getElem_mem hlt)
   have hsu:=rowAt_succ (plOp p i s) ops j hlt
   have hsa:=rowAt_same (plOp p i s) ops j hlt
   have hset:=set_map eOp (rowAt (plOp p i s) ops j) j (plOp p i s ops[j])
   rw[hsu] at hset
   rw[aloop,hσ]
   generalize ops[j]=x at *
   unfold InR at hn1
   have hg:plOp p i s x=if (x.op==p)=true then (if (x.n==i)=true then ⟨x.op,x.d,x.a,x.b,s⟩ else if (decide (i < x.n))=true then ⟨x.op,x.d,x.a,x.b,x.n - 1⟩ else x) else x:=rfl
   cases ha:(x.op==p) <;> cases hb:(x.n==i) <;> cases hc:decide (i < x.n)
   all_goals
    have hc':=hc
    simp only[decide_eq_true_eq,decide_eq_false_iff_not] at hc'
    simp only[ha,hb,hc,BL] at hg
    first
    | (have hs:=hsa hg
       have hwn:=trivial
       simp only[go_sem,simprocAttr,D96_6,D96_12,D96_13,h1,hlen,hni,hw,hget,ha,hb,hc]
       exact ih (j+1) _ (by omega) (by rw[← hs];simp only[go_sem,simprocAttr]))
    | (rw[hg] at hset
       simp only[eOp] at hset
       first
       | (have hwn:IntKind.i64.wrap (x.n - 1)=x.n - 1:=wrap_i64 (by omega) (by omega)
          simp only[go_sem,simprocAttr,D96_6,D96_12,D96_13,h1,hlen,hni,hw,hget,ha,hb,hc,hset,hwn]
          exact ih (j+1) _ (by omega) (by simp only[go_sem,simprocAttr]))
       | (simp only[go_sem,simprocAttr,D96_6,D96_12,D96_13,h1,hlen,hni,hw,hget,ha,hb,hc,hset]
          exact ih (j+1) _ (by omega) (by simp only[go_sem,simprocAttr])))
theorem run96 (before:List (List XFact)) (reached:List Bool) (alive:List Int) (q:Int) (hp:XW ops ints strs rels before reached alive∧0≤q∧q.toNat < ints.length+strs.length) :∃ r,wk r (eOut (poolF ops ints strs rels q))∧∀ A,acall (env 139 10633986344983520064974317284547903475 D96 [(121,c121),(123,c123),(124,c124),(125,c125),(126,c126)] [(46,c46),(128,c128),(129,c129)] A) (H96) (100010) f96 [.ro false 106 (.st 106 [(cd ops ints strs rels),.sl 119 gT (before.map eFacts),.sl 4 gT (reached.map eB),.sl 109 gT (alive.map eU)]),.int .i64 q]=some r:=by
 obtain⟨hw,h0,hlt⟩:=hp
 have e46:=c46_eq ops ints strs rels hw.lim
 have hli:ints.length≤ints.length:=Nat.le_refl _
 unfold poolF
 cases hq:decide (q < (ints.length:Int))
 ·simp only[BL]
  have hqn:(ints.length:Int)≤q:=by simpa using hq
  have hwi:IntKind.i64.wrap (q - (ints.length:Int))=q - (ints.length:Int):=wrap_i64 (by have:=hw.lim;omega) (by have:=hw.lim;omega)
  have hi0:0≤q - (ints.length:Int):=by omega
  have hil:(q - (ints.length:Int)).toNat < strs.length:=by omega
  obtain⟨i,hi⟩:∃ i,q - (ints.length:Int)=i:=⟨_,rfl⟩
  rw[hi] at hi0 hil hwi
  have hwi:IntKind.i64.wrap (q - (ints.length:Int))=i:=by rw[hi];exact hwi
  simp only[hi]
  have hlt':i < (strs.length:Int):=by omega
  have hin:i.toNat≤strs.length:=by omega
  have hine:(i.toNat=strs.length)=False:=by simp;omega
  have hwq:IntKind.i64.wrap (i+1)=i+1:=wrap_i64 (by omega) (by have:=hw.lim;omega)
  have htk:(strs.map eS).take i.toNat=(strs.take i.toNat).map eS:=by rw[List.map_take]
  have hgs:=getD_get (d:=(⟨#[]⟩:ByteArray)) hil
  have e125:=c125_eq (strs.take i.toNat) (strs.getD i.toNat ⟨#[]⟩) (by have:=hw.lim;rw[List.length_take];omega)
  have hsS:sameS strs i=idxAt (fun x=>(strs.getD i.toNat ⟨#[]⟩).toList==x.toList) (strs.take i.toNat) 0:=rfl
  rw[← hsS] at e125
  have hc2:CapsOk [.ro false 3 (.int .i64 2),.ro false 3 (.int .i64 i)]:=⟨rfl,rfl,fun k ob hk=>by obtain⟨j,rfl⟩:∃ j,k=j+3:=⟨k - 3,by omega⟩;rfl⟩
  have e126:=c126_eq ops 127 [.ro false 3 (.int .i64 2),.ro false 3 (.int .i64 i)] (fun o=>o.op==2&&o.n==i) ⟨fun r _=>c127_eq r.op r.d r.a r.b r.n 2 i,hc2,rfl,hw.lim.1⟩
  have e129:=c129_eq strs i false ⟨hi0,hil,hw.lim.2.2.1⟩
  have hyl:strs.length - 1=(strs.eraseIdx i.toNat).length:=by rw[List.length_eraseIdx_of_lt hil]
  generalize (ops.any fun o=>o.op==2&&o.n==i)=nm at *
  generalize sameS strs i=sm at *
  cases nm
  ·cases hsg:decide (sm < 0)
   all_goals
    simp only[BL]
    apply wkI
    ·intro A
     have hl18:=loop96_18 ops ints strs rels 2 i sm hi0 hw.opn hw.lim.1 A 100010 ops.length 0
     simp only[f96,sub,Option.getD_some,H96_5,H96_18] at hl18
     simp only[acall,macall,f96]
     simp only[go_sem,simprocAttr,D96_6,D96_12,D96_13,hq,hwi,hi0,hin,hine,htk,hgs,e125,e126,hsg,e46,hlt',hli,List.drop_zero,H96_5,H96_18]
     rw[post_le (hl18 _ (by omega) (by simp only[go_sem,simprocAttr,rowAt_zero])) (by have:=hw.lim.1;omega)]
     simp only[go_sem,simprocAttr,D96_6,D96_12,D96_13,e129,hwq,hyl,e46,hlt',hli,List.drop_zero,H96_5,H96_18]
     rfl
    ·simp[WK,eOut,eCode]
  ·cases hsg:decide (sm < 0)
   ·simp only[BL]
    apply wkI
    ·intro A
     have hl18:=loop96_18 ops ints strs rels 2 i sm hi0 hw.opn hw.lim.1 A 100010 ops.length 0
     simp only[f96,sub,Option.getD_some,H96_5,H96_18] at hl18
     simp only[acall,macall,f96]
     simp only[go_sem,simprocAttr,D96_6,D96_12,D96_13,hq,hwi,hi0,hin,hine,htk,hgs,e125,e126,hsg,e46,hlt',hli,List.drop_zero,H96_5,H96_18]
     rw[post_le (hl18 _ (by omega) (by simp only[go_sem,simprocAttr,rowAt_zero])) (by have:=hw.lim.1;omega)]
     simp only[go_sem,simprocAttr,D96_6,D96_12,D96_13,e129,hwq,hyl,e46,hlt',hli,List.drop_zero,H96_5,H96_18]
     rfl
    ·simp[WK,eOut,eCode]
   ·simp only[BL]
    apply wkI
    ·intro A
     have hl18:=loop96_18 ops ints strs rels 2 i sm hi0 hw.opn hw.lim.1 A 100010 ops.length 0
     simp only[f96,sub,Option.getD_some,H96_5,H96_18] at hl18
     simp only[acall,macall,f96]
     simp only[go_sem,simprocAttr,D96_6,D96_12,D96_13,hq,hwi,hi0,hin,hine,htk,hgs,e125,e126,hsg,e46,hlt',hli,List.drop_zero,H96_5,H96_18]
     rfl
    ·simp[WK,eOut,eCode]
 have hlt':q < (ints.length:Int):=by simpa using hq
 have hqlt:q.toNat < ints.length:=by omega
 have hqn:q.toNat≤ints.length:=by omega
 have hwq:IntKind.i64.wrap (q+1)=q+1:=wrap_i64 (by omega) (by have:=hw.lim;omega)
 have hqne:(q.toNat=ints.length)=False:=by simp;omega
 have htk:(ints.map eI).take q.toNat=(ints.take q.toNat).map eI:=by rw[List.map_take]
 have hc:CapsOk [.ro false 27 ((cd ops ints strs rels)),.ro false 3 (.int .i64 q)]:=⟨rfl,rfl,fun k ob hk=>by obtain⟨j,rfl⟩:∃ j,k=j+3:=⟨k - 3,by omega⟩;rfl⟩
 have e121:=c121_eq (ints.take q.toNat) 122 [.ro false 27 ((cd ops ints strs rels)),.ro false 3 (.int .i64 q)] (fun n=>n==ints.getD q.toNat 0) ⟨fun r _=>c122_eq r ops ints strs rels q ⟨h0,by omega⟩,hc,rfl,by have:=hw.lim;rw[List.length_take];omega⟩
 have e123:=c123_eq ops ints strs rels q ⟨hw.lim.2.2.2,hw.rel⟩
 have hc2:CapsOk [.ro false 3 (.int .i64 1),.ro false 3 (.int .i64 q)]:=⟨rfl,rfl,fun k ob hk=>by obtain⟨j,rfl⟩:∃ j,k=j+3:=⟨k - 3,by omega⟩;rfl⟩
 have e126:=c126_eq ops 127 [.ro false 3 (.int .i64 1),.ro false 3 (.int .i64 q)] (fun o=>o.op==1&&o.n==q) ⟨fun r _=>c127_eq r.op r.d r.a r.b r.n 1 q,hc2,rfl,hw.lim.1⟩
 have hss:=same_start (ops:=ops) (rels:=rels) (v:=ints.getD q.toNat 0) hqn
 have hst:(idxAt (fun n=>n==ints.getD q.toNat 0) (ints.take q.toNat) 0 = -1∨∃ sn:Nat,idxAt (fun n=>n==ints.getD q.toNat 0) (ints.take q.toNat) 0=sn∧sn < q.toNat∧ints.getD sn 0=ints.getD q.toNat 0∧q.toNat - sn≤q.toNat):=by
  rcases hss.2 with h | ⟨sn,h1,h2,h3⟩
  ·exact .inl h
  ·exact .inr ⟨sn,h1,h2,h3,by omega⟩
 have e128:=c128_eq ints q false ⟨h0,hqlt,hw.lim.2.1⟩
 have hyl:ints.length - 1=(ints.eraseIdx q.toNat).length:=by rw[List.length_eraseIdx_of_lt hqlt]
 have hsI:sameI ops ints rels q=if (rels.any (fixF ops q))=true then -1 else sameR (eqP ops ints rels (ints.getD q.toNat 0)) q.toNat 0:=rfl
 generalize hnm:(ops.any fun o=>o.op==1&&o.n==q)=nm at *
 cases hfx:rels.any (fixF ops q)
 ·rw[hfx] at e123
  rw[hfx] at hsI
  simp only[BL] at hsI
  rw[hsI]
  generalize sameR (eqP ops ints rels (ints.getD q.toNat 0)) q.toNat 0=sm at *
  cases nm
  ·cases hsg:decide (sm < 0)
   all_goals
    simp only[BL]
    apply wkI
    ·intro A
     have hl5:=loop96_5 ops ints strs rels q h0 hqlt hw.lim.2.1 hw.lim.2.2.2 hw.rel A 100010 q.toNat (idxAt (fun n=>n==ints.getD q.toNat 0) (ints.take q.toNat) 0)
     have hl18:=loop96_18 ops ints strs rels 1 q sm h0 hw.opn hw.lim.1 A 100010 ops.length 0
     simp only[f96,sub,Option.getD_some,H96_5,H96_18] at hl5 hl18
     simp only[acall,macall,f96]
     simp only[go_sem,simprocAttr,D96_6,D96_12,D96_13,hq,hqn,hqne,htk,e121,e46,h0,hlt',hli,List.drop_zero,H96_5,H96_18]
     rw[post_le (hl5 _ hst (by simp only[go_sem,simprocAttr])) (by have:=hw.lim.2.1;omega)]
     rw[hss.1]
     simp only[go_sem,simprocAttr,D96_6,D96_12,D96_13,e123,e126,hsg,e46,h0,hlt',hli,List.drop_zero,H96_5,H96_18]
     rw[post_le (hl18 _ (by omega) (by simp only[go_sem,simprocAttr,rowAt_zero])) (by have:=hw.lim.1;omega)]
     simp only[go_sem,simprocAttr,D96_6,D96_12,D96_13,e128,hwq,hyl,e46,h0,hlt',hli,List.drop_zero,H96_5,H96_18]
     rfl
    ·simp[WK,eOut,eCode]
  ·cases hsg:decide (sm < 0)
   ·simp only[BL]
    apply wkI
    ·intro A
     have hl5:=loop96_5 ops ints strs rels q h0 hqlt hw.lim.2.1 hw.lim.2.2.2 hw.rel A 100010 q.toNat (idxAt (fun n=>n==ints.getD q.toNat 0) (ints.take q.toNat) 0)
     have hl18:=loop96_18 ops ints strs rels 1 q sm h0 hw.opn hw.lim.1 A 100010 ops.length 0
     simp only[f96,sub,Option.getD_some,H96_5,H96_18] at hl5 hl18
     simp only[acall,macall,f96]
     simp only[go_sem,simprocAttr,D96_6,D96_12,D96_13,hq,hqn,hqne,htk,e121,e46,h0,hlt',hli,List.drop_zero,H96_5,H96_18]
     rw[post_le (hl5 _ hst (by simp only[go_sem,simprocAttr])) (by have:=hw.lim.2.1;omega)]
     rw[hss.1]
     simp only[go_sem,simprocAttr,D96_6,D96_12,D96_13,e123,e126,hsg,e46,h0,hlt',hli,List.drop_zero,H96_5,H96_18]
     rw[post_le (hl18 _ (by omega) (by simp only[go_sem,simprocAttr,rowAt_zero])) (by have:=hw.lim.1;omega)]
     simp only[go_sem,simprocAttr,D96_6,D96_12,D96_13,e128,hwq,hyl,e46,h0,hlt',hli,List.drop_zero,H96_5,H96_18]
     rfl
    ·simp[WK,eOut,eCode]
   ·simp only[BL]
    apply wkI
    ·intro A
     have hl5:=loop96_5 ops ints strs rels q h0 hqlt hw.lim.2.1 hw.lim.2.2.2 hw.rel A 100010 q.toNat (idxAt (fun n=>n==ints.getD q.toNat 0) (ints.take q.toNat) 0)
     have hl18:=loop96_18 ops ints strs rels 1 q sm h0 hw.opn hw.lim.1 A 100010 ops.length 0
     simp only[f96,sub,Option.getD_some,H96_5,H96_18] at hl5 hl18
     simp only[acall,macall,f96]
     simp only[go_sem,simprocAttr,D96_6,D96_12,D96_13,hq,hqn,hqne,htk,e121,e46,h0,hlt',hli,List.drop_zero,H96_5,H96_18]
     rw[post_le (hl5 _ hst (by simp only[go_sem,simprocAttr])) (by have:=hw.lim.2.1;omega)]
     rw[hss.1]
     simp only[go_sem,simprocAttr,D96_6,D96_12,D96_13,e123,e126,hsg,e46,h0,hlt',hli,List.drop_zero,H96_5,H96_18]
     rfl
    ·simp[WK,eOut,eCode]
 ·rw[hfx] at e123
  rw[hfx] at hsI
  simp only[BL] at hsI
  rw[hsI]
  have hsg:decide ((-1:Int) < 0)=true:=rfl
  cases nm
  ·simp only[BL]
   apply wkI
   ·intro A
    have hl5:=loop96_5 ops ints strs rels q h0 hqlt hw.lim.2.1 hw.lim.2.2.2 hw.rel A 100010 q.toNat (idxAt (fun n=>n==ints.getD q.toNat 0) (ints.take q.toNat) 0)
    have hl18:=loop96_18 ops ints strs rels 1 q (-1) h0 hw.opn hw.lim.1 A 100010 ops.length 0
    simp only[f96,sub,Option.getD_some,H96_5,H96_18] at hl5 hl18
    simp only[acall,macall,f96]
    simp only[go_sem,simprocAttr,D96_6,D96_12,D96_13,hq,hqn,hqne,htk,e121,e46,h0,hlt',hli,List.drop_zero,H96_5,H96_18]
    rw[post_le (hl5 _ hst (by simp only[go_sem,simprocAttr])) (by have:=hw.lim.2.1;omega)]
    rw[hss.1]
    simp only[go_sem,simprocAttr,D96_6,D96_12,D96_13,e123,e126,hsg,Int.reduceLT,e46,h0,hlt',hli,List.drop_zero,H96_5,H96_18]
    rw[post_le (hl18 _ (by omega) (by simp only[go_sem,simprocAttr,rowAt_zero])) (by have:=hw.lim.1;omega)]
    simp only[go_sem,simprocAttr,D96_6,D96_12,D96_13,e128,hwq,hyl,e46,h0,hlt',hli,List.drop_zero,H96_5,H96_18]
    rfl
   ·simp[WK,eOut,eCode]
  ·simp only[hsg,BL]
   apply wkI
   ·intro A
    have hl5:=loop96_5 ops ints strs rels q h0 hqlt hw.lim.2.1 hw.lim.2.2.2 hw.rel A 100010 q.toNat (idxAt (fun n=>n==ints.getD q.toNat 0) (ints.take q.toNat) 0)
    have hl18:=loop96_18 ops ints strs rels 1 q (-1) h0 hw.opn hw.lim.1 A 100010 ops.length 0
    simp only[f96,sub,Option.getD_some,H96_5,H96_18] at hl5 hl18
    simp only[acall,macall,f96]
    simp only[go_sem,simprocAttr,D96_6,D96_12,D96_13,hq,hqn,hqne,htk,e121,e46,h0,hlt',hli,List.drop_zero,H96_5,H96_18]
    rw[post_le (hl5 _ hst (by simp only[go_sem,simprocAttr])) (by have:=hw.lim.2.1;omega)]
    rw[hss.1]
    simp only[go_sem,simprocAttr,D96_6,D96_12,D96_13,e123,e126,hsg,Int.reduceLT,e46,h0,hlt',hli,List.drop_zero,H96_5,H96_18]
    rfl
   ·simp[WK,eOut,eCode]
noncomputable def c96:=famP (α:=(List XOp) × (List Int) × (List ByteArray) × (List XRel) × (List (List XFact)) × (List Bool) × (List Int) × Int) (fun (ops,ints,strs,rels,before,reached,alive,q)=>XW ops ints strs rels before reached alive∧0≤q∧q.toNat < ints.length+strs.length) (fun (ops,ints,strs,rels,before,reached,alive,q)=>[.ro false 106 (.st 106 [(cd ops ints strs rels),.sl 119 gT (before.map eFacts),.sl 4 gT (reached.map eB),.sl 109 gT (alive.map eU)]),.int .i64 q]) (fun (ops,ints,strs,rels,before,reached,alive,q)=>eOut (poolF ops ints strs rels q))
theorem c96_eq (before:List (List XFact)) (reached:List Bool) (alive:List Int) (q:Int) (hp:XW ops ints strs rels before reached alive∧0≤q∧q.toNat < ints.length+strs.length):c96 [.ro false 106 (.st 106 [(cd ops ints strs rels),.sl 119 gT (before.map eFacts),.sl 4 gT (reached.map eB),.sl 109 gT (alive.map eU)]),.int .i64 q]=some (eOut (poolF ops ints strs rels q)):=fam_eq (fun X Y hp hp' h'=>by
 obtain⟨ops,ints,strs,rels,before,reached,alive,q⟩:=X;obtain⟨ops',ints',strs',rels',before',reached',alive',q'⟩:=Y;simp only[INJ] at h'
 obtain⟨rfl,rfl,rfl,rfl,rfl,rfl,rfl,rfl⟩:=h'
 rfl) (ops,ints,strs,rels,before,reached,alive,q) hp
theorem snd96:Snd 96 c96:=fam_snd h96 rfl rfl fun (ops,ints,strs,rels,before,reached,alive,q) hp=>let ⟨_,hw,hr⟩:=run96 ops ints strs rels before reached alive q hp;(rc h96 hr (fun i=>match i with | 6=>[0,1,0,4,0,31,0,64,0,448,960,2047,4095] | 12=>[0,0,2,6,15,0,63] | 13=>[0,1,0,7,0,16,0,112,240,511,1023] | _=>[]) rfl rfl rfl (by kernel_rfl) ⟨snd121,snd123,snd124,snd125,snd126,trivial⟩ ⟨snd46,snd128,snd129,trivial⟩).weak hw
end Go.Proofs.Tryz
end
section
namespace Go.Proofs
open Go Go.Abs Go.RowKit
set_option maxHeartbeats 1000000 in
set_option maxRecDepth 100000 in
theorem Tryz.stringslite_IndexByte (s:ByteArray) (c:Int) (w:World) :
 Calls Tryz.prog 81 #[.string s,.int .u8 c] w fun e w'=>e = .returned (.int .i64 (Lib.indexByte s.data.toList c.toNat.toUInt8))∧w'=w:=by
 go_enter Tryz.func81,Tryz.ntmps81
 go_wp2
 rw[run_callFunc_extern Tryz.func107 (by kernel_rfl) (by kernel_rfl) (by kernel_rfl) (e:=Extern.BytealgIndexByte.indexByte) (by kernel_rfl),Lib.run_indexByteString]
 simp only[Result.andThen]
 rw[Oper.upon_value]
 go_wp2
 go_ret
 exact⟨rfl,rfl⟩
namespace Tryz
theorem h81:Tryz.prog.funcs[81]? = some f81:=by kernel_rfl
def indexByteF (s:ByteArray) (c:Int):Int:=Lib.indexByte s.data.toList c.toNat.toUInt8
theorem ret81 (s:ByteArray) (c:Int):Ret Tryz.prog ty G0 81 [.str s,.int .u8 c] (.int .i64 (indexByteF s c)):=by
 intro okA w vs hvs hG
 have hlen:vs.length=2:=hvs.1.symm
 obtain⟨a,b,rfl⟩:∃ a b,vs=[a,b]:=by
  match vs,hlen with
  | [a,b],_=>exact⟨a,b,rfl⟩
 have h1:LR ty w okA (.str s) a:=hvs.2 0 _ _ rfl rfl
 have h2:LR ty w okA (.int .u8 c) b:=hvs.2 1 _ _ rfl rfl
 cases h1
 cases h2
 refine Calls.mono (stringslite_IndexByte s c w) fun e w' he=>?_
 obtain⟨rfl,rfl⟩:=he
 exact⟨_,rfl,Below.refl _ _,.int .i64 _⟩
end Tryz
end Go.Proofs
end
section
set_option maxHeartbeats 4000000
set_option maxRecDepth 20000
namespace Go.Proofs.Tryz
open Go Go.Abs
variable (ops : List XOp) (ints : List Int) (strs : List ByteArray) (rels : List XRel)
def R81 (l:List AV) (r:AV):Prop:=∃ (s:ByteArray) (c:Int),l=[.str s,.int .u8 c]∧r = .int .i64 (indexByteF s c)
noncomputable def c81:=famC R81
theorem c81_eq (s:ByteArray) (c:Int):c81 [.str s,.int .u8 c]=some (.int .i64 (indexByteF s c)):=by
 refine famC_eq (fun l r r'=>?_) ⟨s,c,rfl,rfl⟩
 rintro⟨s,c,h,rfl⟩ ⟨s',c',h',rfl⟩
 rw[h] at h'
 simp only[List.cons.injEq,AV.st.injEq,AV.sl.injEq,AV.int.injEq,AV.bool.injEq,AV.str.injEq,AV.ro.injEq,AV.fn.injEq,AV.own.injEq,Fl.mk.injEq,Prod.mk.injEq,Abs.Obj.mk.injEq,mOp_inj,mI_inj,mS_inj,mB_inj,mRel_inj,mStep_inj,mFacts_inj,mU_inj,and_true,true_and,and_assoc] at h'
 obtain⟨rfl,rfl⟩:=h'
 rfl
theorem snd81:Snd 81 c81:=fun l r h=>by
 obtain⟨s,c,rfl,rfl⟩:=famC_R h
 exact⟨⟨f81,h81,rfl,by decide⟩,ret81 s c⟩
theorem h53:Tryz.prog.funcs[53]? = some f53:=by kernel_rfl
theorem run53 (s:ByteArray) (c:Int) (A:Nat→Prop):acall (env 8 19 D0 [(81,c81)] [] A) (fun _=>{ tm:=[],ob:=[] }) (5) f53 [.str s,.int .u8 c]=some (.int .i64 (indexByteF s c)):=by
 simp only[acall,macall,f53]
 simp only[go_sem,simprocAttr,c81_eq]
noncomputable def c53:=famP (α:=ByteArray × Int) (fun _=>True) (fun (s,c)=>[.str s,.int .u8 c]) (fun (s,c)=> .int .i64 (indexByteF s c))
theorem c53_eq (s:ByteArray) (c:Int):c53 [.str s,.int .u8 c]=some (.int .i64 (indexByteF s c)):=fam_eq (fun X Y hp hp' h'=>by
 obtain⟨s,c⟩:=X;obtain⟨s',c'⟩:=Y;simp only[INJ] at h'
 obtain⟨rfl,rfl⟩:=h'
 rfl) (s,c) trivial
theorem snd53:Snd 53 c53:=fam_snd h53 rfl rfl fun (s,c) _=>rc h53 (fun A=>run53 s c A) (fun _=>[]) rfl rfl rfl (by kernel_rfl) ⟨snd81,trivial⟩ trivial
def letterF (y:Int):Bool:=y==95 || (decide (97≤IntKind.i64.wrap (bits2 .or .u8 y 32))&&decide (IntKind.i64.wrap (bits2 .or .u8 y 32)≤122))
def digitF (y:Int):Bool:=decide (48≤IntKind.i64.wrap y)&&decide (IntKind.i64.wrap y≤57)
def badF (i:Nat) (y:Int):Bool:= !letterF y&&(decide (i=0) || !digitF y)
def okFrom:List UInt8→Nat→Bool
 | [],_=>true
 | y::r,i=>if badF i y.toNat=true then false else okFrom r (i+1)
def nameF (s:ByteArray):Bool:=okFrom s.data.toList 0&&(!(s.toList==(⟨#[]⟩:ByteArray).toList)&&decide (s.size≤31))
theorem ba_get (s:ByteArray) (i:Nat) (h:i < s.size):s[i]? = some (s.data.toList[i]'(by simpa using h)):=by
 rw[getElem?_pos s i h];rfl
theorem h85:Tryz.prog.funcs[85]? = some f85:=by kernel_rfl
theorem loop85 (s:ByteArray) (hlim:s.size≤9223372036854775807) (A:Nat→Prop) (k:Nat):∀ (m i:Nat) (σ:St),i+m=s.size→
 σ.keep ({ tm:=[0,3],ob:=[],fin:=some ([0,2],[]) }:Hint)=⟨[(0,.str s),(3,.int .i64 i)],[]⟩→
 post ({ tm:=[0,3],ob:=[],fin:=some ([0,2],[]) }:Hint) (aloop ty (arun (env 42 17179869757 D0 [(52,c52)] [] A) (fun _=>({ tm:=[0,3],ob:=[],fin:=some ([0,2],[]) }:Hint)) k (sub (f85.body.getD .skip) [1,0,1,0,0])) ({ tm:=[0,3],ob:=[],fin:=some ([0,2],[]) }:Hint) (m+1) σ) =
 some (if okFrom (s.data.toList.drop i) i=true then (.exit 0,⟨[(0,.str s)],[]⟩) else (.ret,⟨[(0,.str s),(2,.bool false)],[]⟩)):=by
 simp only[f85,sub,Option.getD_some]
 have hsz:s.size=s.data.toList.length:=by simp
 intro m
 induction m with
 | zero=>
   intro i σ hi hσ
   have h1:¬ ((i:Int) < (s.size:Int)):=by omega
   rw[aloop,hσ]
   simp only[go_sem,simprocAttr,h1]
   rw[List.drop_of_length_le (by omega)]
   simp[post,St.fin,keepL,aget,okFrom]
 | succ m ih=>
   intro i σ hi hσ
   have h1:(i:Int) < (s.size:Int):=by omega
   have hlt:i < s.size:=by omega
   have hget:=ba_get s i hlt
   have hw:IntKind.i64.wrap ((i:Int)+1)=((i+1:Nat):Int):=by rw[wrap_i64 (by omega) (by omega)];omega
   have hd:s.data.toList.drop i=s.data.toList[i]::s.data.toList.drop (i+1):=List.drop_eq_getElem_cons (by omega)
   rw[aloop,hσ,hd]
   generalize s.data.toList[i]=y at *
   have hb:badF i y.toNat=(!letterF y.toNat&&(decide (i=0) || !digitF y.toNat)):=rfl
   have hz:(((i:Nat):Int)==0)=decide (i=0):=by
    by_cases e:i=0
    ·subst e;rfl
    ·simp[e]
   have hz95:(((y.toNat:Nat):Int)==95)=(((y.toNat:Nat):Int)==95):=rfl
   simp only[letterF,digitF] at hb
   generalize hl1:(((y.toNat:Nat):Int)==95)=b1 at *
   generalize hl2:(decide (97≤IntKind.i64.wrap (bits2 .or .u8 y.toNat 32))&&decide (IntKind.i64.wrap (bits2 .or .u8 y.toNat 32)≤122))=b2 at *
   generalize hl3:(decide (48≤IntKind.i64.wrap (y.toNat:Int))&&decide (IntKind.i64.wrap (y.toNat:Int)≤57))=b3 at *
   generalize hl4:decide (i=0)=b4 at *
   cases b1 <;> cases b2 <;> cases b4 <;> cases b3
   all_goals
    simp only[BL] at hb
    simp only[go_sem,simprocAttr,h1,hget,hw,hz,c52_eq,hl1,hl2,hl3,hl4]
    simp only[okFrom,hb,BL]
    first
    | (simp[post,St.fin,keepL,aget];done)
    | exact ih (i+1) _ (by omega) (by simp only[go_sem,simprocAttr])
theorem run85 (s:ByteArray) (hp:s.size≤9223372036854775807) (A:Nat→Prop):acall (env 42 17179869757 D0 [(52,c52)] [] A) (fun _=>({ tm:=[0,3],ob:=[],fin:=some ([0,2],[]) }:Hint)) (s.size+1) f85 [.str s]=some (.bool (nameF s)):=by
 have hl:=loop85 s hp A (s.size+1) s.size 0
 simp only[f85,sub,Option.getD_some,List.drop_zero] at hl
 have hq:decide ((s.size:Int)≤31)=decide (s.size≤31):=by by_cases e:s.size≤31 <;> simp[e] <;> omega
 simp only[nameF]
 simp only[acall,macall,f85]
 simp only[go_sem,simprocAttr,c52_eq]
 rw[hl _ (by simp) (by simp only[go_sem,simprocAttr])]
 cases h:okFrom s.data.toList 0
 ·simp only[go_sem,simprocAttr,c52_eq]
 ·cases h2:(s.toList==(⟨#[]⟩:ByteArray).toList)
  all_goals
   simp only[go_sem,simprocAttr,c52_eq,h2,hq]
noncomputable def c85:=famP (α:=ByteArray) (fun s=>s.size≤9223372036854775807) (fun s=>[.str s]) (fun s=> .bool (nameF s))
theorem c85_eq (s:ByteArray) (hp:s.size≤9223372036854775807):c85 [.str s]=some (.bool (nameF s)):=fam_eq (fun s s' hp hp' h'=>by
 simp only[INJ] at h'
 obtain rfl:=h'
 rfl) (s) hp
theorem snd85:Snd 85 c85:=fam_snd h85 rfl rfl fun s hp=>rc h85 (fun A=>run85 s hp A) (fun _=>[]) rfl rfl rfl (by kernel_rfl) ⟨snd52,trivial⟩ trivial
def relOkF (ops:List XOp) (rels:List XRel) (i:Int):Bool:=
 let r:=rels.getD i.toNat ⟨0,0,⟨#[]⟩,⟨#[]⟩⟩
 if ((!(decide (0≤r.at_)&&decide (r.at_≤(ops.length:Int) - 1)) || (decide (0 < i)&&decide (r.at_≤(rels.getD (i - 1).toNat ⟨0,0,⟨#[]⟩,⟨#[]⟩⟩).at_))) || !nameF r.str)=true then false
 else
  let op:=(ops.getD r.at_.toNat ⟨0,0,0,0,0⟩).op
  if r.kind=1 then op==1&&nameF r.mem
  else if r.kind=2 then op==1&&(r.mem.toList==(⟨#[]⟩:ByteArray).toList)
  else if r.kind=3 then op==26&&nameF r.mem else false
theorem h55:Tryz.prog.funcs[55]? = some f55:=by kernel_rfl
theorem run55 (i:Int) (hp:ops.length≤100000∧rels.length≤100000∧0≤i∧i.toNat < rels.length∧∀ r ∈ rels,r.str.size≤9223372036854775807∧r.mem.size≤9223372036854775807) (A:Nat→Prop):acall (env 78 591452111762056282231 D0 [(52,c52),(85,c85)] [] A) (fun _=>{ tm:=[],ob:=[] }) (5) f55 [(cd ops ints strs rels),.int .i64 i]=some (.bool (relOkF ops rels i)):=by
 obtain⟨hlo,hlr,h0,hlt,hsz⟩:=hp
 have hget:=getD_get (d:=(⟨0,0,⟨#[]⟩,⟨#[]⟩⟩:XRel)) hlt
 have hmem:=List.mem_of_getElem? hget
 have hget1:0 < i→rels[(i - 1).toNat]? = some (rels.getD (i - 1).toNat ⟨0,0,⟨#[]⟩,⟨#[]⟩⟩):=fun h=>getD_get (by omega)
 have hw1:IntKind.i64.wrap ((ops.length:Int) - 1)=(ops.length:Int) - 1:=wrap_i64 (by omega) (by omega)
 have hw2:IntKind.i64.wrap (i - 1)=i - 1:=wrap_i64 (by omega) (by omega)
 simp only[relOkF]
 obtain⟨r,hr⟩:∃ r,rels.getD i.toNat ⟨0,0,⟨#[]⟩,⟨#[]⟩⟩=r:=⟨_,rfl⟩
 obtain⟨r1,hr1⟩:∃ r,rels.getD (i - 1).toNat ⟨0,0,⟨#[]⟩,⟨#[]⟩⟩=r:=⟨_,rfl⟩
 have hs:=hsz _ hmem
 simp only[hr,hr1] at hget hget1 hs ⊢
 have e1:=c85_eq r.str hs.1
 have e2:=c85_eq r.mem hs.2
 have e52:=c52_eq r.at_ 0 ((ops.length:Int) - 1)
 obtain⟨n1,hn1⟩:∃ b,nameF r.str=b:=⟨_,rfl⟩
 obtain⟨n2,hn2⟩:∃ b,nameF r.mem=b:=⟨_,rfl⟩
 obtain⟨b1,hb1⟩:∃ b,(decide (0≤r.at_)&&decide (r.at_≤(ops.length:Int) - 1))=b:=⟨_,rfl⟩
 simp only[hn1,hn2,hb1] at e1 e2 e52 ⊢
 cases b1
 ·simp only[BL]
  simp only[acall,macall,f55]
  simp only[go_sem,simprocAttr,e52,hget,h0,hw1]
 simp only[Bool.and_eq_true,decide_eq_true_eq] at hb1
 have h2:0≤r.at_:=hb1.1
 have hgop:=getD_get (d:=(⟨0,0,0,0,0⟩:XOp)) (show r.at_.toNat < ops.length by omega)
 obtain⟨op,hop⟩:∃ o,ops.getD r.at_.toNat ⟨0,0,0,0,0⟩=o:=⟨_,rfl⟩
 simp only[hop] at hgop ⊢
 have fin:∀ (G:Prop),(n1=true→((0 < i)=True∧decide (r.at_≤r1.at_)=false∨(0 < i)=False)→G)→(n1=false∨((0 < i)=True∧decide (r.at_≤r1.at_)=true)→G)→G:=fun G hA hB=>by
  cases n1
  ·exact hB (.inl rfl)
  ·by_cases hi:0 < i
   ·cases hc:decide (r.at_≤r1.at_)
    ·exact hA rfl (.inl ⟨by simp[hi],hc⟩)
    ·exact hB (.inr ⟨by simp[hi],hc⟩)
   ·exact hA rfl (.inr (by simp[hi]))
 refine fin _ (fun hn hA=>?_) fun hB=>?_
 ·subst hn
  rcases hA with ⟨hi,hc⟩ | hi
  all_goals
   first
   | (have hget2:=hget1 (of_eq_true hi)
      have hi1:0≤i - 1:=by have:=of_eq_true hi;omega
      simp only[hi,hc,BL])
   | simp only[hi,BL]
   by_cases k1:r.kind=1
   ·cases ho:(op.op==1)
    all_goals
     simp only[k1,ho,BL]
     simp only[acall,macall,f55]
     first | (simp only[go_sem,simprocAttr,e52,e1,e2,hget,hgop,h0,h2,hi,hw1,hw2,hget2,hi1,hc,ho,k1];done) | (simp only[go_sem,simprocAttr,e52,e1,e2,hget,hgop,h0,h2,hi,hw1,hw2,ho,k1];done)
   by_cases k2:r.kind=2
   ·cases ho:(op.op==1)
    all_goals
     simp only[k2,ho,BL]
     simp only[acall,macall,f55]
     first | (simp only[go_sem,simprocAttr,e52,e1,e2,hget,hgop,h0,h2,hi,hw1,hw2,hget2,hi1,hc,ho,k2];done) | (simp only[go_sem,simprocAttr,e52,e1,e2,hget,hgop,h0,h2,hi,hw1,hw2,ho,k2];done)
   by_cases k3:r.kind=3
   ·cases ho:(op.op==26)
    all_goals
     simp only[k3,ho,BL]
     simp only[acall,macall,f55]
     first | (simp only[go_sem,simprocAttr,e52,e1,e2,hget,hgop,h0,h2,hi,hw1,hw2,hget2,hi1,hc,ho,k3];done) | (simp only[go_sem,simprocAttr,e52,e1,e2,hget,hgop,h0,h2,hi,hw1,hw2,ho,k3];done)
   ·have q1:(r.kind==1)=false:=by simp[k1]
    have q2:(r.kind==2)=false:=by simp[k2]
    have q3:(r.kind==3)=false:=by simp[k3]
    simp only[k1,k2,k3,BL]
    simp only[acall,macall,f55]
    first | (simp only[go_sem,simprocAttr,e52,e1,e2,hget,hgop,h0,h2,hi,hw1,hw2,hget2,hi1,hc,q1,q2,q3];done) | (simp only[go_sem,simprocAttr,e52,e1,e2,hget,hgop,h0,h2,hi,hw1,hw2,q1,q2,q3];done)
 ·by_cases hi:0 < i
  ·have hget2:=hget1 hi
   have hi1:0≤i - 1:=by omega
   cases hc:decide (r.at_≤r1.at_)
   ·have hn:n1=false:=by
     rcases hB with h | h
     ·exact h
     ·rw[hc] at h;cases h.2
    subst hn
    simp only[hi,hc,BL]
    simp only[acall,macall,f55]
    simp only[go_sem,simprocAttr,e52,e1,e2,hget,hgop,h0,h2,hi,hw1,hw2,hget2,hi1,hc]
   ·simp only[hi,hc,BL]
    simp only[acall,macall,f55]
    simp only[go_sem,simprocAttr,e52,e1,e2,hget,hgop,h0,h2,hi,hw1,hw2,hget2,hi1,hc]
  ·have hn:n1=false:=by
    rcases hB with h | h
    ·exact h
    ·exact absurd (of_eq_true h.1) hi
   subst hn
   simp only[hi,BL]
   simp only[acall,macall,f55]
   simp only[go_sem,simprocAttr,e52,e1,e2,hget,hgop,h0,h2,hi,hw1,hw2]
noncomputable def c55:=famP (α:=(List XOp) × (List Int) × (List ByteArray) × (List XRel) × Int) (fun (ops,ints,strs,rels,i)=>ops.length≤100000∧rels.length≤100000∧0≤i∧i.toNat < rels.length∧∀ r ∈ rels,r.str.size≤9223372036854775807∧r.mem.size≤9223372036854775807) (fun (ops,ints,strs,rels,i)=>[(cd ops ints strs rels),.int .i64 i]) (fun (ops,ints,strs,rels,i)=> .bool (relOkF ops rels i))
theorem c55_eq (i:Int) (hp:ops.length≤100000∧rels.length≤100000∧0≤i∧i.toNat < rels.length∧∀ r ∈ rels,r.str.size≤9223372036854775807∧r.mem.size≤9223372036854775807):c55 [(cd ops ints strs rels),.int .i64 i]=some (.bool (relOkF ops rels i)):=fam_eq (fun X Y hp hp' h'=>by
 obtain⟨ops,ints,strs,rels,i⟩:=X;obtain⟨ops',ints',strs',rels',i'⟩:=Y;simp only[INJ] at h'
 obtain⟨rfl,rfl,rfl,rfl,rfl⟩:=h'
 rfl) (ops,ints,strs,rels,i) hp
theorem snd55:Snd 55 c55:=fam_snd h55 rfl rfl fun (ops,ints,strs,rels,i) hp=>rc h55 (fun A=>run55 ops ints strs rels i hp A) (fun i=>match i with | 2=>[0,1,0,4,12,28,63,127,255,511,1023,2047,4095,8191,4095,20479,65535,131071,262143,4095,528383,2097151,4194303,8388607,16777215,33554431,67108863,134217727,268435455,536870911] | _=>[]) rfl rfl rfl (by kernel_rfl) ⟨snd52,snd85,trivial⟩ trivial
def inF (lo hi n:Int):Bool:=decide (lo≤n)&&decide (n≤hi)
def fitsF (lo li ls:Nat) (q:Int) (o n:Int):Bool:=
 if (o==1)=true then inF 0 ((li:Int) - 1) n else if (o==2)=true then inF 0 ((ls:Int) - 1) n
 else if (o==19)=true then (intOfF n).isSome else if (o==26)=true then (intOfF n).isSome else if (o==27)=true then (intOfF n).isSome
 else if (o==24)=true then inF (q+1) ((lo:Int) - 1) n else if (o==25)=true then inF (q+1) ((lo:Int) - 1) n
 else if (o==28)=true then inF 1 13 n else if (o==29)=true then inF 0 5 n else if (o==39)=true then inF 1 8 n
 else if (formF o).n=true then inF 0 19 n else n==0
theorem h84:Tryz.prog.funcs[84]? = some f84:=by kernel_rfl
theorem run84 (q:Int) (o d a b n:Int) (hp:(ops.length≤100000∧ints.length≤100000∧strs.length≤100000∧rels.length≤100000)∧0≤q∧q≤100000) (A:Nat→Prop):acall (env 77 1185351926623591468399 D0 [(108,c108),(109,c109),(82,c82)] [] A) (fun _=>{ tm:=[],ob:=[] }) (5) f84 [(cd ops ints strs rels),.int .i64 q,.st 80 [.int .i64 o,.int .i64 d,.int .i64 a,.int .i64 b,.int .i64 n]]=some (.bool (fitsF ops.length ints.length strs.length q o n)):=by
 obtain⟨⟨hlo,hli,hls,hlr⟩,h0q,hqq⟩:=hp
 have hwi:IntKind.i64.wrap ((ints.length:Int) - 1)=(ints.length:Int) - 1:=wrap_i64 (by omega) (by omega)
 have hws:IntKind.i64.wrap ((strs.length:Int) - 1)=(strs.length:Int) - 1:=wrap_i64 (by omega) (by omega)
 have hwo:IntKind.i64.wrap ((ops.length:Int) - 1)=(ops.length:Int) - 1:=wrap_i64 (by omega) (by omega)
 have hwq:IntKind.i64.wrap (q+1)=q+1:=wrap_i64 (by omega) (by omega)
 cases h1:(o==1)
 rotate_left
 ·simp only[fitsF,inF,h1,BL]
  simp only[acall,macall,f84]
  simp only[go_sem,simprocAttr,c108_eq,c109_eq,c82_eq,h1,hwi,hws,hwo,hwq,eIntOf]
  try rfl
 cases h2:(o==2)
 rotate_left
 ·simp only[fitsF,inF,h1,h2,BL]
  simp only[acall,macall,f84]
  simp only[go_sem,simprocAttr,c108_eq,c109_eq,c82_eq,h1,h2,hwi,hws,hwo,hwq,eIntOf]
  try rfl
 cases h3:(o==19)
 rotate_left
 ·simp only[fitsF,inF,h1,h2,h3,BL]
  simp only[acall,macall,f84]
  have e109:=c109_eq n
  cases hi:intOfF n with
  | none=>
    rw[hi] at e109
    simp only[go_sem,simprocAttr,c108_eq,e109,c82_eq,h1,h2,h3,hwi,hws,hwo,hwq,eIntOf,hi]
    try rfl
  | some p=>
    obtain⟨p1,p2⟩:=p
    rw[hi] at e109
    simp only[go_sem,simprocAttr,c108_eq,e109,c82_eq,h1,h2,h3,hwi,hws,hwo,hwq,eIntOf,hi]
    try rfl
  try rfl
 cases h4:(o==26)
 rotate_left
 ·simp only[fitsF,inF,h1,h2,h3,h4,BL]
  simp only[acall,macall,f84]
  have e109:=c109_eq n
  cases hi:intOfF n with
  | none=>
    rw[hi] at e109
    simp only[go_sem,simprocAttr,c108_eq,e109,c82_eq,h1,h2,h3,h4,hwi,hws,hwo,hwq,eIntOf,hi]
    try rfl
  | some p=>
    obtain⟨p1,p2⟩:=p
    rw[hi] at e109
    simp only[go_sem,simprocAttr,c108_eq,e109,c82_eq,h1,h2,h3,h4,hwi,hws,hwo,hwq,eIntOf,hi]
    try rfl
  try rfl
 cases h5:(o==27)
 rotate_left
 ·simp only[fitsF,inF,h1,h2,h3,h4,h5,BL]
  simp only[acall,macall,f84]
  have e109:=c109_eq n
  cases hi:intOfF n with
  | none=>
    rw[hi] at e109
    simp only[go_sem,simprocAttr,c108_eq,e109,c82_eq,h1,h2,h3,h4,h5,hwi,hws,hwo,hwq,eIntOf,hi]
    try rfl
  | some p=>
    obtain⟨p1,p2⟩:=p
    rw[hi] at e109
    simp only[go_sem,simprocAttr,c108_eq,e109,c82_eq,h1,h2,h3,h4,h5,hwi,hws,hwo,hwq,eIntOf,hi]
    try rfl
  try rfl
 cases h6:(o==24)
 rotate_left
 ·simp only[fitsF,inF,h1,h2,h3,h4,h5,h6,BL]
  simp only[acall,macall,f84]
  simp only[go_sem,simprocAttr,c108_eq,c109_eq,c82_eq,h1,h2,h3,h4,h5,h6,hwi,hws,hwo,hwq,eIntOf]
  try rfl
 cases h7:(o==25)
 rotate_left
 ·simp only[fitsF,inF,h1,h2,h3,h4,h5,h6,h7,BL]
  simp only[acall,macall,f84]
  simp only[go_sem,simprocAttr,c108_eq,c109_eq,c82_eq,h1,h2,h3,h4,h5,h6,h7,hwi,hws,hwo,hwq,eIntOf]
  try rfl
 cases h8:(o==28)
 rotate_left
 ·simp only[fitsF,inF,h1,h2,h3,h4,h5,h6,h7,h8,BL]
  simp only[acall,macall,f84]
  simp only[go_sem,simprocAttr,c108_eq,c109_eq,c82_eq,h1,h2,h3,h4,h5,h6,h7,h8,hwi,hws,hwo,hwq,eIntOf]
  try rfl
 cases h9:(o==29)
 rotate_left
 ·simp only[fitsF,inF,h1,h2,h3,h4,h5,h6,h7,h8,h9,BL]
  simp only[acall,macall,f84]
  simp only[go_sem,simprocAttr,c108_eq,c109_eq,c82_eq,h1,h2,h3,h4,h5,h6,h7,h8,h9,hwi,hws,hwo,hwq,eIntOf]
  try rfl
 cases h10:(o==39)
 rotate_left
 ·simp only[fitsF,inF,h1,h2,h3,h4,h5,h6,h7,h8,h9,h10,BL]
  simp only[acall,macall,f84]
  simp only[go_sem,simprocAttr,c108_eq,c109_eq,c82_eq,h1,h2,h3,h4,h5,h6,h7,h8,h9,h10,hwi,hws,hwo,hwq,eIntOf]
  try rfl
 cases h11:(formF o).n
 rotate_left
 ·simp only[fitsF,inF,h1,h2,h3,h4,h5,h6,h7,h8,h9,h10,h11,BL]
  simp only[acall,macall,f84]
  simp only[go_sem,simprocAttr,c108_eq,c109_eq,c82_eq,h1,h2,h3,h4,h5,h6,h7,h8,h9,h10,h11,hwi,hws,hwo,hwq,eIntOf]
  try rfl
 simp only[fitsF,inF,h1,h2,h3,h4,h5,h6,h7,h8,h9,h10,h11,BL]
 simp only[acall,macall,f84]
 simp only[go_sem,simprocAttr,c108_eq,c109_eq,c82_eq,h1,h2,h3,h4,h5,h6,h7,h8,h9,h10,h11,hwi,hws,hwo,hwq,eIntOf]
 try rfl
noncomputable def c84:=famP (α:=(List XOp) × (List Int) × (List ByteArray) × (List XRel) × Int × Int × Int × Int × Int × Int) (fun (ops,ints,strs,rels,q,o,d,a,b,n)=>(ops.length≤100000∧ints.length≤100000∧strs.length≤100000∧rels.length≤100000)∧0≤q∧q≤100000) (fun (ops,ints,strs,rels,q,o,d,a,b,n)=>[(cd ops ints strs rels),.int .i64 q,.st 80 [.int .i64 o,.int .i64 d,.int .i64 a,.int .i64 b,.int .i64 n]]) (fun (ops,ints,strs,rels,q,o,d,a,b,n)=> .bool (fitsF ops.length ints.length strs.length q o n))
theorem c84_eq (q:Int) (o d a b n:Int) (hp:(ops.length≤100000∧ints.length≤100000∧strs.length≤100000∧rels.length≤100000)∧0≤q∧q≤100000):c84 [(cd ops ints strs rels),.int .i64 q,.st 80 [.int .i64 o,.int .i64 d,.int .i64 a,.int .i64 b,.int .i64 n]]=some (.bool (fitsF ops.length ints.length strs.length q o n)):=fam_eq (fun X Y hp hp' h'=>by
 obtain⟨ops,ints,strs,rels,q,o,d,a,b,n⟩:=X;obtain⟨ops',ints',strs',rels',q',o',d',a',b',n'⟩:=Y;simp only[INJ] at h'
 obtain⟨rfl,rfl,rfl,rfl,rfl,rfl,rfl,rfl,rfl,rfl⟩:=h'
 rfl) (ops,ints,strs,rels,q,o,d,a,b,n) hp
theorem snd84:Snd 84 c84:=fam_snd h84 rfl rfl fun (ops,ints,strs,rels,q,o,d,a,b,n) hp=>rc h84 (fun A=>run84 ops ints strs rels q o d a b n hp A) (fun _=>[]) rfl rfl rfl (by kernel_rfl) ⟨snd108,snd109,snd82,trivial⟩ trivial
def removedF (ops:List XOp) (ints:List Int) (strs:List ByteArray) (rels:List XRel) (q:Int):XCode:=⟨(ops.eraseIdx q.toNat).map (shOp q),ints,strs,(fltF q rels).map (shRel q)⟩
def reachF (ops:List XOp) (ints:List Int) (strs:List ByteArray) (rels:List XRel) (reached:List Bool) (q:Int):Option XCode:=if reached.getD q.toNat false=true then none else some (removedF ops ints strs rels q)
theorem h93:Tryz.prog.funcs[93]? = some f93:=by kernel_rfl
theorem run93 (before:List (List XFact)) (reached:List Bool) (alive:List Int) (q:Int) (hp:((ops.length≤100000∧ints.length≤100000∧strs.length≤100000∧rels.length≤100000)∧0≤q∧q.toNat < ops.length∧(∀ o ∈ ops,o.n < 9223372036854775808)∧(∀ r ∈ rels,r.at_ < 9223372036854775808))∧q.toNat < reached.length) :∃ r,wk r (eOut (reachF ops ints strs rels reached q))∧∀ A,acall (env 19 4147 D0 [(118,c118)] [] A) (fun _=>{ tm:=[],ob:=[] }) (5) f93 [.ro false 106 (.st 106 [(cd ops ints strs rels),.sl 119 gT (before.map eFacts),.sl 4 gT (reached.map eB),.sl 109 gT (alive.map eU)]),.int .i64 q]=some r:=by
 obtain⟨hp1,hlt⟩:=hp
 have e118:=c118_eq ops ints strs rels before reached alive q hp1
 have hget:=getD_get (d:=false) hlt
 have h0:=hp1.2.1
 simp only[reachF]
 generalize reached.getD q.toNat false=b at *
 cases b
 ·simp only[BL]
  apply wkI
  ·intro A
   simp only[acall,macall,f93]
   simp only[go_sem,simprocAttr,e118,hget,h0]
   try rfl
  ·simp[WK,eOut,eCode,removedF]
 ·simp only[BL]
  apply wkI
  ·intro A
   simp only[acall,macall,f93]
   simp only[go_sem,simprocAttr,hget,h0]
   try rfl
  ·simp[WK,eOut,eCode]
noncomputable def c93:=famP (α:=(List XOp) × (List Int) × (List ByteArray) × (List XRel) × (List (List XFact)) × (List Bool) × (List Int) × Int) (fun (ops,ints,strs,rels,before,reached,alive,q)=>((ops.length≤100000∧ints.length≤100000∧strs.length≤100000∧rels.length≤100000)∧0≤q∧q.toNat < ops.length∧(∀ o ∈ ops,o.n < 9223372036854775808)∧(∀ r ∈ rels,r.at_ < 9223372036854775808))∧q.toNat < reached.length) (fun (ops,ints,strs,rels,before,reached,alive,q)=>[.ro false 106 (.st 106 [(cd ops ints strs rels),.sl 119 gT (before.map eFacts),.sl 4 gT (reached.map eB),.sl 109 gT (alive.map eU)]),.int .i64 q]) (fun (ops,ints,strs,rels,before,reached,alive,q)=>eOut (reachF ops ints strs rels reached q))
theorem c93_eq (before:List (List XFact)) (reached:List Bool) (alive:List Int) (q:Int) (hp:((ops.length≤100000∧ints.length≤100000∧strs.length≤100000∧rels.length≤100000)∧0≤q∧q.toNat < ops.length∧(∀ o ∈ ops,o.n < 9223372036854775808)∧(∀ r ∈ rels,r.at_ < 9223372036854775808))∧q.toNat < reached.length):c93 [.ro false 106 (.st 106 [(cd ops ints strs rels),.sl 119 gT (before.map eFacts),.sl 4 gT (reached.map eB),.sl 109 gT (alive.map eU)]),.int .i64 q]=some (eOut (reachF ops ints strs rels reached q)):=fam_eq (fun X Y hp hp' h'=>by
 obtain⟨ops,ints,strs,rels,before,reached,alive,q⟩:=X;obtain⟨ops',ints',strs',rels',before',reached',alive',q'⟩:=Y;simp only[INJ] at h'
 obtain⟨rfl,rfl,rfl,rfl,rfl,rfl,rfl,rfl⟩:=h'
 rfl) (ops,ints,strs,rels,before,reached,alive,q) hp
theorem snd93:Snd 93 c93:=fam_snd h93 rfl rfl fun (ops,ints,strs,rels,before,reached,alive,q) hp=>let ⟨_,hw,hr⟩:=run93 ops ints strs rels before reached alive q hp;(rc h93 hr (fun _=>[]) rfl rfl rfl (by kernel_rfl) ⟨snd118,trivial⟩ trivial).weak hw
def threadF (ops:List XOp) (ints:List Int) (strs:List ByteArray) (rels:List XRel) (q:Int):Option XCode:=
 let o:=ops.getD q.toNat op0
 let t:=ops.getD o.n.toNat op0
 if (o.op==24 || o.op==25)=true then
  if (t.op==24)=true then some ⟨ops.set q.toNat ⟨o.op,o.d,o.a,o.b,t.n⟩,ints,strs,rels⟩
  else if (o.op==24&&o.n==q+1)=true then some (removedF ops ints strs rels q) else none
 else none
theorem h92:Tryz.prog.funcs[92]? = some f92:=by kernel_rfl
def D92:Nat→Option (List DH × List Nat):=fun i=>match i with | 4=>some ([⟨[7],[],[7]⟩,⟨[7],[],[7]⟩,⟨[7],[],[7]⟩,⟨[7],[],[7]⟩,⟨[7],[],[7]⟩,⟨[7],[],[7]⟩,⟨[7],[],[7]⟩,⟨[7],[],[7]⟩,⟨[7],[],[7]⟩,⟨[],[7],[]⟩,⟨[],[],[]⟩],[7]) | _=>none
theorem D92_4:D92 4=some ([⟨[7],[],[7]⟩,⟨[7],[],[7]⟩,⟨[7],[],[7]⟩,⟨[7],[],[7]⟩,⟨[7],[],[7]⟩,⟨[7],[],[7]⟩,⟨[7],[],[7]⟩,⟨[7],[],[7]⟩,⟨[7],[],[7]⟩,⟨[],[7],[]⟩,⟨[],[],[]⟩],[7]):=rfl
theorem run92 (before:List (List XFact)) (reached:List Bool) (alive:List Int) (q:Int) (hp:((ops.length≤100000∧ints.length≤100000∧strs.length≤100000∧rels.length≤100000)∧0≤q∧q.toNat < ops.length∧(∀ o ∈ ops,o.n < 9223372036854775808)∧(∀ r ∈ rels,r.at_ < 9223372036854775808))∧(∀ o ∈ ops,(o.op==24 || o.op==25)=true→0≤o.n∧o.n.toNat < ops.length)) :∃ r,wk r (eOut (threadF ops ints strs rels q))∧∀ A,acall (env 62 36028865746829555 D92 [(112,c112),(118,c118)] [] A) (fun _=>{ tm:=[],ob:=[] }) (5) f92 [.ro false 106 (.st 106 [(cd ops ints strs rels),.sl 119 gT (before.map eFacts),.sl 4 gT (reached.map eB),.sl 109 gT (alive.map eU)]),.int .i64 q]=some r:=by
 obtain⟨hp1,hj⟩:=hp
 have hlim:=hp1.1
 have h0:=hp1.2.1
 have hlt:=hp1.2.2.1
 have hwq:IntKind.i64.wrap (q+1)=q+1:=wrap_i64 (by omega) (by omega)
 have e118:=c118_eq ops ints strs rels before reached alive q hp1
 have hget:=getD_get (d:=op0) hlt
 have hmem:ops.getD q.toNat op0 ∈ ops:=List.mem_of_getElem? hget
 simp only[threadF]
 have hjx:=hj _ hmem
 generalize ops.getD q.toNat op0=x at *
 cases h1:(x.op==24) <;> cases h2:(x.op==25)
 ·simp only[BL]
  apply wkI
  ·intro A
   simp only[acall,macall,f92]
   simp only[go_sem,simprocAttr,D92_4,hget,h0,h1,h2]
   try rfl
  ·simp[WK,eOut,eCode]
 all_goals
  simp only[h1,h2,forall_const,BL] at hjx
  obtain⟨hj0,hj1⟩:=hjx
  have hget2:=getD_get (d:=op0) hj1
  simp only[BL]
  generalize ops.getD x.n.toNat op0=t at *
  have e112:=c112_eq ops ints strs rels before reached alive q x.op x.d x.a x.b t.n ⟨hlim,h0,hlt⟩
  cases h3:(t.op==24)
  ·simp only[BL]
   first
   | (cases h4:(x.n==q+1)
      ·simp only[BL]
       apply wkI
       ·intro A
        simp only[acall,macall,f92]
        simp only[go_sem,simprocAttr,D92_4,hget,hget2,h0,hj0,h1,h2,h3,h4,hwq]
        try rfl
       ·simp[WK,eOut,eCode]
      ·simp only[BL]
       apply wkI
       ·intro A
        simp only[acall,macall,f92]
        simp only[go_sem,simprocAttr,D92_4,hget,hget2,h0,hj0,h1,h2,h3,h4,hwq,e118]
        try rfl
       ·simp[WK,eOut,eCode,removedF])
   | (
      apply wkI
      ·intro A
       simp only[acall,macall,f92]
       simp only[go_sem,simprocAttr,D92_4,hget,hget2,h0,hj0,h1,h2,h3]
       try rfl
      ·simp[WK,eOut,eCode])
  ·simp only[BL]
   apply wkI
   ·intro A
    simp only[acall,macall,f92]
    simp only[go_sem,simprocAttr,D92_4,hget,hget2,h0,hj0,h1,h2,h3,e112]
    try rfl
   ·simp[WK,eOut,eCode]
noncomputable def c92:=famP (α:=(List XOp) × (List Int) × (List ByteArray) × (List XRel) × (List (List XFact)) × (List Bool) × (List Int) × Int) (fun (ops,ints,strs,rels,before,reached,alive,q)=>((ops.length≤100000∧ints.length≤100000∧strs.length≤100000∧rels.length≤100000)∧0≤q∧q.toNat < ops.length∧(∀ o ∈ ops,o.n < 9223372036854775808)∧(∀ r ∈ rels,r.at_ < 9223372036854775808))∧(∀ o ∈ ops,(o.op==24 || o.op==25)=true→0≤o.n∧o.n.toNat < ops.length)) (fun (ops,ints,strs,rels,before,reached,alive,q)=>[.ro false 106 (.st 106 [(cd ops ints strs rels),.sl 119 gT (before.map eFacts),.sl 4 gT (reached.map eB),.sl 109 gT (alive.map eU)]),.int .i64 q]) (fun (ops,ints,strs,rels,before,reached,alive,q)=>eOut (threadF ops ints strs rels q))
theorem c92_eq (before:List (List XFact)) (reached:List Bool) (alive:List Int) (q:Int) (hp:((ops.length≤100000∧ints.length≤100000∧strs.length≤100000∧rels.length≤100000)∧0≤q∧q.toNat < ops.length∧(∀ o ∈ ops,o.n < 9223372036854775808)∧(∀ r ∈ rels,r.at_ < 9223372036854775808))∧(∀ o ∈ ops,(o.op==24 || o.op==25)=true→0≤o.n∧o.n.toNat < ops.length)):c92 [.ro false 106 (.st 106 [(cd ops ints strs rels),.sl 119 gT (before.map eFacts),.sl 4 gT (reached.map eB),.sl 109 gT (alive.map eU)]),.int .i64 q]=some (eOut (threadF ops ints strs rels q)):=fam_eq (fun X Y hp hp' h'=>by
 obtain⟨ops,ints,strs,rels,before,reached,alive,q⟩:=X;obtain⟨ops',ints',strs',rels',before',reached',alive',q'⟩:=Y;simp only[INJ] at h'
 obtain⟨rfl,rfl,rfl,rfl,rfl,rfl,rfl,rfl⟩:=h'
 rfl) (ops,ints,strs,rels,before,reached,alive,q) hp
theorem snd92:Snd 92 c92:=fam_snd h92 rfl rfl fun (ops,ints,strs,rels,before,reached,alive,q) hp=>let ⟨_,hw,hr⟩:=run92 ops ints strs rels before reached alive q hp;(rc h92 hr (fun i=>match i with | 4=>[0,1,3,7,15,0,32,127,255,0,1023] | _=>[]) rfl rfl rfl (by kernel_rfl) ⟨snd112,snd118,trivial⟩ trivial).weak hw
def unusedF (ops:List XOp) (alive:List Int) (q:Int):Bool:=
 let o:=ops.getD q.toNat op0
 pureF o.op&&(decide (q+1 < (ops.length:Int))&& !(hasF (alive.getD (q+1).toNat 0) o.d))
def deadF (ops:List XOp) (ints:List Int) (strs:List ByteArray) (rels:List XRel) (alive:List Int) (q:Int):Option XCode:=
 let o:=ops.getD q.toNat op0
 if (!(unusedF ops alive q)&&(!(o.op==3) || !(o.d==o.a)))=true then none else some (removedF ops ints strs rels q)
theorem h91:Tryz.prog.funcs[91]? = some f91:=by kernel_rfl
theorem run91 (before:List (List XFact)) (reached:List Bool) (alive:List Int) (q:Int) (hp:((ops.length≤100000∧ints.length≤100000∧strs.length≤100000∧rels.length≤100000)∧0≤q∧q.toNat < ops.length∧(∀ o ∈ ops,o.n < 9223372036854775808)∧(∀ r ∈ rels,r.at_ < 9223372036854775808))∧alive.length=ops.length∧∀ o ∈ ops,0≤o.d) :∃ r,wk r (eOut (deadF ops ints strs rels alive q))∧∀ A,acall (env 63 72057594037928179 D0 [(117,c117),(48,c48),(118,c118)] [] A) (fun _=>{ tm:=[],ob:=[] }) (5) f91 [.ro false 106 (.st 106 [(cd ops ints strs rels),.sl 119 gT (before.map eFacts),.sl 4 gT (reached.map eB),.sl 109 gT (alive.map eU)]),.int .i64 q]=some r:=by
 obtain⟨hp1,hj⟩:=hp
 have hlim:=hp1.1
 have h0:=hp1.2.1
 have hlt:=hp1.2.2.1
 have hwq:IntKind.i64.wrap (q+1)=q+1:=wrap_i64 (by omega) (by omega)
 have e118:=c118_eq ops ints strs rels before reached alive q hp1
 have hget:=getD_get (d:=op0) hlt
 obtain⟨hal,hd⟩:=hj
 have hmem:ops.getD q.toNat op0 ∈ ops:=List.mem_of_getElem? hget
 have hdx:=hd _ hmem
 have h01:0≤q+1:=by omega
 have hget2:q+1 < (ops.length:Int)→alive[(q+1).toNat]? = some (alive.getD (q+1).toNat 0):=fun h=>getD_get (by omega)
 simp only[deadF,unusedF]
 obtain⟨x,hx⟩:∃ x,ops.getD q.toNat op0=x:=⟨_,rfl⟩
 obtain⟨s,hs0⟩:∃ s,alive.getD (q+1).toNat 0=s:=⟨_,rfl⟩
 simp only[hx,hs0] at hmem hdx hget hget2 ⊢
 have e48:=c48_eq s x.d hdx
 have e117:=c117_eq x.op x.d x.a x.b x.n
 obtain⟨hs,hs1⟩:∃ hs,hasF s x.d=hs:=⟨_,rfl⟩
 obtain⟨pu,pu1⟩:∃ pu,pureF x.op=pu:=⟨_,rfl⟩
 simp only[hs1,pu1] at e48 e117 ⊢
 cases pu <;> cases h2:decide (q+1 < (ops.length:Int)) <;> cases hs
 all_goals
  simp only[decide_eq_true_eq,decide_eq_false_iff_not] at h2
  simp only[BL]
  first
  | (have hget3:=hget2 h2
     apply wkI
     ·intro A
      simp only[acall,macall,f91]
      simp only[go_sem,simprocAttr,e48,e117,e118,hget,hget3,h2,h0,h01,hwq]
      try rfl
     ·simp[WK,eOut,eCode,removedF]
     done)
  | (cases h4:(x.op==3) <;> cases h5:(x.d==x.a)
     all_goals
      simp only[BL]
      first
      | (
         apply wkI
         ·intro A
          simp only[acall,macall,f91]
          simp only[go_sem,simprocAttr,e117,hget,h2,h4,h5,h0,h01,hwq]
          try rfl
         ·simp[WK,eOut,eCode]
         done)
      | (
         apply wkI
         ·intro A
          simp only[acall,macall,f91]
          simp only[go_sem,simprocAttr,e117,e118,hget,h2,h4,h5,h0,h01,hwq]
          try rfl
         ·simp[WK,eOut,eCode,removedF]
         done)
      | (have hget3:=hget2 h2
         apply wkI
         ·intro A
          simp only[acall,macall,f91]
          simp only[go_sem,simprocAttr,e48,e117,hget,hget3,h2,h4,h5,h0,h01,hwq]
          try rfl
         ·simp[WK,eOut,eCode]
         done)
      | (have hget3:=hget2 h2
         apply wkI
         ·intro A
          simp only[acall,macall,f91]
          simp only[go_sem,simprocAttr,e48,e117,e118,hget,hget3,h2,h4,h5,h0,h01,hwq]
          try rfl
         ·simp[WK,eOut,eCode,removedF]
         done))
noncomputable def c91:=famP (α:=(List XOp) × (List Int) × (List ByteArray) × (List XRel) × (List (List XFact)) × (List Bool) × (List Int) × Int) (fun (ops,ints,strs,rels,before,reached,alive,q)=>((ops.length≤100000∧ints.length≤100000∧strs.length≤100000∧rels.length≤100000)∧0≤q∧q.toNat < ops.length∧(∀ o ∈ ops,o.n < 9223372036854775808)∧(∀ r ∈ rels,r.at_ < 9223372036854775808))∧alive.length=ops.length∧∀ o ∈ ops,0≤o.d) (fun (ops,ints,strs,rels,before,reached,alive,q)=>[.ro false 106 (.st 106 [(cd ops ints strs rels),.sl 119 gT (before.map eFacts),.sl 4 gT (reached.map eB),.sl 109 gT (alive.map eU)]),.int .i64 q]) (fun (ops,ints,strs,rels,before,reached,alive,q)=>eOut (deadF ops ints strs rels alive q))
theorem c91_eq (before:List (List XFact)) (reached:List Bool) (alive:List Int) (q:Int) (hp:((ops.length≤100000∧ints.length≤100000∧strs.length≤100000∧rels.length≤100000)∧0≤q∧q.toNat < ops.length∧(∀ o ∈ ops,o.n < 9223372036854775808)∧(∀ r ∈ rels,r.at_ < 9223372036854775808))∧alive.length=ops.length∧∀ o ∈ ops,0≤o.d):c91 [.ro false 106 (.st 106 [(cd ops ints strs rels),.sl 119 gT (before.map eFacts),.sl 4 gT (reached.map eB),.sl 109 gT (alive.map eU)]),.int .i64 q]=some (eOut (deadF ops ints strs rels alive q)):=fam_eq (fun X Y hp hp' h'=>by
 obtain⟨ops,ints,strs,rels,before,reached,alive,q⟩:=X;obtain⟨ops',ints',strs',rels',before',reached',alive',q'⟩:=Y;simp only[INJ] at h'
 obtain⟨rfl,rfl,rfl,rfl,rfl,rfl,rfl,rfl⟩:=h'
 rfl) (ops,ints,strs,rels,before,reached,alive,q) hp
theorem snd91:Snd 91 c91:=fam_snd h91 rfl rfl fun (ops,ints,strs,rels,before,reached,alive,q) hp=>let ⟨_,hw,hr⟩:=run91 ops ints strs rels before reached alive q hp;(rc h91 hr (fun i=>match i with | 2=>[0,1,3,7,15,7,39,103,231,487,999,2047,4095,8191,16383,32767,65535,131071,16383,278527,1048575,2097151,16383,4210687,16777215,33554431,67108863,134217727] | _=>[]) rfl rfl rfl (by kernel_rfl) ⟨snd117,snd48,snd118,trivial⟩ trivial).weak hw
def regF (has:Bool) (n:Int):Bool:=(has&&(decide (0≤n)&&decide (n≤7))) || (!has&&n==0)
theorem regF_eq (has:Bool) (n:Int):((has&&(decide (0≤n)&&decide (n≤7))) || (!has&&n==0))=regF has n:=rfl
def rightF (ops:List XOp) (li ls:Nat) (q:Int):Bool:=
 let o:=ops.getD q.toNat op0
 if (!((formF o.op).name.toList==(⟨#[]⟩:ByteArray).toList))=true then
  (if regF (formF o.op).d o.d=true then (if regF (formF o.op).a o.a=true then (if regF (formF o.op).b o.b=true then fitsF ops.length li ls q o.op o.n else false) else false) else false) else false
theorem h54:Tryz.prog.funcs[54]? = some f54:=by kernel_rfl
theorem run54 (q:Int) (hp:(ops.length≤100000∧ints.length≤100000∧strs.length≤100000∧rels.length≤100000)∧0≤q∧q.toNat < ops.length) (A:Nat→Prop):acall (env 49 247 D0 [(82,c82),(83,c83),(84,c84)] [] A) (fun _=>{ tm:=[],ob:=[] }) (5) f54 [(cd ops ints strs rels),.int .i64 q]=some (.bool (rightF ops ints.length strs.length q)):=by
 obtain⟨hl,h0,hlt⟩:=hp
 have hget:=getD_get (d:=op0) hlt
 simp only[rightF]
 obtain⟨x,hx⟩:∃ x,ops.getD q.toNat op0=x:=⟨_,rfl⟩
 simp only[hx] at hget ⊢
 have e82:=c82_eq x.op
 have e83d:=c83_eq (formF x.op).d x.d
 have e83a:=c83_eq (formF x.op).a x.a
 have e83b:=c83_eq (formF x.op).b x.b
 have e84:=c84_eq ops ints strs rels q x.op x.d x.a x.b x.n ⟨hl,h0,by omega⟩
 rw[regF_eq] at e83d e83a e83b
 generalize regF (formF x.op).d x.d=r1 at *
 generalize regF (formF x.op).a x.a=r2 at *
 generalize regF (formF x.op).b x.b=r3 at *
 generalize fitsF ops.length ints.length strs.length q x.op x.n=r4 at *
 cases h1:((formF x.op).name.toList==(⟨#[]⟩:ByteArray).toList) <;> cases r1 <;> cases r2 <;> cases r3
 all_goals
  simp only[BL]
  simp only[acall,macall,f54]
  simp only[go_sem,simprocAttr,h1,e82,e83d,e83a,e83b,e84,hget,h0]
  try rfl
noncomputable def c54:=famP (α:=(List XOp) × (List Int) × (List ByteArray) × (List XRel) × Int) (fun (ops,ints,strs,rels,q)=>(ops.length≤100000∧ints.length≤100000∧strs.length≤100000∧rels.length≤100000)∧0≤q∧q.toNat < ops.length) (fun (ops,ints,strs,rels,q)=>[(cd ops ints strs rels),.int .i64 q]) (fun (ops,ints,strs,rels,q)=> .bool (rightF ops ints.length strs.length q))
theorem c54_eq (q:Int) (hp:(ops.length≤100000∧ints.length≤100000∧strs.length≤100000∧rels.length≤100000)∧0≤q∧q.toNat < ops.length):c54 [(cd ops ints strs rels),.int .i64 q]=some (.bool (rightF ops ints.length strs.length q)):=fam_eq (fun X Y hp hp' h'=>by
 obtain⟨ops,ints,strs,rels,q⟩:=X;obtain⟨ops',ints',strs',rels',q'⟩:=Y;simp only[INJ] at h'
 obtain⟨rfl,rfl,rfl,rfl,rfl⟩:=h'
 rfl) (ops,ints,strs,rels,q) hp
theorem snd54:Snd 54 c54:=fam_snd h54 rfl rfl fun (ops,ints,strs,rels,q) hp=>rc h54 (fun A=>run54 ops ints strs rels q hp A) (fun _=>[]) rfl rfl rfl (by kernel_rfl) ⟨snd82,snd83,snd84,trivial⟩ trivial
def allF (p:Nat→Bool):Nat→Nat→Bool
 | _,0=>true
 | i,m+1=>p i&&allF p (i+1) m
def strOkF (s:ByteArray):Bool:=if (decide (64 < (s.size:Int)))=true then false else !(decide (0≤indexByteF s 0))
def checkF (ops:List XOp) (ints:List Int) (strs:List ByteArray) (rels:List XRel):Bool:=
 if (decide (1≤(ops.length:Int))&&decide ((ops.length:Int)≤500))=true then
  (if decide (200 < (ints.length:Int))=true then false else if decide (200 < (strs.length:Int))=true then false else if decide (500 < (rels.length:Int))=true then false
   else if (!((ops.getD (ops.length - 1) op0).op==40))=true then false
   else if allF (fun i=>strOkF (strs.getD i ⟨#[]⟩)) 0 strs.length=true then (if allF (fun i=>rightF ops ints.length strs.length i) 0 ops.length=true then allF (fun i=>relOkF ops rels i) 0 rels.length else false) else false)
 else false
def errF (b:Bool):Int:=if b=true then 0 else 150
theorem h33:Tryz.prog.funcs[33]? = some f33:=by kernel_rfl
def H33:Nat→Hint:=fun i=>if i=5 then ({ tm:=[1,43,44,45],ob:=[1],fin:=some ([1,2],[1]) }:Hint) else if i=11 then ({ tm:=[1,60,61],ob:=[1],fin:=some ([1,2],[1]) }:Hint) else if i=17 then ({ tm:=[1,71,72],ob:=[1],fin:=some ([1,2],[1]) }:Hint) else { tm:=[],ob:=[] }
theorem H33_5:H33 5=({ tm:=[1,43,44,45],ob:=[1],fin:=some ([1,2],[1]) }:Hint):=by simp[H33]
theorem H33_11:H33 11=({ tm:=[1,60,61],ob:=[1],fin:=some ([1,2],[1]) }:Hint):=by simp[H33]
theorem H33_17:H33 17=({ tm:=[1,71,72],ob:=[1],fin:=some ([1,2],[1]) }:Hint):=by simp[H33]
theorem loop33_5 (hl:ops.length≤100000∧ints.length≤100000∧strs.length≤100000∧rels.length≤100000) (p:Nat→Bool) (hpp:∀ i,i < strs.length→p i=strOkF (strs.getD i ⟨#[]⟩)) (A:Nat→Prop) (k:Nat):∀ (m i:Nat) (σ:St),i+m=strs.length→
 σ.keep (H33 5)=⟨[(1,.ptr 1 (.box 27) []),(43,.sl 9 gF (strs.map eS)),(44,.int .i64 strs.length),(45,.int .i64 i)],[(1,⟨.box 27,false,[(cd ops ints strs rels)]⟩)]⟩→
 post (H33 5) (aloop ty (arun (env 80 318915454188557432783087 D0 [(52,c52),(53,c53),(54,c54),(55,c55)] [] A) H33 k (sub (f33.body.getD .skip) [1,1,1,0,1,0,0])) (H33 5) (m+1) σ) =
 some (if allF p i m=true then (.exit 0,⟨[(1,.ptr 1 (.box 27) [])],[(1,⟨.box 27,false,[(cd ops ints strs rels)]⟩)]⟩) else (.ret,⟨[(1,.ptr 1 (.box 27) []),(2,.int .i64 150)],[(1,⟨.box 27,false,[(cd ops ints strs rels)]⟩)]⟩)):=by
 simp only[f33,sub,Option.getD_some,H33_5]
 intro m
 induction m with
 | zero=>
   intro i σ hi hσ
   have h1:¬ ((i:Int) < ((strs.length:Nat):Int)):=by omega
   rw[aloop,hσ]
   simp only[go_sem,simprocAttr,h1]
   simp[post,St.fin,keepL,aget,allF]
 | succ m ih=>
   intro i σ hi hσ
   have h1:(i:Int) < ((strs.length:Nat):Int):=by omega
   have hlt:i < strs.length:=by omega
   have hw:IntKind.i64.wrap ((i:Int)+1)=((i+1:Nat):Int):=wrap_nat (by omega)
   have hget:=getD_get (d:=(⟨#[]⟩:ByteArray)) hlt
   have hpi:=hpp i hlt
   have hni:(0:Int)≤(i:Int):=Int.natCast_nonneg i
   generalize strs.getD i ⟨#[]⟩=s at *
   have e53:=c53_eq s 0
   simp only[strOkF] at hpi
   generalize indexByteF s 0=ix at *
   generalize hd1:decide (64 < (s.size:Int))=b1 at *
   generalize hd2:decide (0≤ix)=b2 at *
   rw[aloop,hσ]
   cases hq:p i
   all_goals
    rw[hq] at hpi
    cases b1 <;> cases b2
   all_goals first | (simp at hpi;done) | skip
   all_goals
    simp only[go_sem,simprocAttr,c52_eq,c54_eq,c55_eq,h1,hni,hget,hw,e53,hd1,hd2]
    simp only[allF,hq,BL]
    first
    | (simp[post,St.fin,keepL,aget];done)
    | exact ih (i+1) _ (by omega) (by simp only[go_sem,simprocAttr])
theorem loop33_11 (hl:ops.length≤100000∧ints.length≤100000∧strs.length≤100000∧rels.length≤100000) (p:Nat→Bool) (hpp:∀ i,i < ops.length→p i=rightF ops ints.length strs.length i) (A:Nat→Prop) (k:Nat):∀ (m i:Nat) (σ:St),i+m=ops.length→
 σ.keep (H33 11)=⟨[(1,.ptr 1 (.box 27) []),(60,.int .i64 ops.length),(61,.int .i64 i)],[(1,⟨.box 27,false,[(cd ops ints strs rels)]⟩)]⟩→
 post (H33 11) (aloop ty (arun (env 80 318915454188557432783087 D0 [(52,c52),(53,c53),(54,c54),(55,c55)] [] A) H33 k (sub (f33.body.getD .skip) [1,1,1,1,0,1,0,0])) (H33 11) (m+1) σ) =
 some (if allF p i m=true then (.exit 2,⟨[(1,.ptr 1 (.box 27) [])],[(1,⟨.box 27,false,[(cd ops ints strs rels)]⟩)]⟩) else (.ret,⟨[(1,.ptr 1 (.box 27) []),(2,.int .i64 150)],[(1,⟨.box 27,false,[(cd ops ints strs rels)]⟩)]⟩)):=by
 simp only[f33,sub,Option.getD_some,H33_11]
 intro m
 induction m with
 | zero=>
   intro i σ hi hσ
   have h1:¬ ((i:Int) < ((ops.length:Nat):Int)):=by omega
   rw[aloop,hσ]
   simp only[go_sem,simprocAttr,h1]
   simp[post,St.fin,keepL,aget,allF]
 | succ m ih=>
   intro i σ hi hσ
   have h1:(i:Int) < ((ops.length:Nat):Int):=by omega
   have hlt:i < ops.length:=by omega
   have hw:IntKind.i64.wrap ((i:Int)+1)=((i+1:Nat):Int):=wrap_nat (by omega)
   have hpi:=hpp i hlt
   have e54:=c54_eq ops ints strs rels i ⟨hl,Int.natCast_nonneg i,by simpa using hlt⟩
   rw[← hpi] at e54
   rw[aloop,hσ]
   cases hq:p i
   all_goals
    rw[hq] at e54
    skip
   all_goals
    simp only[go_sem,simprocAttr,c52_eq,c53_eq,c55_eq,h1,hw,e54]
    simp only[allF,hq,BL]
    first
    | (simp[post,St.fin,keepL,aget];done)
    | exact ih (i+1) _ (by omega) (by simp only[go_sem,simprocAttr])
theorem loop33_17 (hl:ops.length≤100000∧ints.length≤100000∧strs.length≤100000∧rels.length≤100000) (hs:∀ r ∈ rels,r.str.size≤9223372036854775807∧r.mem.size≤9223372036854775807) (p:Nat→Bool) (hpp:∀ i,i < rels.length→p i=relOkF ops rels i) (A:Nat→Prop) (k:Nat):∀ (m i:Nat) (σ:St),i+m=rels.length→
 σ.keep (H33 17)=⟨[(1,.ptr 1 (.box 27) []),(71,.int .i64 rels.length),(72,.int .i64 i)],[(1,⟨.box 27,false,[(cd ops ints strs rels)]⟩)]⟩→
 post (H33 17) (aloop ty (arun (env 80 318915454188557432783087 D0 [(52,c52),(53,c53),(54,c54),(55,c55)] [] A) H33 k (sub (f33.body.getD .skip) [1,1,1,1,1,0,1,0,0])) (H33 17) (m+1) σ) =
 some (if allF p i m=true then (.exit 4,⟨[(1,.ptr 1 (.box 27) [])],[(1,⟨.box 27,false,[(cd ops ints strs rels)]⟩)]⟩) else (.ret,⟨[(1,.ptr 1 (.box 27) []),(2,.int .i64 150)],[(1,⟨.box 27,false,[(cd ops ints strs rels)]⟩)]⟩)):=by
 simp only[f33,sub,Option.getD_some,H33_17]
 intro m
 induction m with
 | zero=>
   intro i σ hi hσ
   have h1:¬ ((i:Int) < ((rels.length:Nat):Int)):=by omega
   rw[aloop,hσ]
   simp only[go_sem,simprocAttr,h1]
   simp[post,St.fin,keepL,aget,allF]
 | succ m ih=>
   intro i σ hi hσ
   have h1:(i:Int) < ((rels.length:Nat):Int):=by omega
   have hlt:i < rels.length:=by omega
   have hw:IntKind.i64.wrap ((i:Int)+1)=((i+1:Nat):Int):=wrap_nat (by omega)
   have hpi:=hpp i hlt
   have e55:=c55_eq ops ints strs rels i ⟨hl.1,hl.2.2.2,Int.natCast_nonneg i,by simpa using hlt,hs⟩
   rw[← hpi] at e55
   rw[aloop,hσ]
   cases hq:p i
   all_goals
    rw[hq] at e55
    skip
   all_goals
    simp only[go_sem,simprocAttr,c52_eq,c53_eq,c54_eq,h1,hw,e55]
    simp only[allF,hq,BL]
    first
    | (simp[post,St.fin,keepL,aget];done)
    | exact ih (i+1) _ (by omega) (by simp only[go_sem,simprocAttr])
theorem run33 (hp:(ops.length≤100000∧ints.length≤100000∧strs.length≤100000∧rels.length≤100000)∧∀ r ∈ rels,r.str.size≤9223372036854775807∧r.mem.size≤9223372036854775807) (A:Nat→Prop):acall (env 80 318915454188557432783087 D0 [(52,c52),(53,c53),(54,c54),(55,c55)] [] A) (H33) (100010) f33 [(cd ops ints strs rels)]=some (.int .i64 (errF (checkF ops ints strs rels))):=by
 obtain⟨hl,hs⟩:=hp
 have hl5:=loop33_5 ops ints strs rels hl (fun i=>strOkF (strs.getD i ⟨#[]⟩)) (fun _ _=>rfl) A 100010 strs.length 0
 have hl11:=loop33_11 ops ints strs rels hl (fun i=>rightF ops ints.length strs.length i) (fun _ _=>rfl) A 100010 ops.length 0
 have hl17:=loop33_17 ops ints strs rels hl hs (fun i=>relOkF ops rels i) (fun _ _=>rfl) A 100010 rels.length 0
 simp only[f33,sub,Option.getD_some,H33_5,H33_11,H33_17] at hl5 hl11 hl17
 have e52:=c52_eq (ops.length:Int) 1 500
 have hwl:IntKind.i64.wrap ((ops.length:Int) - 1)=(ops.length:Int) - 1:=wrap_i64 (by omega) (by omega)
 simp only[checkF]
 generalize hq5:allF (fun i=>strOkF (strs.getD i ⟨#[]⟩)) 0 strs.length=a1 at *
 generalize hq11:allF (fun i=>rightF ops ints.length strs.length i) 0 ops.length=a2 at *
 generalize hq17:allF (fun i=>relOkF ops rels i) 0 rels.length=a3 at *
 have hpos:(decide (1≤(ops.length:Int))&&decide ((ops.length:Int)≤500))=true→1≤ops.length:=fun h=>by simp at h;omega
 generalize (decide (1≤(ops.length:Int))&&decide ((ops.length:Int)≤500))=b0 at *
 cases b0
 ·have h0:=trivial
  have hget:=trivial
  simp only[errF,BL]
  simp only[acall,macall,f33]
  simp only[go_sem,simprocAttr,c53_eq,c54_eq,c55_eq,e52,d1,d2,d3,d4,hwl,h0,hget,H33_5,H33_11,H33_17]
  try rfl
 have hpo:=hpos rfl
 have h0:0≤(ops.length:Int) - 1:=by omega
 have hget:=getD_get (d:=op0) (show ops.length - 1 < ops.length by omega)
 have hnat:((ops.length:Int) - 1).toNat=ops.length - 1:=by omega
 rw[← hnat] at hget
 rw[← hnat]
 generalize ops.getD ((ops.length:Int) - 1).toNat op0=x at *
 cases d1:decide (200 < (ints.length:Int))
 rotate_left
 ·simp only[errF,BL]
  simp only[acall,macall,f33]
  simp only[go_sem,simprocAttr,c53_eq,c54_eq,c55_eq,e52,d1,d2,d3,d4,hwl,h0,hget,H33_5,H33_11,H33_17]
  try rfl
 cases d2:decide (200 < (strs.length:Int))
 rotate_left
 ·simp only[errF,BL]
  simp only[acall,macall,f33]
  simp only[go_sem,simprocAttr,c53_eq,c54_eq,c55_eq,e52,d1,d2,d3,d4,hwl,h0,hget,H33_5,H33_11,H33_17]
  try rfl
 cases d3:decide (500 < (rels.length:Int))
 rotate_left
 ·simp only[errF,BL]
  simp only[acall,macall,f33]
  simp only[go_sem,simprocAttr,c53_eq,c54_eq,c55_eq,e52,d1,d2,d3,d4,hwl,h0,hget,H33_5,H33_11,H33_17]
  try rfl
 cases d4:(x.op==40)
 ·simp only[errF,BL]
  simp only[acall,macall,f33]
  simp only[go_sem,simprocAttr,c53_eq,c54_eq,c55_eq,e52,d1,d2,d3,d4,hwl,h0,hget,H33_5,H33_11,H33_17]
  try rfl
 simp only[acall,macall,f33]
 simp only[go_sem,simprocAttr,c53_eq,c54_eq,c55_eq,e52,d1,d2,d3,d4,hwl,h0,hget,H33_5,H33_11,H33_17]
 rw[post_le (hl5 _ (by simp) (by simp only[go_sem,simprocAttr])) (by omega)]
 cases a1
 ·simp only[go_sem,simprocAttr,c53_eq,c54_eq,c55_eq,e52,d1,d2,d3,d4,hwl,h0,hget,H33_5,H33_11,H33_17]
  simp only[errF,BL]
  try rfl
 simp only[go_sem,simprocAttr,c53_eq,c54_eq,c55_eq,e52,d1,d2,d3,d4,hwl,h0,hget,H33_5,H33_11,H33_17]
 rw[post_le (hl11 _ (by simp) (by simp only[go_sem,simprocAttr])) (by omega)]
 cases a2
 ·simp only[go_sem,simprocAttr,c53_eq,c54_eq,c55_eq,e52,d1,d2,d3,d4,hwl,h0,hget,H33_5,H33_11,H33_17]
  simp only[errF,BL]
  try rfl
 simp only[go_sem,simprocAttr,c53_eq,c54_eq,c55_eq,e52,d1,d2,d3,d4,hwl,h0,hget,H33_5,H33_11,H33_17]
 rw[post_le (hl17 _ (by simp) (by simp only[go_sem,simprocAttr])) (by omega)]
 cases a3
 ·simp only[go_sem,simprocAttr,c53_eq,c54_eq,c55_eq,e52,d1,d2,d3,d4,hwl,h0,hget,H33_5,H33_11,H33_17]
  simp only[errF,BL]
  try rfl
 simp only[go_sem,simprocAttr,c53_eq,c54_eq,c55_eq,e52,d1,d2,d3,d4,hwl,h0,hget,H33_5,H33_11,H33_17]
 simp only[errF,BL]
 try rfl
noncomputable def c33:=famP (α:=(List XOp) × (List Int) × (List ByteArray) × (List XRel)) (fun (ops,ints,strs,rels)=>(ops.length≤100000∧ints.length≤100000∧strs.length≤100000∧rels.length≤100000)∧∀ r ∈ rels,r.str.size≤9223372036854775807∧r.mem.size≤9223372036854775807) (fun (ops,ints,strs,rels)=>[(cd ops ints strs rels)]) (fun (ops,ints,strs,rels)=> .int .i64 (errF (checkF ops ints strs rels)))
theorem c33_eq (hp:(ops.length≤100000∧ints.length≤100000∧strs.length≤100000∧rels.length≤100000)∧∀ r ∈ rels,r.str.size≤9223372036854775807∧r.mem.size≤9223372036854775807):c33 [(cd ops ints strs rels)]=some (.int .i64 (errF (checkF ops ints strs rels))):=fam_eq (fun X Y hp hp' h'=>by
 obtain⟨ops,ints,strs,rels⟩:=X;obtain⟨ops',ints',strs',rels'⟩:=Y;simp only[INJ] at h'
 obtain⟨rfl,rfl,rfl,rfl⟩:=h'
 rfl) (ops,ints,strs,rels) hp
theorem snd33:Snd 33 c33:=fam_snd h33 rfl rfl fun (ops,ints,strs,rels) hp=>rc h33 (fun A=>run33 ops ints strs rels hp A) (fun _=>[]) rfl rfl rfl (by kernel_rfl) ⟨snd52,snd53,snd54,snd55,trivial⟩ trivial
def nextF (ops:List XOp) (q:Int):List Int:=
 let o:=ops.getD q.toNat op0
 if (o.op==40)=true then [] else if (o.op==24)=true then [o.n] else if (o.op==25)=true then (if (o.n==q+1)=true then [q+1] else [q+1,o.n]) else [q+1]
def nextEF (ok:Bool) (ops:List XOp) (q:Int):List Int × Int:=if ok=true then (if (decide (0≤q)&&decide (q≤(ops.length:Int) - 1))=true then (nextF ops q,0) else ([],1)) else ([],150)
theorem map2 (a b:Int):[a,b].map eI=[.int .i64 a,.int .i64 b]:=rfl
theorem map1 (a:Int):[a].map eI=[.int .i64 a]:=rfl
theorem map0:([]:List Int).map eI=[]:=rfl
theorem h88:Tryz.prog.funcs[88]? = some f88:=by kernel_rfl
theorem run88 (q:Int) (hp:(ops.length≤100000∧ints.length≤100000∧strs.length≤100000∧rels.length≤100000)∧∀ r ∈ rels,r.str.size≤9223372036854775807∧r.mem.size≤9223372036854775807) :∃ r,wk r (.tup [.sl 3 gT ((nextEF (checkF ops ints strs rels) ops q).1.map eI),.int .i64 (nextEF (checkF ops ints strs rels) ops q).2])∧∀ A,acall (env 51 9094593775863 D0 [(33,c33),(52,c52)] [] A) (fun _=>{ tm:=[],ob:=[] }) (5) f88 [(cd ops ints strs rels),.int .i64 q]=some r:=by
 have hl:=hp.1
 have e33:=c33_eq ops ints strs rels hp
 have e52:=c52_eq q 0 ((ops.length:Int) - 1)
 have hwl:IntKind.i64.wrap ((ops.length:Int) - 1)=(ops.length:Int) - 1:=wrap_i64 (by omega) (by omega)
 simp only[nextEF]
 generalize checkF ops ints strs rels=ok at *
 cases ok
 ·simp only[errF,BL] at e33 ⊢
  apply wkI
  ·intro A
   simp only[acall,macall,f88]
   simp only[go_sem,simprocAttr,e33,e52,hwl]
   try rfl
  ·simp[WK,eOut,eCode,map0,map1,map2,eI]
 simp only[errF,BL] at e33 ⊢
 have hb:(decide (0≤q)&&decide (q≤(ops.length:Int) - 1))=true→0≤q∧q.toNat < ops.length:=fun h=>by simp at h;omega
 generalize (decide (0≤q)&&decide (q≤(ops.length:Int) - 1))=b at *
 cases b
 ·simp only[BL]
  apply wkI
  ·intro A
   simp only[acall,macall,f88]
   simp only[go_sem,simprocAttr,e33,e52,hwl]
   try rfl
  ·simp[WK,eOut,eCode,map0,map1,map2,eI]
 obtain⟨h0,hlt⟩:=hb rfl
 have hwq:IntKind.i64.wrap (q+1)=q+1:=wrap_i64 (by omega) (by omega)
 have hget:=getD_get (d:=op0) hlt
 simp only[nextF,BL]
 generalize ops.getD q.toNat op0=x at *
 cases h40:(x.op==40)
 rotate_left
 ·simp only[BL]
  apply wkI
  ·intro A
   simp only[acall,macall,f88]
   simp only[go_sem,simprocAttr,e33,e52,hwl,hget,h0,h40]
   try rfl
  ·simp[WK,eOut,eCode,map0,map1,map2,eI]
 cases h24:(x.op==24)
 rotate_left
 ·simp only[BL]
  apply wkI
  ·intro A
   simp only[acall,macall,f88]
   simp only[go_sem,simprocAttr,e33,e52,hwl,hget,h0,h40,h24]
   try rfl
  ·simp[WK,eOut,eCode,map0,map1,map2,eI]
 cases h25:(x.op==25)
 ·simp only[BL]
  apply wkI
  ·intro A
   simp only[acall,macall,f88]
   simp only[go_sem,simprocAttr,e33,e52,hwl,hget,h0,hwq,h40,h24,h25]
   try rfl
  ·simp[WK,eOut,eCode,map0,map1,map2,eI]
 cases hn:(x.n==q+1)
 all_goals
  simp only[BL]
  apply wkI
  ·intro A
   simp only[acall,macall,f88]
   simp only[go_sem,simprocAttr,e33,e52,hwl,hget,h0,hwq,h40,h24,h25,hn]
   try rfl
  ·simp[WK,eOut,eCode,map0,map1,map2,eI]
noncomputable def c88:=famP (α:=(List XOp) × (List Int) × (List ByteArray) × (List XRel) × Int) (fun (ops,ints,strs,rels,q)=>(ops.length≤100000∧ints.length≤100000∧strs.length≤100000∧rels.length≤100000)∧∀ r ∈ rels,r.str.size≤9223372036854775807∧r.mem.size≤9223372036854775807) (fun (ops,ints,strs,rels,q)=>[(cd ops ints strs rels),.int .i64 q]) (fun (ops,ints,strs,rels,q)=> .tup [.sl 3 gT ((nextEF (checkF ops ints strs rels) ops q).1.map eI),.int .i64 (nextEF (checkF ops ints strs rels) ops q).2])
theorem c88_eq (q:Int) (hp:(ops.length≤100000∧ints.length≤100000∧strs.length≤100000∧rels.length≤100000)∧∀ r ∈ rels,r.str.size≤9223372036854775807∧r.mem.size≤9223372036854775807):c88 [(cd ops ints strs rels),.int .i64 q]=some (.tup [.sl 3 gT ((nextEF (checkF ops ints strs rels) ops q).1.map eI),.int .i64 (nextEF (checkF ops ints strs rels) ops q).2]):=fam_eq (fun X Y hp hp' h'=>by
 obtain⟨ops,ints,strs,rels,q⟩:=X;obtain⟨ops',ints',strs',rels',q'⟩:=Y;simp only[INJ] at h'
 obtain⟨rfl,rfl,rfl,rfl,rfl⟩:=h'
 rfl) (ops,ints,strs,rels,q) hp
theorem snd88:Snd 88 c88:=fam_snd h88 rfl rfl fun (ops,ints,strs,rels,q) hp=>let ⟨_,hw,hr⟩:=run88 ops ints strs rels q hp;(rc h88 hr (fun _=>[]) rfl rfl rfl (by kernel_rfl) ⟨snd33,snd52,trivial⟩ trivial).weak hw
theorem h57:Tryz.prog.funcs[57]? = some f57:=by kernel_rfl
theorem run57 (q:Int) (hp:(ops.length≤100000∧ints.length≤100000∧strs.length≤100000∧rels.length≤100000)∧∀ r ∈ rels,r.str.size≤9223372036854775807∧r.mem.size≤9223372036854775807) (A:Nat→Prop):acall (env 14 55 D0 [(88,c88)] [] A) (fun _=>{ tm:=[],ob:=[] }) (5) f57 [(cd ops ints strs rels),.int .i64 q]=some (.sl 3 gT ((nextEF (checkF ops ints strs rels) ops q).1.map eI)):=by
 have e88:=c88_eq ops ints strs rels q hp
 simp only[acall,macall,f57]
 simp only[go_sem,simprocAttr,e88]
noncomputable def c57:=famP (α:=(List XOp) × (List Int) × (List ByteArray) × (List XRel) × Int) (fun (ops,ints,strs,rels,q)=>(ops.length≤100000∧ints.length≤100000∧strs.length≤100000∧rels.length≤100000)∧∀ r ∈ rels,r.str.size≤9223372036854775807∧r.mem.size≤9223372036854775807) (fun (ops,ints,strs,rels,q)=>[(cd ops ints strs rels),.int .i64 q]) (fun (ops,ints,strs,rels,q)=> .sl 3 gT ((nextEF (checkF ops ints strs rels) ops q).1.map eI))
theorem c57_eq (q:Int) (hp:(ops.length≤100000∧ints.length≤100000∧strs.length≤100000∧rels.length≤100000)∧∀ r ∈ rels,r.str.size≤9223372036854775807∧r.mem.size≤9223372036854775807):c57 [(cd ops ints strs rels),.int .i64 q]=some (.sl 3 gT ((nextEF (checkF ops ints strs rels) ops q).1.map eI)):=fam_eq (fun X Y hp hp' h'=>by
 obtain⟨ops,ints,strs,rels,q⟩:=X;obtain⟨ops',ints',strs',rels',q'⟩:=Y;simp only[INJ] at h'
 obtain⟨rfl,rfl,rfl,rfl,rfl⟩:=h'
 rfl) (ops,ints,strs,rels,q) hp
theorem snd57:Snd 57 c57:=fam_snd h57 rfl rfl fun (ops,ints,strs,rels,q) hp=>rc h57 (fun A=>run57 ops ints strs rels q hp A) (fun _=>[]) rfl rfl rfl (by kernel_rfl) ⟨snd88,trivial⟩ trivial
def clrF (d:Int) (x:XFact):XFact:=if (x.sort==2&&x.n==d)=true then ⟨0,0⟩ else x
def behindF (ops:List XOp) (ints:List Int) (rels:List XRel) (f:List XFact) (q:Int):List XFact:=
 let o:=ops.getD q.toNat op0
 if (formF o.op).d=true then
  let a:=f.getD o.a.toNat ⟨0,0⟩
  let f2:=(f.map (clrF o.d)).set o.d.toNat ⟨0,0⟩
  let r:=rels.any fun r=>r.at_==q
  if (o.op==1)=true then (if r=true then f2 else f2.set o.d.toNat ⟨1,ints.getD o.n.toNat 0⟩)
  else if (o.op==3)=true then f2.set o.d.toNat ⟨(movedF a.sort a.n o.d o.a).1,(movedF a.sort a.n o.d o.a).2⟩
  else if (o.op==19)=true then f2.set o.d.toNat ⟨3,o.n⟩ else if (o.op==27)=true then f2.set o.d.toNat ⟨3,o.n⟩
  else if (o.op==26)=true then (if r=true then f2 else f2.set o.d.toNat ⟨3,o.n⟩)
  else if (o.op==20)=true then f2.set o.d.toNat ⟨3,8⟩ else if (o.op==21)=true then f2.set o.d.toNat ⟨3,8⟩ else if (o.op==22)=true then f2.set o.d.toNat ⟨3,8⟩
  else if (o.op==23)=true then f2.set o.d.toNat ⟨3,-8⟩ else f2
 else f
def midF (d:Int) (f:List XFact) (i:Nat):List XFact:=(f.take i).map (clrF d)++f.drop i
theorem midF_get (d:Int) (f:List XFact) (i:Nat) (h:i < f.length):(midF d f i)[i]? = some (f[i]'h):=by
 simp[midF,h,List.getElem?_append,Nat.min_eq_left (Nat.le_of_lt h)]
theorem midF_step (d:Int) (f:List XFact) (i:Nat) (h:i < f.length):(midF d f i).set i (clrF d (f[i]'h))=midF d f (i+1):=by
 have e1:f.drop i=f[i]'h::f.drop (i+1):=List.drop_eq_getElem_cons h
 have e2:f.take (i+1)=f.take i++[f[i]'h]:=by rw[List.take_add_one,List.getElem?_eq_getElem h];rfl
 unfold midF
 rw[e1,e2,List.set_append_right _ _ (by simp;omega)]
 have:i - ((f.take i).map (clrF d)).length=0:=by simp;omega
 rw[this,List.set_cons_zero,List.map_append,List.append_assoc]
 rfl
theorem midF_same (d:Int) (f:List XFact) (i:Nat) (h:i < f.length) (hs:clrF d (f[i]'h)=f[i]'h):midF d f i=midF d f (i+1):=by
 rw[← midF_step d f i h,hs]
 apply List.ext_getElem?
 intro j
 rw[List.getElem?_set]
 by_cases hj:i=j
 ·subst hj
  rw[midF_get d f i h]
  have:i < (midF d f i).length:=(List.getElem?_eq_some_iff.1 (midF_get d f i h)).1
  simp[this]
 ·simp[hj]
theorem midF_end (d:Int) (f:List XFact) (i:Nat) (h:f.length≤i):midF d f i=f.map (clrF d):=by
 unfold midF;rw[List.take_of_length_le h,List.drop_of_length_le h,List.append_nil]
theorem h56:Tryz.prog.funcs[56]? = some f56:=by kernel_rfl
def H56:Nat→Hint:=fun i=>if i=8 then ({ tm:=[0,1,4,5,6,7,9,38],ob:=[4,5,6,9],fin:=some ([0,1,4,5,6,7,9],[4,5,6,9]) }:Hint) else { tm:=[],ob:=[] }
theorem H56_8:H56 8=({ tm:=[0,1,4,5,6,7,9,38],ob:=[4,5,6,9],fin:=some ([0,1,4,5,6,7,9],[4,5,6,9]) }:Hint):=by simp[H56]
theorem loop56 (W:AV) (q d:Int) (f:List XFact) (hf:f.length=8) (o4 o6 o9:Abs.Obj) (A:Nat→Prop) (k:Nat):∀ (m i:Nat) (σ:St),i+m=8→
 σ.keep (H56 8)=⟨[(0,W),(1,.int .i64 q),(4,.ptr 4 (.box 119) []),(5,.ptr 5 (.box 119) []),(6,.ptr 6 (.box 80) []),(7,.int .i64 d),(9,.ptr 9 (.box 117) []),(38,.int .i64 i)],[(4,o4),(5,⟨.box 119,true,[eFacts (midF d f (i))]⟩),(6,o6),(9,o9)]⟩→
 post (H56 8) (aloop ty (arun (env 121 41867983908900975976407270120490995 D0 [(58,c58),(86,c86),(87,c87)] [] A) H56 k (sub (f56.body.getD .skip) [1,1,1,1,1,1,0,1,0,0])) (H56 8) (m+1) σ)=some (.exit 0,⟨[(0,W),(1,.int .i64 q),(4,.ptr 4 (.box 119) []),(5,.ptr 5 (.box 119) []),(6,.ptr 6 (.box 80) []),(7,.int .i64 d),(9,.ptr 9 (.box 117) [])],[(4,o4),(5,⟨.box 119,true,[eFacts (midF d f (8))]⟩),(6,o6),(9,o9)]⟩):=by
 simp only[f56,sub,Option.getD_some,H56_8]
 intro m
 induction m with
 | zero=>
   intro i σ hi hσ
   have h1:¬ ((i:Int) < 8):=by omega
   have h8:midF d f i=midF d f 8:=by rw[show i=8 by omega]
   rw[aloop,hσ]
   simp only[go_sem,simprocAttr,h1]
   simp[post,St.fin,keepL,aget,h8]
 | succ m ih=>
   intro i σ hi hσ
   have h1:(i:Int) < 8:=by omega
   have hlt:i < f.length:=by omega
   have h1c:(i:Int) < (8:Int):=by omega
   have hni:(0:Int)≤(i:Int):=Int.natCast_nonneg i
   have hw:IntKind.i64.wrap ((i:Int)+1)=((i+1:Nat):Int):=wrap_nat (by omega)
   have hget:=midF_get d f i hlt
   have hst:=midF_step d f i hlt
   have hsm:=midF_same d f i hlt
   have hset:=set_map eFact (midF d f i) i ⟨0,0⟩
   rw[aloop,hσ]
   generalize f[i]=x at *
   simp only[clrF] at hst hsm
   simp only[eFact] at hset
   cases hg:(x.sort==2&&x.n==d)
   all_goals
    rw[hg] at hst hsm
    simp only[forall_const,BL] at hst hsm
    simp only[go_sem,simprocAttr,c58_eq,c86_eq,c87_eq,h1,h1c,hni,hget,hw,hg,eFacts,eFact,hset]
    exact ih (i+1) _ (by omega) (by simp only[go_sem,simprocAttr,hst,← hsm,eFacts])
theorem run56 (before:List (List XFact)) (reached:List Bool) (alive:List Int) (fb:Bool) (q:Int) (hp:rels.length≤100000∧0≤q∧q.toNat < ops.length∧q.toNat < before.length∧(before.getD q.toNat []).length=8∧(let o:=ops.getD q.toNat op0;(0≤o.a∧o.a.toNat < 8)∧(0≤o.d∧o.d.toNat < 8)∧((o.op==1)=true→0≤o.n∧o.n.toNat < ints.length))) (A:Nat→Prop):acall (env 121 41867983908900975976407270120490995 D0 [(58,c58),(86,c86),(87,c87)] [] A) (H56) (10) f56 [.ro false 106 (.st 106 [(cd ops ints strs rels),.sl 119 ⟨fb,none,false⟩ (before.map eFacts),.sl 4 ⟨fb,none,false⟩ (reached.map eB),.sl 109 ⟨fb,none,false⟩ (alive.map eU)]),.int .i64 q]=some (eFacts (behindF ops ints rels (before.getD q.toNat []) q)):=by
 obtain⟨hlr,h0,hlt,hbl,hf8,⟨ha0,ha1⟩,⟨hd0,hd1⟩,hn⟩:=hp
 have hget:=getD_get (d:=op0) hlt
 have hgb:=getD_get (d:=[]) hbl
 have e86:=c86_eq ops ints strs rels q hlr
 simp only[behindF]
 generalize ops.getD q.toNat op0=x at *
 generalize before.getD q.toNat []=f at *
 have e58:=c58_eq x.op x.d x.a x.b x.n
 have ha1c:x.a < (8:Int):=by omega
 have hd1c:x.d < (8:Int):=by omega
 have hga:=getD_get (d:=(⟨0,0⟩:XFact)) (show x.a.toNat < f.length by omega)
 have hga8:x.a.toNat < 8:=ha1
 obtain⟨a,ha⟩:∃ a,f.getD x.a.toNat ⟨0,0⟩=a:=⟨_,rfl⟩
 have e87:=c87_eq a.sort a.n x.d x.a
 obtain⟨r,hr⟩:∃ r,(rels.any fun r=>r.at_==q)=r:=⟨_,rfl⟩
 obtain⟨mv,hmv⟩:∃ mv,movedF a.sort a.n x.d x.a=mv:=⟨_,rfl⟩
 simp only[ha,hr,hmv] at hga e86 e87 ⊢
 cases hd:(formF x.op).d
 ·rw[hd] at e58
  simp only[BL] at e58 ⊢
  simp only[acall,macall,f56]
  simp only[go_sem,simprocAttr,hd,e58,hget,hgb,h0,eFacts]
  try rfl
 rw[hd] at e58
 simp only[BL] at e58 ⊢
 have hz:=set_map eFact ((f.map (clrF x.d))) x.d.toNat ⟨0,0⟩
 have hfl:((f.map (clrF x.d)).set x.d.toNat ⟨0,0⟩).length=8:=by simp[hf8]
 have hzl:(f.map (clrF x.d)).length=8:=by simp[hf8]
 have hme:=midF_end x.d f 8 (by omega)
 have hgd:(f.map (clrF x.d))[x.d.toNat]? = some ((f.map (clrF x.d)).getD x.d.toNat ⟨0,0⟩):=getD_get (by omega)
 have hm0:midF x.d f 0=f:=rfl
 simp only[acall,macall,f56]
 simp only[go_sem,simprocAttr,hd,H56_8,ha1c,hd1c,hf8,eFact,e58,e86,e87,hget,hgb,hga,h0,ha0,eFacts]
 have hl:=loop56 (.ro false 106 (.st 106 [(cd ops ints strs rels),.sl 119 ⟨fb,none,false⟩ (before.map eFacts),.sl 4 ⟨fb,none,false⟩ (reached.map eB),.sl 109 ⟨fb,none,false⟩ (alive.map eU)])) q x.d f hf8 ⟨.box 119,true,[.ar 119 [.st 117 [.int .i64 0,.int .i64 0],.st 117 [.int .i64 0,.int .i64 0],.st 117 [.int .i64 0,.int .i64 0],.st 117 [.int .i64 0,.int .i64 0],.st 117 [.int .i64 0,.int .i64 0],.st 117 [.int .i64 0,.int .i64 0],.st 117 [.int .i64 0,.int .i64 0],.st 117 [.int .i64 0,.int .i64 0]]]⟩ ⟨.box 80,true,[.st 80 [.int .i64 x.op,.int .i64 x.d,.int .i64 x.a,.int .i64 x.b,.int .i64 x.n]]⟩ ⟨.box 117,true,[.st 117 [.int .i64 a.sort,.int .i64 a.n]]⟩ A 10 8 0
 simp only[f56,sub,Option.getD_some,H56_8] at hl
 rw[post_le (hl _ (by simp) (by simp only[go_sem,simprocAttr,hm0,eFacts,eFact])) (by omega)]
 rw[hme]
 have hgd2:((f.map (clrF x.d)).set x.d.toNat ⟨0,0⟩)[x.d.toNat]? = some (((f.map (clrF x.d)).set x.d.toNat ⟨0,0⟩).getD x.d.toNat ⟨0,0⟩):=getD_get (by omega)
 have hset:∀ s n:Int,(((f.map (clrF x.d)).set x.d.toNat ⟨0,0⟩).map eFact).set x.d.toNat (.st 117 [.int .i64 s,.int .i64 n])=(((f.map (clrF x.d)).set x.d.toNat ⟨0,0⟩).set x.d.toNat ⟨s,n⟩).map eFact:=fun s n=>set_map eFact _ _ ⟨s,n⟩
 simp only[eFact] at hz
 cases h1:(x.op==1)
 rotate_left
 ·obtain⟨hn0,hn1⟩:=hn h1
  have hgn:=getD_get (d:=0) hn1
  cases r
  all_goals
   simp only[h1,BL]
   simp only[go_sem,simprocAttr,h1,hn0,hgn,hd,ha1c,hd1c,e58,e86,e87,hget,hgb,hga,h0,ha0,ha1,hd0,hd1,hz,eFacts,eFact,hset,hgd,hgd2,hzl,hfl]
   try rfl
 cases h3:(x.op==3)
 rotate_left
 ·simp only[h1,h3,BL]
  simp only[go_sem,simprocAttr,h1,h3,hd,ha1c,hd1c,e58,e86,e87,hget,hgb,hga,h0,ha0,ha1,hd0,hd1,hz,eFacts,eFact,hset,hgd,hgd2,hzl,hfl]
  try rfl
 cases h19:(x.op==19)
 rotate_left
 ·simp only[h1,h3,h19,BL]
  simp only[go_sem,simprocAttr,h1,h3,h19,hd,ha1c,hd1c,e58,e86,e87,hget,hgb,hga,h0,ha0,ha1,hd0,hd1,hz,eFacts,eFact,hset,hgd,hgd2,hzl,hfl]
  try rfl
 cases h27:(x.op==27)
 rotate_left
 ·simp only[h1,h3,h19,h27,BL]
  simp only[go_sem,simprocAttr,h1,h3,h19,h27,hd,ha1c,hd1c,e58,e86,e87,hget,hgb,hga,h0,ha0,ha1,hd0,hd1,hz,eFacts,eFact,hset,hgd,hgd2,hzl,hfl]
  try rfl
 cases h26:(x.op==26)
 rotate_left
 ·cases r
  all_goals
   simp only[h1,h3,h19,h27,h26,BL]
   simp only[go_sem,simprocAttr,h1,h3,h19,h27,h26,hd,ha1c,hd1c,e58,e86,e87,hget,hgb,hga,h0,ha0,ha1,hd0,hd1,hz,eFacts,eFact,hset,hgd,hgd2,hzl,hfl]
   try rfl
 cases h20:(x.op==20)
 rotate_left
 ·simp only[h1,h3,h19,h27,h26,h20,BL]
  simp only[go_sem,simprocAttr,h1,h3,h19,h27,h26,h20,hd,ha1c,hd1c,e58,e86,e87,hget,hgb,hga,h0,ha0,ha1,hd0,hd1,hz,eFacts,eFact,hset,hgd,hgd2,hzl,hfl]
  try rfl
 cases h21:(x.op==21)
 rotate_left
 ·simp only[h1,h3,h19,h27,h26,h20,h21,BL]
  simp only[go_sem,simprocAttr,h1,h3,h19,h27,h26,h20,h21,hd,ha1c,hd1c,e58,e86,e87,hget,hgb,hga,h0,ha0,ha1,hd0,hd1,hz,eFacts,eFact,hset,hgd,hgd2,hzl,hfl]
  try rfl
 cases h22:(x.op==22)
 rotate_left
 ·simp only[h1,h3,h19,h27,h26,h20,h21,h22,BL]
  simp only[go_sem,simprocAttr,h1,h3,h19,h27,h26,h20,h21,h22,hd,ha1c,hd1c,e58,e86,e87,hget,hgb,hga,h0,ha0,ha1,hd0,hd1,hz,eFacts,eFact,hset,hgd,hgd2,hzl,hfl]
  try rfl
 cases h23:(x.op==23)
 rotate_left
 ·simp only[h1,h3,h19,h27,h26,h20,h21,h22,h23,BL]
  simp only[go_sem,simprocAttr,h1,h3,h19,h27,h26,h20,h21,h22,h23,hd,ha1c,hd1c,e58,e86,e87,hget,hgb,hga,h0,ha0,ha1,hd0,hd1,hz,eFacts,eFact,hset,hgd,hgd2,hzl,hfl]
  try rfl
 simp only[h1,h3,h19,h27,h26,h20,h21,h22,h23,BL]
 simp only[go_sem,simprocAttr,h1,h3,h19,h27,h26,h20,h21,h22,h23,hd,ha1c,hd1c,e58,e86,e87,hget,hgb,hga,h0,ha0,ha1,hd0,hd1,hz,eFacts,eFact,hset,hgd,hgd2,hzl,hfl]
 try rfl
noncomputable def c56:=famP (α:=(List XOp) × (List Int) × (List ByteArray) × (List XRel) × (List (List XFact)) × (List Bool) × (List Int) × Bool × Int) (fun (ops,ints,strs,rels,before,reached,alive,fb,q)=>rels.length≤100000∧0≤q∧q.toNat < ops.length∧q.toNat < before.length∧(before.getD q.toNat []).length=8∧(let o:=ops.getD q.toNat op0;(0≤o.a∧o.a.toNat < 8)∧(0≤o.d∧o.d.toNat < 8)∧((o.op==1)=true→0≤o.n∧o.n.toNat < ints.length))) (fun (ops,ints,strs,rels,before,reached,alive,fb,q)=>[.ro false 106 (.st 106 [(cd ops ints strs rels),.sl 119 ⟨fb,none,false⟩ (before.map eFacts),.sl 4 ⟨fb,none,false⟩ (reached.map eB),.sl 109 ⟨fb,none,false⟩ (alive.map eU)]),.int .i64 q]) (fun (ops,ints,strs,rels,before,reached,alive,fb,q)=>eFacts (behindF ops ints rels (before.getD q.toNat []) q))
theorem c56_eq (before:List (List XFact)) (reached:List Bool) (alive:List Int) (fb:Bool) (q:Int) (hp:rels.length≤100000∧0≤q∧q.toNat < ops.length∧q.toNat < before.length∧(before.getD q.toNat []).length=8∧(let o:=ops.getD q.toNat op0;(0≤o.a∧o.a.toNat < 8)∧(0≤o.d∧o.d.toNat < 8)∧((o.op==1)=true→0≤o.n∧o.n.toNat < ints.length))):c56 [.ro false 106 (.st 106 [(cd ops ints strs rels),.sl 119 ⟨fb,none,false⟩ (before.map eFacts),.sl 4 ⟨fb,none,false⟩ (reached.map eB),.sl 109 ⟨fb,none,false⟩ (alive.map eU)]),.int .i64 q]=some (eFacts (behindF ops ints rels (before.getD q.toNat []) q)):=fam_eq (fun X Y hp hp' h'=>by
 obtain⟨ops,ints,strs,rels,before,reached,alive,fb,q⟩:=X;obtain⟨ops',ints',strs',rels',before',reached',alive',fb',q'⟩:=Y;simp only[INJ] at h'
 obtain⟨rfl,rfl,rfl,rfl,rfl,rfl,_,rfl,_,rfl,rfl⟩:=h'
 rfl) (ops,ints,strs,rels,before,reached,alive,fb,q) hp
theorem snd56:Snd 56 c56:=fam_snd h56 rfl rfl fun (ops,ints,strs,rels,before,reached,alive,fb,q) hp=>rc h56 (fun A=>run56 ops ints strs rels before reached alive fb q hp A) (fun i=>match i with | 17=>[0,0,2,6,14,30,0,64,254,510,1022,2047,4095] | _=>[]) rfl rfl rfl (by kernel_rfl) ⟨snd58,snd86,snd87,trivial⟩ trivial
theorem allF_get (p:Nat→Bool):∀ (m i:Nat),allF p i m=true→∀ j,i≤j→j < i+m→p j=true
 | 0,i,_,j,h1,h2=>by omega
 | m+1,i,h,j,h1,h2=>by
   simp only[allF,Bool.and_eq_true] at h
   by_cases hj:j=i
   ·subst hj;exact h.1
   ·exact allF_get p m (i+1) h.2 j (by omega) (by omega)
structure Good (ops:List XOp) (li ls:Nat) (rels:List XRel):Prop where
 pos:0 < ops.length
 len:ops.length≤500
 right:∀ i,i < ops.length→rightF ops li ls i=true
 last:((ops.getD (ops.length - 1) op0).op==40)=true
 rel:∀ i,i < rels.length→relOkF ops rels i=true
theorem check_good {ops:List XOp} {ints:List Int} {strs:List ByteArray} {rels:List XRel} (h:checkF ops ints strs rels=true):Good ops ints.length strs.length rels:=by
 unfold checkF at h
 split at h
 ·rename_i h1
  split at h
  ·cases h
  ·split at h
   ·cases h
   ·split at h
    ·cases h
    ·split at h
     ·cases h
     ·rename_i h5
      split at h
      ·split at h
       ·rename_i h7
        simp only[Bool.and_eq_true,decide_eq_true_eq] at h1
        exact⟨by omega,by omega,fun i hi=>allF_get _ _ _ h7 i (Nat.zero_le _) (by omega),by simpa using h5,fun i hi=>allF_get _ _ _ h i (Nat.zero_le _) (by omega)⟩
       ·cases h
      ·cases h
 ·cases h
structure OpOk (lo li ls:Nat) (q:Int) (o:XOp):Prop where
 d:0≤o.d∧o.d.toNat < 8
 a:0≤o.a∧o.a.toNat < 8
 b:0≤o.b∧o.b.toNat < 8
 fit:fitsF lo li ls q o.op o.n=true
 name:((formF o.op).name.toList==(⟨#[]⟩:ByteArray).toList)=false
 rd:regF (formF o.op).d o.d=true
 ra:regF (formF o.op).a o.a=true
 rb:regF (formF o.op).b o.b=true
theorem reg_range {has:Bool} {n:Int} (h:regF has n=true):0≤n∧n.toNat < 8:=by
 unfold regF at h
 simp only[Bool.or_eq_true,Bool.and_eq_true,decide_eq_true_eq,Bool.not_eq_true',beq_iff_eq] at h
 rcases h with h | h <;> omega
theorem right_ok {ops:List XOp} {li ls:Nat} {q:Int} (h:rightF ops li ls q=true):OpOk ops.length li ls q (ops.getD q.toNat op0):=by
 unfold rightF at h
 dsimp only at h
 generalize ops.getD q.toNat op0=o at *
 split at h
 ·rename_i h1
  split at h
  ·rename_i h2
   split at h
   ·rename_i h3
    split at h
    ·rename_i h4
     exact⟨reg_range h2,reg_range h3,reg_range h4,h,by simpa using h1,h2,h3,h4⟩
    ·cases h
   ·cases h
  ·cases h
 ·cases h
theorem fits_int {lo li ls:Nat} {q o n:Int} (h:fitsF lo li ls q o n=true) (ho:(o==1)=true):0≤n∧n.toNat < li:=by
 unfold fitsF at h
 rw[if_pos ho] at h
 simp only[inF,Bool.and_eq_true,decide_eq_true_eq] at h
 omega
theorem fits_jump {lo li ls:Nat} {q o n:Int} (h:fitsF lo li ls q o n=true) (ho:o=24∨o=25):q+1≤n∧n≤(lo:Int) - 1:=by
 unfold fitsF at h
 rcases ho with rfl | rfl
 ·simp[inF] at h;omega
 ·simp[inF] at h;omega
theorem next_ok {ops:List XOp} {li ls:Nat} {rels:List XRel} (hg:Good ops li ls rels) (q:Nat) (hq:q < ops.length):∀ k ∈ nextF ops q,(q:Int) < k∧k.toNat < ops.length:=by
 have ho:=right_ok (hg.right q hq)
 have hlast:(ops.getD q op0).op ≠ 40→(q:Int)+1 < ops.length:=fun h=>by
  rcases Nat.lt_or_ge (q+1) ops.length with h1 | h1
  ·omega
  ·exfalso
   have:=hg.last
   rw[show ops.length - 1=q by omega] at this
   exact h (by simpa using this)
 intro k hk
 unfold nextF at hk
 simp only[Int.toNat_natCast] at hk ho
 generalize ops.getD q op0=o at *
 split at hk
 ·simp at hk
 ·rename_i h40
  have h40':o.op ≠ 40:=by simpa using h40
  have hl:=hlast h40'
  split at hk
  ·rename_i h24
   have:=fits_jump ho.fit (.inl (by simpa using h24))
   simp at hk;subst hk;omega
  ·split at hk
   ·rename_i h25
    have:=fits_jump ho.fit (.inr (by simpa using h25))
    split at hk
    ·simp at hk;subst hk;omega
    ·simp at hk;rcases hk with rfl | rfl <;> omega
   ·simp at hk;subst hk;omega
theorem uses_nonneg {lo li ls:Nat} {q:Int} {o:XOp} (h:OpOk lo li ls q o):∀ r ∈ usesF o.op o.a o.b,0≤r:=by
 intro r hr
 unfold usesF at hr
 simp only[List.mem_append] at hr
 rcases hr with hr | hr
 ·split at hr
  ·simp at hr;subst hr;exact h.a.1
  ·simp at hr
 ·split at hr
  ·simp at hr;subst hr;exact h.b.1
  ·simp at hr
def z0:XFact:=⟨0,0⟩
def join1 (x y:XFact):XFact:=if (!(x.sort==y.sort&&x.n==y.n))=true then z0 else x
def joinF (a b:List XFact):List XFact:=List.zipWith join1 a b
def step1 (out:List XFact) (s:List (List XFact) × List Bool) (k:Int):List (List XFact) × List Bool:=
 if s.2.getD k.toNat false=true then (s.1.set k.toNat (joinF (s.1.getD k.toNat []) out),s.2) else (s.1.set k.toNat out,s.2.set k.toNat true)
def stepAt (ops:List XOp) (ints:List Int) (rels:List XRel) (i:Nat) (s:List (List XFact) × List Bool):List (List XFact) × List Bool:=
 if s.2.getD i false=true then (nextF ops i).foldl (step1 (behindF ops ints rels (s.1.getD i []) i)) s else s
def flowFrom (ops:List XOp) (ints:List Int) (rels:List XRel):Nat→Nat→List (List XFact) × List Bool→List (List XFact) × List Bool
 | 0,_,s=>s
 | m+1,i,s=>flowFrom ops ints rels m (i+1) (stepAt ops ints rels i s)
def orF (al:List Int) (s k:Int):Int:=bits2 .or .u8 s (al.getD k.toNat 0)
def liveAt (ops:List XOp) (q:Nat) (al:List Int):Int:=
 let o:=ops.getD q op0
 let s0:=(nextF ops q).foldl (orF al) 0
 let s1:=if (formF o.op).d=true then withoutF s0 o.d else s0
 (usesF o.op o.a o.b).foldl withF s1
def livesF (ops:List XOp):Nat→List Int→List Int
 | 0,al=>al
 | m+1,al=>livesF ops m (al.set m (liveAt ops m al))
def Shape (n:Nat) (s:List (List XFact) × List Bool):Prop:=s.1.length=n∧s.2.length=n∧∀ f ∈ s.1,f.length=8
theorem Shape.get {n:Nat} {s:List (List XFact) × List Bool} (h:Shape n s) {i:Nat} (hi:i < n):(s.1.getD i []).length=8:=by
 have h1:i < s.1.length:=by rw[h.1];exact hi
 have:=List.mem_of_getElem? (getD_get (d:=[]) h1)
 exact h.2.2 _ this
theorem shape_set {n:Nat} {s:List (List XFact) × List Bool} (h:Shape n s) (k:Nat) {f:List XFact} (hf:f.length=8) (r:List Bool) (hr:r.length=n):Shape n (s.1.set k f,r):=
 ⟨by simpa using h.1,hr,fun g hg=>by
   rcases List.mem_or_eq_of_mem_set hg with hg | rfl
   ·exact h.2.2 g hg
   ·exact hf⟩
theorem join_len {a b:List XFact} (ha:a.length=8) (hb:b.length=8):(joinF a b).length=8:=by simp[joinF,ha,hb]
theorem shape_step1 {n:Nat} {s:List (List XFact) × List Bool} (h:Shape n s) {out:List XFact} (ho:out.length=8) (k:Int) (hk:k.toNat < n):Shape n (step1 out s k):=by
 unfold step1
 split
 ·exact shape_set h _ (join_len (h.get hk) ho) _ h.2.1
 ·exact shape_set h _ ho _ (by simpa using h.2.1)
theorem behind_len {ops:List XOp} {ints:List Int} {rels:List XRel} {f:List XFact} {q:Int} (h:f.length=8):(behindF ops ints rels f q).length=8:=by
 unfold behindF
 dsimp only
 repeat' split
 all_goals simp[h]
theorem shape_fold {n:Nat} {out:List XFact} (ho:out.length=8):∀ (l:List Int) (s:List (List XFact) × List Bool),Shape n s→(∀ k ∈ l,k.toNat < n)→Shape n (l.foldl (step1 out) s)
 | [],s,h,_=>h
 | k::l,s,h,hl=>shape_fold ho l _ (shape_step1 h ho k (hl k (by simp))) fun k hk=>hl k (by simp[hk])
def midJ (b out:List XFact) (r:Nat):List XFact:=(joinF b out).take r++b.drop r
theorem midJ_get (b out:List XFact) (r:Nat) (h:r < b.length) (h2:r < out.length):(midJ b out r)[r]? = some (b[r]'h):=by
 simp[midJ,joinF,List.getElem?_append,h,h2]
 rw[show min r (min b.length out.length)=r by omega]
 simp[h]
theorem midJ_step (b out:List XFact) (r:Nat) (h:r < b.length) (h2:r < out.length):(midJ b out r).set r (join1 (b[r]'h) (out[r]'h2))=midJ b out (r+1):=by
 have e1:b.drop r=b[r]'h::b.drop (r+1):=List.drop_eq_getElem_cons h
 have hl:r < (joinF b out).length:=by simp[joinF];omega
 have e2:(joinF b out).take (r+1)=(joinF b out).take r++[join1 (b[r]'h) (out[r]'h2)]:=by
  rw[List.take_add_one,List.getElem?_eq_getElem hl];simp[joinF]
 unfold midJ
 rw[e1,e2,List.set_append_right _ _ (by simp;omega)]
 have:r - ((joinF b out).take r).length=0:=by simp;omega
 rw[this,List.set_cons_zero,List.append_assoc]
 rfl
theorem midJ_same (b out:List XFact) (r:Nat) (h:r < b.length) (h2:r < out.length) (hs:join1 (b[r]'h) (out[r]'h2)=b[r]'h):midJ b out r=midJ b out (r+1):=by
 rw[← midJ_step b out r h h2,hs]
 apply List.ext_getElem?
 intro j
 rw[List.getElem?_set]
 by_cases hj:r=j
 ·subst hj
  rw[midJ_get b out r h h2]
  have:r < (midJ b out r).length:=(List.getElem?_eq_some_iff.1 (midJ_get b out r h h2)).1
  simp[this]
 ·simp[hj]
theorem midJ_end (b out:List XFact) (hb:b.length=8) (ho:out.length=8) (r:Nat) (h:8≤r):midJ b out r=joinF b out:=by
 unfold midJ
 rw[List.take_of_length_le (by rw[join_len hb ho];exact h),List.drop_of_length_le (by omega),List.append_nil]
theorem set_same {α:Type} (l:List α) (i:Nat) (x:α) (h:l[i]? = some x):l.set i x=l:=by
 apply List.ext_getElem?
 intro j
 rw[List.getElem?_set]
 by_cases hj:i=j
 ·subst hj
  have:i < l.length:=(List.getElem?_eq_some_iff.1 h).1
  rw[if_pos rfl,if_pos this,h]
 ·simp[hj]
def H34:Nat→Hint:=fun i=>if i=6 then ({ tm:=[1,3,4,39,40],ob:=[1,23,25,27,29],fin:=some ([1,3,4],[1,23,25,27,29]) }:Hint) else if i=11 then ({ tm:=[1,3,4,6,39,40,56,57,58],ob:=[1,6,23,25,27,29],fin:=some ([1,3,4,39,40],[1,23,25,27,29]) }:Hint) else if i=16 then ({ tm:=[1,3,4,6,8,39,40,56,57,58,83],ob:=[1,6,23,25,27,29],fin:=some ([1,3,4,6,39,40,56,57,58],[1,6,23,25,27,29]) }:Hint) else if i=24 then ({ tm:=[1,4,10],ob:=[1,23,25,27,29],fin:=some ([1,4],[1,23,25,27,29]) }:Hint) else if i=28 then ({ tm:=[1,4,10,11,119,120,121],ob:=[1,23,25,27,29],fin:=some ([1,4,10,11],[1,23,25,27,29]) }:Hint) else if i=36 then ({ tm:=[1,4,10,11,153,154,155],ob:=[1,23,25,27,29],fin:=some ([1,4,10,11],[1,23,25,27,29]) }:Hint) else { tm:=[],ob:=[] }
theorem H34_6:H34 6=({ tm:=[1,3,4,39,40],ob:=[1,23,25,27,29],fin:=some ([1,3,4],[1,23,25,27,29]) }:Hint):=by simp[H34]
theorem H34_11:H34 11=({ tm:=[1,3,4,6,39,40,56,57,58],ob:=[1,6,23,25,27,29],fin:=some ([1,3,4,39,40],[1,23,25,27,29]) }:Hint):=by simp[H34]
theorem H34_16:H34 16=({ tm:=[1,3,4,6,8,39,40,56,57,58,83],ob:=[1,6,23,25,27,29],fin:=some ([1,3,4,6,39,40,56,57,58],[1,6,23,25,27,29]) }:Hint):=by simp[H34]
theorem H34_24:H34 24=({ tm:=[1,4,10],ob:=[1,23,25,27,29],fin:=some ([1,4],[1,23,25,27,29]) }:Hint):=by simp[H34]
theorem H34_28:H34 28=({ tm:=[1,4,10,11,119,120,121],ob:=[1,23,25,27,29],fin:=some ([1,4,10,11],[1,23,25,27,29]) }:Hint):=by simp[H34]
theorem H34_36:H34 36=({ tm:=[1,4,10,11,153,154,155],ob:=[1,23,25,27,29],fin:=some ([1,4,10,11],[1,23,25,27,29]) }:Hint):=by simp[H34]
theorem h34:Tryz.prog.funcs[34]? = some f34:=by kernel_rfl
def D34:Nat→Option (List DH × List Nat):=fun i=>match i with | 2=>some ([⟨[23,25,27],[],[23,25,27]⟩,⟨[25,27],[],[23,25,27]⟩,⟨[25,27],[23],[25,27]⟩,⟨[23,27],[],[23,25,27]⟩,⟨[23,27],[25],[23,27]⟩,⟨[23,25],[],[23,25,27]⟩,⟨[23,25],[27],[23,25]⟩,⟨[],[],[]⟩,⟨[],[],[]⟩,⟨[],[],[]⟩],[23,25,27]) | 14=>some ([⟨[],[],[]⟩,⟨[],[],[]⟩,⟨[],[],[]⟩,⟨[],[],[]⟩,⟨[],[],[]⟩,⟨[],[],[]⟩,⟨[],[],[]⟩,⟨[],[],[]⟩,⟨[],[],[]⟩,⟨[25],[],[]⟩,⟨[25],[],[]⟩,⟨[],[],[]⟩,⟨[],[25],[]⟩,⟨[],[],[]⟩,⟨[],[],[]⟩],[]) | _=>none
theorem D34_2:D34 2=some ([⟨[23,25,27],[],[23,25,27]⟩,⟨[25,27],[],[23,25,27]⟩,⟨[25,27],[23],[25,27]⟩,⟨[23,27],[],[23,25,27]⟩,⟨[23,27],[25],[23,27]⟩,⟨[23,25],[],[23,25,27]⟩,⟨[23,25],[27],[23,25]⟩,⟨[],[],[]⟩,⟨[],[],[]⟩,⟨[],[],[]⟩],[23,25,27]):=rfl
theorem D34_14:D34 14=some ([⟨[],[],[]⟩,⟨[],[],[]⟩,⟨[],[],[]⟩,⟨[],[],[]⟩,⟨[],[],[]⟩,⟨[],[],[]⟩,⟨[],[],[]⟩,⟨[],[],[]⟩,⟨[],[],[]⟩,⟨[25],[],[]⟩,⟨[25],[],[]⟩,⟨[],[],[]⟩,⟨[],[25],[]⟩,⟨[],[],[]⟩,⟨[],[],[]⟩],[]):=rfl
theorem D34_18:D34 18=none:=rfl
theorem loop34_16 (v1 v3 v39 v40:AV) (o1:Abs.Obj) (C:AV) (f29:Bool) (n:Nat) (v56 v57 v58:AV) (o25 o27:Abs.Obj) (q:Int) (b out:List XFact) (before:List (List XFact)) (hq0:0≤q) (hqn:q.toNat < n) (hbn:before.length=n) (hb:b.length=8) (ho:out.length=8) (A:Nat→Prop) (k:Nat):∀ (m i:Nat) (σ:St),i+m=8→
 σ.keep (H34 16)=⟨[(1,v1),(3,v3),(4,.ptr 29 (.box 106) []),(6,.ptr 6 (.box 119) []),(8,.int .i64 q),(39,v39),(40,v40),(56,v56),(57,v57),(58,v58),(83,.int .i64 i)],[(1,o1),(6,⟨.box 119,true,[eFacts out]⟩),(23,⟨.row 119,true,(before.set q.toNat (midJ b out (i))).map eFacts⟩),(25,o25),(27,o27),(29,⟨.box 106,f29,[.st 106 [C,.own 23 119 0 n,.own 25 4 0 n,.own 27 109 0 n]]⟩)]⟩→
 post (H34 16) (aloop ty (arun (env 171 171292023879903695822898525277610645158843576191 D34 [(56,c56),(57,c57),(58,c58),(59,c59),(60,c60),(61,c61)] [] A) H34 k (sub (f34.body.getD .skip) [1,1,1,1,0,1,0,0,1,1,0,0,1,1,1,1,0,0,1,1,0,0,1,1,1,0,0])) (H34 16) (m+1) σ)=some (.exit 4,⟨[(1,v1),(3,v3),(4,.ptr 29 (.box 106) []),(6,.ptr 6 (.box 119) []),(39,v39),(40,v40),(56,v56),(57,v57),(58,v58)],[(1,o1),(6,⟨.box 119,true,[eFacts out]⟩),(23,⟨.row 119,true,(before.set q.toNat (midJ b out (8))).map eFacts⟩),(25,o25),(27,o27),(29,⟨.box 106,f29,[.st 106 [C,.own 23 119 0 n,.own 25 4 0 n,.own 27 109 0 n]]⟩)]⟩):=by
 simp only[f34,sub,Option.getD_some,H34_16]
 intro m
 induction m with
 | zero=>
   intro i σ hi hσ
   have h1:¬ ((i:Int) < 8):=by omega
   have h8:midJ b out i=midJ b out 8:=by rw[show i=8 by omega]
   rw[aloop,hσ]
   simp only[go_sem,simprocAttr,h1]
   simp[post,St.fin,keepL,aget,h8]
 | succ m ih=>
   intro i σ hi hσ
   have h1:(i:Int) < 8:=by omega
   have h1c:(i:Int) < (8:Int):=by omega
   have hni:(0:Int)≤(i:Int):=Int.natCast_nonneg i
   have hw:IntKind.i64.wrap ((i:Int)+1)=((i+1:Nat):Int):=wrap_nat (by omega)
   have hqi:q < (n:Int):=by omega
   have hlt:i < b.length:=by omega
   have hlt2:i < out.length:=by omega
   have hget:=midJ_get b out i hlt hlt2
   have hgo:out[i]? = some (out[i]'hlt2):=List.getElem?_eq_getElem hlt2
   have hst:=midJ_step b out i hlt hlt2
   have hsm:=midJ_same b out i hlt hlt2
   have hset1:=set_map eFact (midJ b out i) i z0
   have hgq:(before.set q.toNat (midJ b out i))[q.toNat]? = some (midJ b out i):=by
    rw[List.getElem?_set];simp;omega
   have hsetA:∀ M',(List.map eFacts (before.set q.toNat (midJ b out i))).set q.toNat (.ar 119 (List.map eFact M'))=List.map eFacts (before.set q.toNat M'):=fun M'=>by
    have:=set_map eFacts (before.set q.toNat (midJ b out i)) q.toNat M'
    simp only[List.set_set] at this
    exact this
   rw[aloop,hσ]
   generalize b[i]=x at *
   generalize out[i]=y at *
   simp only[join1] at hst hsm
   simp only[z0,eFact] at hset1
   cases hg:(x.sort==y.sort&&x.n==y.n)
   all_goals
    rw[hg] at hst hsm
    simp only[forall_const,z0,BL] at hst hsm
    simp only[go_sem,simprocAttr,D34_2,D34_14,D34_18,h1,h1c,hni,hqi,hq0,hget,hgo,hgq,hw,hg,eFacts,eFact,hset1,hsetA,hbn]
    exact ih (i+1) _ (by omega) (by simp only[go_sem,simprocAttr,hst,← hsm,eFacts])
theorem loop34_11 (v1 v3 v39 v40:AV) (o1:Abs.Obj) (C:AV) (f29:Bool) (n:Nat) (o27:Abs.Obj) (out:List XFact) (ks:List Int) (hks:ks.length≤2) (hkn:∀ q ∈ ks,0≤q∧q.toNat < n) (ho:out.length=8) (A:Nat→Prop) (k:Nat) (hk9:9≤k):∀ (m j:Nat) (before:List (List XFact)) (reached:List Bool) (σ:St),Shape n (before,reached)→j+m=ks.length→
 σ.keep (H34 11)=⟨[(1,v1),(3,v3),(4,.ptr 29 (.box 106) []),(6,.ptr 6 (.box 119) []),(39,v39),(40,v40),(56,.sl 3 gT (ks.map eI)),(57,.int .i64 ks.length),(58,.int .i64 j)],[(1,o1),(6,⟨.box 119,true,[eFacts out]⟩),(23,⟨.row 119,true,(before).map eFacts⟩),(25,⟨.row 4,true,(reached).map eB⟩),(27,o27),(29,⟨.box 106,f29,[.st 106 [C,.own 23 119 0 n,.own 25 4 0 n,.own 27 109 0 n]]⟩)]⟩→
 post (H34 11) (aloop ty (arun (env 171 171292023879903695822898525277610645158843576191 D34 [(56,c56),(57,c57),(58,c58),(59,c59),(60,c60),(61,c61)] [] A) H34 k (sub (f34.body.getD .skip) [1,1,1,1,0,1,0,0,1,1,0,0,1,1,1,1,0,0])) (H34 11) (m+1) σ)=some (.exit 2,⟨[(1,v1),(3,v3),(4,.ptr 29 (.box 106) []),(39,v39),(40,v40)],[(1,o1),(23,⟨.row 119,true,(((ks.drop j).foldl (step1 out) (before,reached)).1).map eFacts⟩),(25,⟨.row 4,true,(((ks.drop j).foldl (step1 out) (before,reached)).2).map eB⟩),(27,o27),(29,⟨.box 106,f29,[.st 106 [C,.own 23 119 0 n,.own 25 4 0 n,.own 27 109 0 n]]⟩)]⟩):=by
 simp only[f34,sub,Option.getD_some,H34_11]
 intro m
 induction m with
 | zero=>
   intro j before reached σ hsh hj hσ
   have h1:¬ ((j:Int) < (ks.length:Int)):=by omega
   have h8:ks.drop j=[]:=List.drop_of_length_le (by omega)
   rw[aloop,hσ]
   simp only[go_sem,simprocAttr,h1]
   simp[post,St.fin,keepL,aget,h8]
 | succ m ih=>
   intro j before reached σ hsh hj hσ
   have h1:(j:Int) < (ks.length:Int):=by omega
   have hlt:j < ks.length:=by omega
   have hni:(0:Int)≤(j:Int):=Int.natCast_nonneg j
   have hw:IntKind.i64.wrap ((j:Int)+1)=((j+1:Nat):Int):=wrap_nat (by omega)
   have hgk:ks[j]? = some (ks[j]'hlt):=List.getElem?_eq_getElem hlt
   have hd:ks.drop j=ks[j]'hlt::ks.drop (j+1):=List.drop_eq_getElem_cons hlt
   obtain⟨hq0,hqn⟩:=hkn _ (List.getElem_mem hlt)
   rw[aloop,hσ,hd,List.foldl_cons]
   generalize ks[j]=q at *
   have hqi:q < (n:Int):=by omega
   have hgr:=getD_get (d:=false) (show q.toNat < reached.length by rw[hsh.2.1];exact hqn)
   have hgb:=getD_get (d:=[]) (show q.toNat < before.length by rw[hsh.1];exact hqn)
   have hbl:=hsh.get hqn
   have hsh':=shape_step1 hsh ho q hqn
   have hsr:∀ b,(List.map eB reached).set q.toNat (.bool b)=List.map eB (reached.set q.toNat b):=fun b=>set_map eB reached q.toNat b
   have hsb:(List.map eFacts before).set q.toNat (.ar 119 (List.map eFact out))=List.map eFacts (before.set q.toNat out):=set_map eFacts before q.toNat out
   have hlr:reached.length=n:=hsh.2.1
   have hlb:before.length=n:=hsh.1
   simp only[step1] at hsh' ⊢
   cases hr:reached.getD q.toNat false
   ·rw[hr] at hgr hsh'
    simp only[BL] at hsh' ⊢
    simp only[go_sem,simprocAttr,D34_2,D34_14,D34_18,h1,hni,hqi,hq0,hgk,hgr,hgb,hw,hsr,hsb,hlr,hlb,H34_16,eFacts]
    exact ih (j+1) _ _ _ hsh' (by omega) (by simp only[go_sem,simprocAttr,eFacts])
   ·rw[hr] at hgr hsh'
    simp only[BL] at hsh' ⊢
    have hl:=loop34_16 v1 v3 v39 v40 o1 C f29 n (.sl 3 gT (ks.map eI)) (.int .i64 ks.length) (.int .i64 j) ⟨.row 4,true,reached.map eB⟩ o27 q (before.getD q.toNat []) out before hq0 hqn hlb hbl ho A k 8 0
    simp only[f34,sub,Option.getD_some,H34_16] at hl
    have hm0:before.set q.toNat (midJ (before.getD q.toNat []) out 0)=before:=set_same _ _ _ hgb
    have hm8:midJ (before.getD q.toNat []) out 8=joinF (before.getD q.toNat []) out:=midJ_end _ _ hbl ho 8 (Nat.le_refl _)
    simp only[go_sem,simprocAttr,D34_2,D34_14,D34_18,h1,hni,hqi,hq0,hgk,hgr,hgb,hw,hsr,hsb,hlr,hlb,H34_16]
    rw[post_le (hl _ (by simp) (by simp only[go_sem,simprocAttr,hm0])) hk9]
    rw[hm8]
    simp only[go_sem,simprocAttr,D34_2,D34_14,D34_18,h1,hni,hqi,hq0,hgk,hgr,hgb,hw,hsr,hsb,hlr,hlb,H34_16]
    exact ih (j+1) _ _ _ hsh' (by omega) (by simp only[go_sem,simprocAttr])
theorem loop34_6 (alive:List Int) (hp:((ops.length≤100000∧ints.length≤100000∧strs.length≤100000∧rels.length≤100000)∧∀ r ∈ rels,r.str.size≤9223372036854775807∧r.mem.size≤9223372036854775807)∧checkF ops ints strs rels=true) (A:Nat→Prop) (k:Nat) (hk9:9≤k):∀ (m i:Nat) (before:List (List XFact)) (reached:List Bool) (σ:St),Shape ops.length (before,reached)→alive.length=ops.length→i+m=ops.length→
 σ.keep (H34 6)=⟨[(1,.ptr 1 (.box 27) []),(3,.int .i64 ops.length),(4,.ptr 29 (.box 106) []),(39,.int .i64 ops.length),(40,.int .i64 i)],[(1,⟨.box 27,false,[(cd ops ints strs rels)]⟩),(23,⟨.row 119,true,(before).map eFacts⟩),(25,⟨.row 4,true,(reached).map eB⟩),(27,⟨.row 109,true,(alive).map eU⟩),(29,⟨.box 106,false,[.st 106 [(cd ops ints strs rels),.own 23 119 0 ops.length,.own 25 4 0 ops.length,.own 27 109 0 ops.length]]⟩)]⟩→
 post (H34 6) (aloop ty (arun (env 171 171292023879903695822898525277610645158843576191 D34 [(56,c56),(57,c57),(58,c58),(59,c59),(60,c60),(61,c61)] [] A) H34 k (sub (f34.body.getD .skip) [1,1,1,1,0,1,0,0])) (H34 6) (m+1) σ)=some (.exit 0,⟨[(1,.ptr 1 (.box 27) []),(3,.int .i64 ops.length),(4,.ptr 29 (.box 106) [])],[(1,⟨.box 27,false,[(cd ops ints strs rels)]⟩),(23,⟨.row 119,true,((flowFrom ops ints rels m i (before,reached)).1).map eFacts⟩),(25,⟨.row 4,true,((flowFrom ops ints rels m i (before,reached)).2).map eB⟩),(27,⟨.row 109,true,(alive).map eU⟩),(29,⟨.box 106,false,[.st 106 [(cd ops ints strs rels),.own 23 119 0 ops.length,.own 25 4 0 ops.length,.own 27 109 0 ops.length]]⟩)]⟩):=by
 simp only[f34,sub,Option.getD_some,H34_6]
 have hg:=check_good hp.2
 have hlim:=hp.1.1
 intro m
 induction m with
 | zero=>
   intro i before reached σ hsh hal hi hσ
   have h1:¬ ((i:Int) < (ops.length:Int)):=by omega
   rw[aloop,hσ]
   simp only[go_sem,simprocAttr,h1]
   simp[post,St.fin,keepL,aget,flowFrom]
 | succ m ih=>
   intro i before reached σ hsh hal hi hσ
   have h1:(i:Int) < (ops.length:Int):=by omega
   have hlt:i < ops.length:=by omega
   have hni:(0:Int)≤(i:Int):=Int.natCast_nonneg i
   have hw:IntKind.i64.wrap ((i:Int)+1)=((i+1:Nat):Int):=wrap_nat (by omega)
   have hlr:reached.length=ops.length:=hsh.2.1
   have hlb:before.length=ops.length:=hsh.1
   have hgr:=getD_get (d:=false) (show i < reached.length by omega)
   have hgb:=getD_get (d:=[]) (show i < before.length by omega)
   have hbl:=hsh.get hlt
   have hok:=right_ok (hg.right i hlt)
   have e56:=c56_eq ops ints strs rels before reached alive false i ⟨hlim.2.2.2,hni,by simpa using hlt,by simp only[Int.toNat_natCast];omega,by simpa using hbl,⟨hok.a,hok.d,fun h=>fits_int hok.fit h⟩⟩
   have e57:=c57_eq ops ints strs rels i hp.1
   have hin:(decide (0≤(i:Int))&&decide ((i:Int)≤(ops.length:Int) - 1))=true:=by simp;omega
   simp only[nextEF,hp.2,hin,Int.toNat_natCast,BL] at e56 e57
   have hnl:=next_ok hg i hlt
   rw[aloop,hσ]
   simp only[flowFrom,stepAt]
   cases hr:reached.getD i false
   ·rw[hr] at hgr
    simp only[BL] at ⊢
    simp only[go_sem,simprocAttr,D34_2,D34_14,D34_18,h1,hni,hgr,hgb,hw,e56,e57,hlr,hlb,hal,H34_11,eFacts]
    exact ih (i+1) _ _ _ hsh hal (by omega) (by simp only[go_sem,simprocAttr])
   ·rw[hr] at hgr
    simp only[BL]
    have hbo:=behind_len (ops:=ops) (ints:=ints) (rels:=rels) (q:=(i:Int)) hbl
    have hks:(nextF ops i).length≤2:=by
     unfold nextF
     dsimp only
     split
     ·simp
     split
     ·simp
     split
     ·split <;> simp
     simp
    have hkn:∀ q ∈ nextF ops i,0≤q∧q.toNat < ops.length:=fun q hq=>by have:=hnl q hq;omega
    generalize behindF ops ints rels (before.getD i []) i=out at *
    generalize nextF ops i=ks at *
    have hl:=loop34_11 (.ptr 1 (.box 27) []) (.int .i64 ops.length) (.int .i64 ops.length) (.int .i64 i) ⟨.box 27,false,[(cd ops ints strs rels)]⟩ ((cd ops ints strs rels)) false ops.length ⟨.row 109,true,alive.map eU⟩ out ks hks hkn hbo A k hk9 ks.length 0 before reached
    simp only[f34,sub,Option.getD_some,H34_11,List.drop_zero] at hl
    have hsf:=shape_fold hbo ks _ hsh fun q hq=>(hkn q hq).2
    simp only[go_sem,simprocAttr,D34_2,D34_14,D34_18,h1,hni,hgr,hgb,hw,e56,e57,hlr,hlb,hal,H34_11,eFacts]
    rw[post_le (hl _ hsh (by simp) (by simp only[go_sem,simprocAttr,eFacts])) (by omega)]
    simp only[go_sem,simprocAttr,D34_2,D34_14,D34_18,h1,hni,hgr,hgb,hw,e56,e57,hlr,hlb,hal,H34_11,eFacts]
    exact ih (i+1) _ _ _ hsf hal (by omega) (by simp only[go_sem,simprocAttr])
end Go.Proofs.Tryz
end
