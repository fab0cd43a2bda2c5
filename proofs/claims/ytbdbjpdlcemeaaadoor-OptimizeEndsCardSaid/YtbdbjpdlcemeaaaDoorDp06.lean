/- Part of the proof of one statement of this seat: an abstract machine for the program, its contracts, and the statement (no condition of our own). -/
import Derived.Test.YtbdbjpdlcemeaaaDoorDp05
set_option linter.unusedSimpArgs false
set_option linter.unusedVariables false
section
set_option maxHeartbeats 4000000
set_option maxRecDepth 20000
namespace Go.Proofs.Tryd
open Go Go.Abs
variable (ops : List XOp) (ints : List Int) (strs : List ByteArray) (rels : List XRel)
theorem h139:Tryd.prog.funcs[87]? = some f87:=by kernel_rfl
theorem run139 (b:Bool) (A:Nat→Prop):acall (env 4 13 D0 [] [] A) hN (5) f87 [.bool b]=some (.int .i64 (if b=true then 1 else 0)):=by
 cases b;all_goals
  simp only[acall,macall,f87];simp only[go_sem];try rfl
noncomputable def c139:=famP (α:=Bool) (fun _=>True) (fun b=>[.bool b]) (fun b=> .int .i64 (if b=true then 1 else 0))
theorem c139_eq (b:Bool):c139 [.bool b]=some (.int .i64 (if b=true then 1 else 0)):=fam_eq (fun b b' hp hp' h'=>by
 simp only[INJ] at h';obtain rfl:=h';rfl) (b) trivial
theorem snd139:Snd 87 c139:=fam_snd h139 rfl rfl fun b _=>rc h139 (fun A=>run139 b A) (fun _=>[]) rfl rfl rfl (by kernel_rfl) trivial trivial
theorem wrap_u64_ne {b:Int} (h:InR b) (hb:b ≠ 0):IntKind.u64.wrap b ≠ 0:=by
 have e:IntKind.u64.wrap b=b % 18446744073709551616:=by simp[IntKind.wrap,IntKind.bits,IntKind.signed]
 rw[e];unfold InR at h;omega
def divF (o a b:Int):Int:=
 if (o==8)=true then IntKind.i64.wrap (IntKind.u64.wrap ((IntKind.u64.wrap a).tdiv (IntKind.u64.wrap b))) else if (o==10)=true then IntKind.i64.wrap ((IntKind.u64.wrap a).tmod (IntKind.u64.wrap b))
 else if (o==7)=true then IntKind.i64.wrap (a.tdiv b) else a.tmod b
theorem h137:Tryd.prog.funcs[85]? = some f85:=by kernel_rfl
theorem run137 (o a b:Int) (hp:InR b∧b ≠ 0) (A:Nat→Prop):acall (env 32 16843207 D0 [] [] A) hN (5) f85 [.int .i64 o,.int .i64 a,.int .i64 b]=some (.int .i64 (divF o a b)):=by
 obtain⟨hr,hb⟩:=hp;have hu:=wrap_u64_ne hr hb;cases h8:(o==8)
 rotate_left
 ·simp only[divF,h8,BL];simp only[acall,macall,f85];simp only[go_sem,h8,hb,hu];try rfl
 cases h10:(o==10)
 rotate_left
 ·simp only[divF,h8,h10,BL];simp only[acall,macall,f85];simp only[go_sem,h8,h10,hb,hu];try rfl
 cases h7:(o==7)
 rotate_left
 ·simp only[divF,h8,h10,h7,BL];simp only[acall,macall,f85];simp only[go_sem,h8,h10,h7,hb,hu];try rfl
 simp only[divF,h8,h10,h7,BL];simp only[acall,macall,f85];simp only[go_sem,h8,h10,h7,hb,hu];try rfl
noncomputable def c137:=famP (α:=Int × Int × Int) (fun (o,a,b)=>InR b∧b ≠ 0) (fun (o,a,b)=>[.int .i64 o,.int .i64 a,.int .i64 b]) (fun (o,a,b)=> .int .i64 (divF o a b))
theorem c137_eq (o a b:Int) (hp:InR b∧b ≠ 0):c137 [.int .i64 o,.int .i64 a,.int .i64 b]=some (.int .i64 (divF o a b)):=fam_eq (fun X Y hp hp' h'=>by
 obtain⟨o,a,b⟩:=X;obtain⟨o',a',b'⟩:=Y;simp only[INJ] at h';obtain⟨rfl,rfl,rfl⟩:=h';rfl) (o,a,b) hp
theorem snd137:Snd 85 c137:=fam_snd h137 rfl rfl fun (o,a,b) hp=>rc h137 (fun A=>run137 o a b hp A) (fun _=>[]) rfl rfl rfl (by kernel_rfl) trivial trivial
theorem and63 (b:Int):¬ (bits2 .and .i64 b 63 < 0):=by
 have e:bits2 .and .i64 b 63=IntKind.i64.wrap ((BitVec.ofInt 64 b &&& BitVec.ofInt 64 63).toNat:Int):=rfl;have h:(BitVec.ofInt 64 b &&& BitVec.ofInt 64 63).toNat≤63:=by
  rw[BitVec.toNat_and];exact Nat.le_trans Nat.and_le_right (by decide)
 rw[e,wrap_i64 (by omega) (by omega)];omega
def aluF (o a b:Int):Int × Int:=
 if (o==4)=true then (IntKind.i64.wrap (a+b),0) else if (o==5)=true then (IntKind.i64.wrap (a - b),0) else if (o==6)=true then (IntKind.i64.wrap (a * b),0)
 else if (o==7)=true then (if (b==0)=true then (0,12) else (divF o a b,0)) else if (o==8)=true then (if (b==0)=true then (0,12) else (divF o a b,0))
 else if (o==9)=true then (if (b==0)=true then (0,12) else (divF o a b,0)) else if (o==10)=true then (if (b==0)=true then (0,12) else (divF o a b,0))
 else if (o==11)=true then (bits2 .and .i64 a b,0) else if (o==12)=true then (bits2 .or .i64 a b,0) else if (o==13)=true then (bits2 .xor .i64 a b,0)
 else if (o==14)=true then (shl2 .i64 a (bits2 .and .i64 b 63),0) else if (o==15)=true then (IntKind.i64.wrap (shr2 .u64 (IntKind.u64.wrap a) (bits2 .and .i64 b 63)),0) else if (o==16)=true then (shr2 .i64 a (bits2 .and .i64 b 63),0)
 else if (o==17)=true then (IntKind.i64.wrap (-a),0) else if (o==18)=true then (bits2 .xor .i64 (-1) a,0)
 else if (o==19)=true then (match intOfF b with | none=>(0,10) | some (s,g)=>(if validT s g=true then wrapTF s g a else 0,if validT s g=true then 0 else 10))
 else if (o==20)=true then (if (decide (a < b))=true then 1 else 0,0) else if (o==21)=true then (if (decide (IntKind.u64.wrap a < IntKind.u64.wrap b))=true then 1 else 0,0) else if (o==22)=true then (if (a==b)=true then 1 else 0,0)
 else (0,11)
theorem h114:Tryd.prog.funcs[66]? = some f66:=by kernel_rfl
theorem run114 (o a b:Int) (hp:InR b) (A:Nat→Prop):acall (env 114 325806322073573473293080933240775 D0 [(85,c137),(60,c109),(86,c138),(87,c139)] [] A) hN (5) f66 [.int .i64 o,.int .i64 a,.int .i64 b]=some (.tup [.int .i64 (aluF o a b).1,.int .i64 (aluF o a b).2]):=by
 have h63:=and63 b;have hsg:IntKind.i64.signed=true:=rfl;cases h4:(o==4)
 rotate_left
 ·simp only[aluF,h4,BL];simp only[acall,macall,f66];simp only[go_sem,c137_eq,c109_eq,c138_eq,c139_eq,h4,h63,hsg];try rfl
 cases h5:(o==5)
 rotate_left
 ·simp only[aluF,h4,h5,BL];simp only[acall,macall,f66];simp only[go_sem,c137_eq,c109_eq,c138_eq,c139_eq,h4,h5,h63,hsg];try rfl
 cases h6:(o==6)
 rotate_left
 ·simp only[aluF,h4,h5,h6,BL];simp only[acall,macall,f66];simp only[go_sem,c137_eq,c109_eq,c138_eq,c139_eq,h4,h5,h6,h63,hsg];try rfl
 cases h7:(o==7)
 rotate_left
 ·simp only[aluF,h4,h5,h6,h7,BL];simp only[acall,macall,f66];cases hb:(b==0)
  ·have e137:=c137_eq o a b ⟨hp,by simpa using hb⟩;simp only[BL];simp only[go_sem,e137,hb,c109_eq,c138_eq,c139_eq,h4,h5,h6,h7,h63,hsg];try rfl
  ·simp only[BL];simp only[go_sem,hb,c109_eq,c138_eq,c139_eq,h4,h5,h6,h7,h63,hsg];try rfl
  try rfl
 cases h8:(o==8)
 rotate_left
 ·simp only[aluF,h4,h5,h6,h7,h8,BL];simp only[acall,macall,f66];cases hb:(b==0)
  ·have e137:=c137_eq o a b ⟨hp,by simpa using hb⟩;simp only[BL];simp only[go_sem,e137,hb,c109_eq,c138_eq,c139_eq,h4,h5,h6,h7,h8,h63,hsg];try rfl
  ·simp only[BL];simp only[go_sem,hb,c109_eq,c138_eq,c139_eq,h4,h5,h6,h7,h8,h63,hsg];try rfl
  try rfl
 cases h9:(o==9)
 rotate_left
 ·simp only[aluF,h4,h5,h6,h7,h8,h9,BL];simp only[acall,macall,f66];cases hb:(b==0)
  ·have e137:=c137_eq o a b ⟨hp,by simpa using hb⟩;simp only[BL];simp only[go_sem,e137,hb,c109_eq,c138_eq,c139_eq,h4,h5,h6,h7,h8,h9,h63,hsg];try rfl
  ·simp only[BL];simp only[go_sem,hb,c109_eq,c138_eq,c139_eq,h4,h5,h6,h7,h8,h9,h63,hsg];try rfl
  try rfl
 cases h10:(o==10)
 rotate_left
 ·simp only[aluF,h4,h5,h6,h7,h8,h9,h10,BL];simp only[acall,macall,f66];cases hb:(b==0)
  ·have e137:=c137_eq o a b ⟨hp,by simpa using hb⟩;simp only[BL];simp only[go_sem,e137,hb,c109_eq,c138_eq,c139_eq,h4,h5,h6,h7,h8,h9,h10,h63,hsg];try rfl
  ·simp only[BL];simp only[go_sem,hb,c109_eq,c138_eq,c139_eq,h4,h5,h6,h7,h8,h9,h10,h63,hsg];try rfl
  try rfl
 cases h11:(o==11)
 rotate_left
 ·simp only[aluF,h4,h5,h6,h7,h8,h9,h10,h11,BL];simp only[acall,macall,f66];simp only[go_sem,c137_eq,c109_eq,c138_eq,c139_eq,h4,h5,h6,h7,h8,h9,h10,h11,h63,hsg];try rfl
 cases h12:(o==12)
 rotate_left
 ·simp only[aluF,h4,h5,h6,h7,h8,h9,h10,h11,h12,BL];simp only[acall,macall,f66];simp only[go_sem,c137_eq,c109_eq,c138_eq,c139_eq,h4,h5,h6,h7,h8,h9,h10,h11,h12,h63,hsg];try rfl
 cases h13:(o==13)
 rotate_left
 ·simp only[aluF,h4,h5,h6,h7,h8,h9,h10,h11,h12,h13,BL];simp only[acall,macall,f66];simp only[go_sem,c137_eq,c109_eq,c138_eq,c139_eq,h4,h5,h6,h7,h8,h9,h10,h11,h12,h13,h63,hsg];try rfl
 cases h14:(o==14)
 rotate_left
 ·simp only[aluF,h4,h5,h6,h7,h8,h9,h10,h11,h12,h13,h14,BL];simp only[acall,macall,f66];simp only[go_sem,c137_eq,c109_eq,c138_eq,c139_eq,h4,h5,h6,h7,h8,h9,h10,h11,h12,h13,h14,h63,hsg];try rfl
 cases h15:(o==15)
 rotate_left
 ·simp only[aluF,h4,h5,h6,h7,h8,h9,h10,h11,h12,h13,h14,h15,BL];simp only[acall,macall,f66];simp only[go_sem,c137_eq,c109_eq,c138_eq,c139_eq,h4,h5,h6,h7,h8,h9,h10,h11,h12,h13,h14,h15,h63,hsg];try rfl
 cases h16:(o==16)
 rotate_left
 ·simp only[aluF,h4,h5,h6,h7,h8,h9,h10,h11,h12,h13,h14,h15,h16,BL];simp only[acall,macall,f66];simp only[go_sem,c137_eq,c109_eq,c138_eq,c139_eq,h4,h5,h6,h7,h8,h9,h10,h11,h12,h13,h14,h15,h16,h63,hsg];try rfl
 cases h17:(o==17)
 rotate_left
 ·simp only[aluF,h4,h5,h6,h7,h8,h9,h10,h11,h12,h13,h14,h15,h16,h17,BL];simp only[acall,macall,f66];simp only[go_sem,c137_eq,c109_eq,c138_eq,c139_eq,h4,h5,h6,h7,h8,h9,h10,h11,h12,h13,h14,h15,h16,h17,h63,hsg];try rfl
 cases h18:(o==18)
 rotate_left
 ·simp only[aluF,h4,h5,h6,h7,h8,h9,h10,h11,h12,h13,h14,h15,h16,h17,h18,BL];simp only[acall,macall,f66];simp only[go_sem,c137_eq,c109_eq,c138_eq,c139_eq,h4,h5,h6,h7,h8,h9,h10,h11,h12,h13,h14,h15,h16,h17,h18,h63,hsg];try rfl
 cases h19:(o==19)
 rotate_left
 ·simp only[aluF,h4,h5,h6,h7,h8,h9,h10,h11,h12,h13,h14,h15,h16,h17,h18,h19,BL];simp only[acall,macall,f66];have e109:=c109_eq b;cases hi:intOfF b with
  | none=>
    rw[hi] at e109;simp only[eIntOf] at e109;simp only[go_sem,c137_eq,e109,c138_eq,c139_eq,h4,h5,h6,h7,h8,h9,h10,h11,h12,h13,h14,h15,h16,h17,h18,h19,h63,hsg];try rfl
  | some p=>
    obtain⟨p1,p2⟩:=p;rw[hi] at e109;simp only[eIntOf] at e109;simp only[go_sem,c137_eq,e109,c138_eq,c139_eq,h4,h5,h6,h7,h8,h9,h10,h11,h12,h13,h14,h15,h16,h17,h18,h19,h63,hsg];try rfl
  try rfl
 cases h20:(o==20)
 rotate_left
 ·simp only[aluF,h4,h5,h6,h7,h8,h9,h10,h11,h12,h13,h14,h15,h16,h17,h18,h19,h20,BL];simp only[acall,macall,f66];simp only[go_sem,c137_eq,c109_eq,c138_eq,c139_eq,h4,h5,h6,h7,h8,h9,h10,h11,h12,h13,h14,h15,h16,h17,h18,h19,h20,h63,hsg];try rfl
 cases h21:(o==21)
 rotate_left
 ·simp only[aluF,h4,h5,h6,h7,h8,h9,h10,h11,h12,h13,h14,h15,h16,h17,h18,h19,h20,h21,BL];simp only[acall,macall,f66];simp only[go_sem,c137_eq,c109_eq,c138_eq,c139_eq,h4,h5,h6,h7,h8,h9,h10,h11,h12,h13,h14,h15,h16,h17,h18,h19,h20,h21,h63,hsg];try rfl
 cases h22:(o==22)
 rotate_left
 ·simp only[aluF,h4,h5,h6,h7,h8,h9,h10,h11,h12,h13,h14,h15,h16,h17,h18,h19,h20,h21,h22,BL];simp only[acall,macall,f66];simp only[go_sem,c137_eq,c109_eq,c138_eq,c139_eq,h4,h5,h6,h7,h8,h9,h10,h11,h12,h13,h14,h15,h16,h17,h18,h19,h20,h21,h22,h63,hsg];try rfl
 simp only[aluF,h4,h5,h6,h7,h8,h9,h10,h11,h12,h13,h14,h15,h16,h17,h18,h19,h20,h21,h22,BL];simp only[acall,macall,f66];simp only[go_sem,c137_eq,c109_eq,c138_eq,c139_eq,h4,h5,h6,h7,h8,h9,h10,h11,h12,h13,h14,h15,h16,h17,h18,h19,h20,h21,h22,h63,hsg];try rfl
noncomputable def c114:=famP (α:=Int × Int × Int) (fun (o,a,b)=>InR b) (fun (o,a,b)=>[.int .i64 o,.int .i64 a,.int .i64 b]) (fun (o,a,b)=> .tup [.int .i64 (aluF o a b).1,.int .i64 (aluF o a b).2])
theorem c114_eq (o a b:Int) (hp:InR b):c114 [.int .i64 o,.int .i64 a,.int .i64 b]=some (.tup [.int .i64 (aluF o a b).1,.int .i64 (aluF o a b).2]):=fam_eq (fun X Y hp hp' h'=>by
 obtain⟨o,a,b⟩:=X;obtain⟨o',a',b'⟩:=Y;simp only[INJ] at h';obtain⟨rfl,rfl,rfl⟩:=h';rfl) (o,a,b) hp
theorem snd114:Snd 66 c114:=fam_snd h114 rfl rfl fun (o,a,b) hp=>rc h114 (fun A=>run114 o a b hp A) (fun _=>[]) rfl rfl rfl (by kernel_rfl) ⟨snd137,snd109,snd138,snd139,trivial⟩ trivial
def foldK (ops:List XOp) (ints:List Int) (strs:List ByteArray) (rels:List XRel) (q:Int) (o:XOp) (a b:Int) (known:Bool):Option XCode:=
 if known=true then (if ((aluF o.op a b).2==0)=true then puttingF ops ints strs rels q o.d (aluF o.op a b).1 else none) else none
def foldF (ops:List XOp) (ints:List Int) (strs:List ByteArray) (rels:List XRel) (before:List (List XFact)) (reached:List Bool) (q:Int):Option XCode:=
 let o:=ops.getD q.toNat op0
 if reached.getD q.toNat false=true then
  if (rels.any fun r=>r.at_==q)=true then none
  else
   let a:=factAt before q o.a
   let b:=factAt before q o.b
   if (o.op==25)=true then (if (a.sort==1)=true then some ⟨ops.set q.toNat ⟨24,0,0,0,if (!(a.n==0))=true then q+1 else o.n⟩,ints,strs,rels⟩ else none)
   else if (o.op==19)=true then foldK ops ints strs rels q o a.n o.n (a.sort==1)
   else if (o.op==17)=true then foldK ops ints strs rels q o a.n 0 (a.sort==1) else if (o.op==18)=true then foldK ops ints strs rels q o a.n 0 (a.sort==1)
   else if ((decide (4≤o.op)&&decide (o.op≤16)) || [20,21,22].any fun x=>o.op==x)=true then foldK ops ints strs rels q o a.n b.n (a.sort==1&&b.sort==1) else none
 else none
theorem h89:Tryd.prog.funcs[50]? = some f50:=by kernel_rfl
theorem run89 (before:List (List XFact)) (reached:List Bool) (alive:List Int) (q:Int) (hp:XW ops ints strs rels before reached alive∧0≤q∧q.toNat < ops.length) :∃ r,wk r (eOut (foldF ops ints strs rels before reached q))∧∀ A,acall (env 129 664938516448553399581497564931850227 D0 [(47,c86),(63,c47),(65,c113),(66,c114),(64,c112),(67,c115)] [] A) hN (5) f50 [(wv ops ints strs rels before reached alive),.int .i64 q]=some r:=by
 obtain⟨hw,h0,hlt⟩:=hp;have hlt':q < (ops.length:Int):=by omega
 have hrl:=hw.rl;have hget:=getD_get (d:=op0) hlt;have hrg:=getD_get (d:=false) (show q.toNat < reached.length by omega);have e86:=c86_eq ops ints strs rels q hw.lim.2.2.2;have hop:=hw.op _ hlt;have hxn:InR (ops.getD q.toNat op0).n:=hw.opn _ (getD_memG hlt);have hw1:IntKind.i64.wrap (q+1)=q+1:=wrap_i64 (by have:=hw.lim.1;omega) (by have:=hw.lim.1;omega);simp only[foldF];generalize ops.getD q.toNat op0=x at *;obtain⟨⟨ha0,ha8⟩,⟨hb0,hb8⟩,-⟩:=hop;have hfa:=hw.fact hlt ha8;have hfb:=hw.fact hlt hb8;have ea:=c47_eq ops ints strs rels before reached alive q x.a ⟨by have:=hw.bl;omega,h0,ha0,by rw[hw.b8 _ hlt];exact ha8⟩;have eb:=c47_eq ops ints strs rels before reached alive q x.b ⟨by have:=hw.bl;omega,h0,hb0,by rw[hw.b8 _ hlt];exact hb8⟩;have e113:=c113_eq [20,21,22] x.op (by decide);simp only[List.map_cons,List.map_nil,eI] at e113;generalize factAt before q x.a=fa at *
 generalize factAt before q x.b=fb at *;generalize reached.getD q.toNat false=rg at *;generalize (rels.any fun r=>r.at_==q)=rr at *;cases rg
 ·simp only[BL];apply wkI
  ·intro A;simp only[acall,macall,f50];simp only[go_sem,hget,hrg,h0,hlt',e86,ea,eb,e113,hrl];rfl
  ·simp[WK,eOut,eCode]
 cases rr;rotate_left
 ·simp only[BL];apply wkI
  ·intro A;simp only[acall,macall,f50];simp only[go_sem,hget,hrg,h0,hlt',e86,ea,eb,e113,hrl];rfl
  ·simp[WK,eOut,eCode]
 simp only[BL];cases h25:(x.op==25)
 rotate_left
 ·cases hk:(fa.sort==1)
  ·simp only[BL];apply wkI
   ·intro A;simp only[acall,macall,f50];simp only[go_sem,h25,hk,hget,hrg,h0,hlt',e86,ea,eb,e113,hrl];rfl
   ·simp[WK,eOut,eCode]
  ·cases hz:(fa.n==0)
   all_goals
    simp only[BL];have e112:=fun n=>c112_eq ops ints strs rels before reached alive q 24 0 0 0 n ⟨hw.lim,h0,hlt⟩
    apply wkI
    ·intro A;simp only[acall,macall,f50];simp only[go_sem,h25,hk,hz,e112,hw1,hget,hrg,h0,hlt',e86,ea,eb,e113,hrl];rfl
    ·simp[WK,eOut,eCode]
 simp only[BL];have e112:=trivial;simp only[foldK];cases h19:(x.op==19)
 rotate_left
 ·simp only[BL];cases hk:(fa.sort==1)
  ·simp only[BL];apply wkI
   ·intro A;simp only[acall,macall,f50];simp only[go_sem,h25,h19,hk,hget,hrg,h0,hlt',e86,ea,eb,e113,hrl];rfl
   ·simp[WK,eOut,eCode]
  ·simp only[BL];have e114:=c114_eq x.op fa.n x.n hxn;have e115:=c115_eq ops ints strs rels before reached alive q x.d (aluF x.op fa.n x.n).1 ⟨hw.lim,⟨h0,hlt⟩,hw.i200,hw.rel⟩;generalize aluF x.op fa.n x.n=al at *;generalize puttingF ops ints strs rels q x.d al.1=pu at *;cases hz:(al.2==0)
   ·simp only[BL];apply wkI
    ·intro A;simp only[acall,macall,f50];simp only[go_sem,h25,h19,hk,hz,e114,hget,hrg,h0,hlt',e86,ea,eb,e113,hrl];rfl
    ·simp[WK,eOut,eCode]
   ·simp only[BL];cases pu;all_goals
     simp only[eOut,eCode] at e115;apply wkI
     ·intro A;simp only[acall,macall,f50];simp only[go_sem,h25,h19,hk,hz,e114,e115,hget,hrg,h0,hlt',e86,ea,eb,e113,hrl];rfl
     ·simp[WK,eOut,eCode]
 simp only[BL];cases h17:(x.op==17)
 rotate_left
 ·simp only[BL];cases hk:(fa.sort==1)
  ·simp only[BL];apply wkI
   ·intro A;simp only[acall,macall,f50];simp only[go_sem,h25,h19,h17,hk,hget,hrg,h0,hlt',e86,ea,eb,e113,hrl];rfl
   ·simp[WK,eOut,eCode]
  ·simp only[BL];have e114:=c114_eq x.op fa.n 0 (by unfold InR;omega);have e115:=c115_eq ops ints strs rels before reached alive q x.d (aluF x.op fa.n 0).1 ⟨hw.lim,⟨h0,hlt⟩,hw.i200,hw.rel⟩;generalize aluF x.op fa.n 0=al at *;generalize puttingF ops ints strs rels q x.d al.1=pu at *;cases hz:(al.2==0)
   ·simp only[BL];apply wkI
    ·intro A;simp only[acall,macall,f50];simp only[go_sem,h25,h19,h17,hk,hz,e114,hget,hrg,h0,hlt',e86,ea,eb,e113,hrl];rfl
    ·simp[WK,eOut,eCode]
   ·simp only[BL];cases pu;all_goals
     simp only[eOut,eCode] at e115;apply wkI
     ·intro A;simp only[acall,macall,f50];simp only[go_sem,h25,h19,h17,hk,hz,e114,e115,hget,hrg,h0,hlt',e86,ea,eb,e113,hrl];rfl
     ·simp[WK,eOut,eCode]
 simp only[BL];cases h18:(x.op==18)
 rotate_left
 ·simp only[BL];cases hk:(fa.sort==1)
  ·simp only[BL];apply wkI
   ·intro A;simp only[acall,macall,f50];simp only[go_sem,h25,h19,h17,h18,hk,hget,hrg,h0,hlt',e86,ea,eb,e113,hrl];rfl
   ·simp[WK,eOut,eCode]
  ·simp only[BL];have e114:=c114_eq x.op fa.n 0 (by unfold InR;omega);have e115:=c115_eq ops ints strs rels before reached alive q x.d (aluF x.op fa.n 0).1 ⟨hw.lim,⟨h0,hlt⟩,hw.i200,hw.rel⟩;generalize aluF x.op fa.n 0=al at *;generalize puttingF ops ints strs rels q x.d al.1=pu at *;cases hz:(al.2==0)
   ·simp only[BL];apply wkI
    ·intro A;simp only[acall,macall,f50];simp only[go_sem,h25,h19,h17,h18,hk,hz,e114,hget,hrg,h0,hlt',e86,ea,eb,e113,hrl];rfl
    ·simp[WK,eOut,eCode]
   ·simp only[BL];cases pu;all_goals
     simp only[eOut,eCode] at e115;apply wkI
     ·intro A;simp only[acall,macall,f50];simp only[go_sem,h25,h19,h17,h18,hk,hz,e114,e115,hget,hrg,h0,hlt',e86,ea,eb,e113,hrl];rfl
     ·simp[WK,eOut,eCode]
 simp only[BL];cases hr4:(decide (4≤x.op))
 ·simp only[BL];cases hr3:([20,21,22].any fun y=>x.op==y)
  ·rw[hr3] at e113;simp only[BL];apply wkI
   ·intro A;simp only[acall,macall,f50];simp only[go_sem,h25,h19,h17,h18,hr4,hget,hrg,h0,hlt',e86,ea,eb,e113,hrl];rfl
   ·simp[WK,eOut,eCode]
  ·rw[hr3] at e113;simp only[BL];cases ha1:(fa.sort==1)
   ·simp only[BL];apply wkI
    ·intro A;simp only[acall,macall,f50];simp only[go_sem,h25,h19,h17,h18,hr4,ha1,hget,hrg,h0,hlt',e86,ea,eb,e113,hrl];rfl
    ·simp[WK,eOut,eCode]
   ·simp only[BL];cases hk:(fb.sort==1)
    ·simp only[BL];apply wkI
     ·intro A;simp only[acall,macall,f50];simp only[go_sem,h25,h19,h17,h18,hr4,ha1,hk,hget,hrg,h0,hlt',e86,ea,eb,e113,hrl];rfl
     ·simp[WK,eOut,eCode]
    ·simp only[BL];have e114:=c114_eq x.op fa.n fb.n hfb;have e115:=c115_eq ops ints strs rels before reached alive q x.d (aluF x.op fa.n fb.n).1 ⟨hw.lim,⟨h0,hlt⟩,hw.i200,hw.rel⟩;generalize aluF x.op fa.n fb.n=al at *;generalize puttingF ops ints strs rels q x.d al.1=pu at *;cases hz:(al.2==0)
     ·simp only[BL];apply wkI
      ·intro A;simp only[acall,macall,f50];simp only[go_sem,h25,h19,h17,h18,hr4,ha1,hk,hz,e114,hget,hrg,h0,hlt',e86,ea,eb,e113,hrl];rfl
      ·simp[WK,eOut,eCode]
     ·simp only[BL];cases pu;all_goals
       simp only[eOut,eCode] at e115;apply wkI
       ·intro A;simp only[acall,macall,f50];simp only[go_sem,h25,h19,h17,h18,hr4,ha1,hk,hz,e114,e115,hget,hrg,h0,hlt',e86,ea,eb,e113,hrl];rfl
       ·simp[WK,eOut,eCode]
 ·cases hr16:(decide (x.op≤16))
  ·simp only[BL];cases hr3:([20,21,22].any fun y=>x.op==y)
   ·rw[hr3] at e113;simp only[BL];apply wkI
    ·intro A;simp only[acall,macall,f50];simp only[go_sem,h25,h19,h17,h18,hr4,hr16,hget,hrg,h0,hlt',e86,ea,eb,e113,hrl];rfl
    ·simp[WK,eOut,eCode]
   ·rw[hr3] at e113;simp only[BL];cases ha1:(fa.sort==1)
    ·simp only[BL];apply wkI
     ·intro A;simp only[acall,macall,f50];simp only[go_sem,h25,h19,h17,h18,hr4,hr16,ha1,hget,hrg,h0,hlt',e86,ea,eb,e113,hrl];rfl
     ·simp[WK,eOut,eCode]
    ·simp only[BL];cases hk:(fb.sort==1)
     ·simp only[BL];apply wkI
      ·intro A;simp only[acall,macall,f50];simp only[go_sem,h25,h19,h17,h18,hr4,hr16,ha1,hk,hget,hrg,h0,hlt',e86,ea,eb,e113,hrl];rfl
      ·simp[WK,eOut,eCode]
     ·simp only[BL];have e114:=c114_eq x.op fa.n fb.n hfb;have e115:=c115_eq ops ints strs rels before reached alive q x.d (aluF x.op fa.n fb.n).1 ⟨hw.lim,⟨h0,hlt⟩,hw.i200,hw.rel⟩;generalize aluF x.op fa.n fb.n=al at *;generalize puttingF ops ints strs rels q x.d al.1=pu at *;cases hz:(al.2==0)
      ·simp only[BL];apply wkI
       ·intro A;simp only[acall,macall,f50];simp only[go_sem,h25,h19,h17,h18,hr4,hr16,ha1,hk,hz,e114,hget,hrg,h0,hlt',e86,ea,eb,e113,hrl];rfl
       ·simp[WK,eOut,eCode]
      ·simp only[BL];cases pu;all_goals
        simp only[eOut,eCode] at e115;apply wkI
        ·intro A;simp only[acall,macall,f50];simp only[go_sem,h25,h19,h17,h18,hr4,hr16,ha1,hk,hz,e114,e115,hget,hrg,h0,hlt',e86,ea,eb,e113,hrl];rfl
        ·simp[WK,eOut,eCode]
  ·simp only[BL];cases ha1:(fa.sort==1)
   ·simp only[BL];apply wkI
    ·intro A;simp only[acall,macall,f50];simp only[go_sem,h25,h19,h17,h18,hr4,hr16,ha1,hget,hrg,h0,hlt',e86,ea,eb,e113,hrl];rfl
    ·simp[WK,eOut,eCode]
   ·simp only[BL];cases hk:(fb.sort==1)
    ·simp only[BL];apply wkI
     ·intro A;simp only[acall,macall,f50];simp only[go_sem,h25,h19,h17,h18,hr4,hr16,ha1,hk,hget,hrg,h0,hlt',e86,ea,eb,e113,hrl];rfl
     ·simp[WK,eOut,eCode]
    ·simp only[BL];have e114:=c114_eq x.op fa.n fb.n hfb;have e115:=c115_eq ops ints strs rels before reached alive q x.d (aluF x.op fa.n fb.n).1 ⟨hw.lim,⟨h0,hlt⟩,hw.i200,hw.rel⟩;generalize aluF x.op fa.n fb.n=al at *;generalize puttingF ops ints strs rels q x.d al.1=pu at *;cases hz:(al.2==0)
     ·simp only[BL];apply wkI
      ·intro A;simp only[acall,macall,f50];simp only[go_sem,h25,h19,h17,h18,hr4,hr16,ha1,hk,hz,e114,hget,hrg,h0,hlt',e86,ea,eb,e113,hrl];rfl
      ·simp[WK,eOut,eCode]
     ·simp only[BL];cases pu;all_goals
       simp only[eOut,eCode] at e115;apply wkI
       ·intro A;simp only[acall,macall,f50];simp only[go_sem,h25,h19,h17,h18,hr4,hr16,ha1,hk,hz,e114,e115,hget,hrg,h0,hlt',e86,ea,eb,e113,hrl];rfl
       ·simp[WK,eOut,eCode]
noncomputable def c89:=famP (α:=(List XOp) × (List Int) × (List ByteArray) × (List XRel) × (List (List XFact)) × (List Bool) × (List Int) × Int) (fun (ops,ints,strs,rels,before,reached,alive,q)=>XW ops ints strs rels before reached alive∧0≤q∧q.toNat < ops.length) (fun (ops,ints,strs,rels,before,reached,alive,q)=>[(wv ops ints strs rels before reached alive),.int .i64 q]) (fun (ops,ints,strs,rels,before,reached,alive,q)=>eOut (foldF ops ints strs rels before reached q))
theorem c89_eq (before:List (List XFact)) (reached:List Bool) (alive:List Int) (q:Int) (hp:XW ops ints strs rels before reached alive∧0≤q∧q.toNat < ops.length):c89 [(wv ops ints strs rels before reached alive),.int .i64 q]=some (eOut (foldF ops ints strs rels before reached q)):=fam_eq (fun X Y hp hp' h'=>by
 obtain⟨ops,ints,strs,rels,before,reached,alive,q⟩:=X;obtain⟨ops',ints',strs',rels',before',reached',alive',q'⟩:=Y;simp only[INJ] at h';obtain⟨rfl,rfl,rfl,rfl,rfl,rfl,rfl,rfl⟩:=h';rfl) (ops,ints,strs,rels,before,reached,alive,q) hp
theorem snd89:Snd 50 c89:=fam_snd h89 rfl rfl fun (ops,ints,strs,rels,before,reached,alive,q) hp=>let ⟨_,hw,hr⟩:=run89 ops ints strs rels before reached alive q hp;(rc h89 hr (fun _=>[]) rfl rfl rfl (by kernel_rfl) ⟨snd86,snd47,snd113,snd114,snd112,snd115,trivial⟩ trivial).weak hw
theorem firstF_skip (p:Nat→Bool):∀ (n s m:Nat),(∀ j,s≤j→j < s+n→p j=false)→n≤m→firstF p s m=firstF p (s+n) (m - n)
 | 0,s,m,_,_=>rfl
 | n+1,s,m,h,hm=>by
   obtain⟨m',rfl⟩:∃ m',m=m'+1:=⟨m - 1,by omega⟩
   rw[firstF,if_neg (by rw[h s (Nat.le_refl _) (by omega)];simp),firstF_skip p n (s+1) m' (fun j h1 h2=>h j (by omega) (by omega)) (by omega)];rw[show s+1+n=s+(n+1) by omega,show m'+1 - (n+1)=m' - n by omega]
theorem firstF_here {p:Nat→Bool} {s m:Nat} (h:p s=true) (hm:0 < m):firstF p s m=s:=by
 obtain⟨m',rfl⟩:∃ m',m=m'+1:=⟨m - 1,by omega⟩
 rw[firstF,if_pos h]
theorem idxAt_spec {α:Type} (p:α→Bool):∀ (l:List α) (i:Nat),(idxAt p l i = -1∧∀ (j:Nat) (x:α),l[j]? = some x→p x=false)∨
 ∃ k,k < l.length∧idxAt p l i=((i+k:Nat):Int)∧(∀ (j:Nat) (x:α),j < k→l[j]? = some x→p x=false)∧∃ x,l[k]? = some x∧p x=true
 | [],i=> .inl ⟨rfl,by simp⟩
 | y::r,i=>by
   unfold idxAt;cases hy:p y
   ·simp only[BL];rcases idxAt_spec p r (i+1) with ⟨h1,h2⟩ | ⟨k,h1,h2,h3,h4⟩
    ·refine .inl ⟨h1,fun j x hx=>?_⟩;cases j with
     | zero=>simp at hx;subst hx;exact hy
     | succ j=>exact h2 j x (by simpa using hx)
    ·refine .inr ⟨k+1,by simp;omega,by rw[h2];congr 1;omega,fun j x hj hx=>?_,by simpa using h4⟩;cases j with
     | zero=>simp at hx;subst hx;exact hy
     | succ j=>exact h3 j x (by omega) (by simpa using hx)
   ·simp only[BL];exact .inr ⟨0,by simp,by simp,fun j x hj=>by omega,y,by simp,hy⟩
def eqP (ops:List XOp) (ints:List Int) (rels:List XRel) (v:Int) (k:Nat):Bool:=ints.getD k 0==v&& !(rels.any (fixF ops k))
def sameR (p:Nat→Bool) (i:Nat) (s:Int):Int:=if s = -1 then -1 else if firstF p s.toNat (i - s.toNat) < i then (firstF p s.toNat (i - s.toNat):Int) else -1
theorem sub_get {ints:List Int} {i s j:Nat} (hi:i≤ints.length):((ints.take i).drop (s+1))[j]? = if s+1+j < i then some (ints.getD (s+1+j) 0) else none:=by
 rw[List.getElem?_drop,List.getElem?_take];split
 ·rename_i h;rw[getD_get (d:=0) (by omega)]
 ·rfl
theorem same_none {ops:List XOp} {ints:List Int} {rels:List XRel} {v:Int} {i s:Nat} (hi:i≤ints.length) (hs:s < i) (hf:rels.any (fixF ops s)=true) (h:idxAt (fun x=>v==x) ((ints.take i).drop (s+1)) 0 = -1) :
 firstF (eqP ops ints rels v) s (i - s)=i:=by
 rcases idxAt_spec (fun x=>v==x) ((ints.take i).drop (s+1)) 0 with ⟨_,h2⟩ | ⟨k,_,h2,_⟩
 ·rw[firstF_skip _ (i - s) s (i - s) (fun j h3 h4=>?_) (Nat.le_refl _)]
  ·rw[Nat.sub_self,firstF];omega
  ·by_cases hj:j=s
   ·subst hj;simp[eqP,hf]
   ·have:=h2 (j - (s+1)) (ints.getD j 0) (by rw[sub_get hi,if_pos (by omega),show s+1+(j - (s+1))=j by omega]);simp only[beq_eq_false_iff_ne,ne_eq] at this;simp only[eqP,Bool.and_eq_false_iff,beq_eq_false_iff_ne,ne_eq];exact .inl fun e=>this e.symm
 ·rw[h2] at h;omega
theorem same_some {ops:List XOp} {ints:List Int} {rels:List XRel} {v:Int} {i s:Nat} (hi:i≤ints.length) (hs:s < i) (hf:rels.any (fixF ops s)=true) (h:idxAt (fun x=>v==x) ((ints.take i).drop (s+1)) 0 ≠ -1) :
 ∃ k:Nat,idxAt (fun x=>v==x) ((ints.take i).drop (s+1)) 0=(k:Int)∧s+1+k < i∧ints.getD (s+1+k) 0=v∧firstF (eqP ops ints rels v) s (i - s)=firstF (eqP ops ints rels v) (s+1+k) (i - (s+1+k)):=by
 rcases idxAt_spec (fun x=>v==x) ((ints.take i).drop (s+1)) 0 with ⟨h2,_⟩ | ⟨k,h1,h2,h3,x,h4,h5⟩
 ·exact absurd h2 h
 ·rw[sub_get hi] at h4;split at h4
  ·rename_i hk;injection h4 with h4
   refine⟨k,by rw[h2];simp,hk,by simp at h5;rw[h4,h5],?_⟩;rw[firstF_skip _ (1+k) s (i - s) (fun j h6 h7=>?_) (by omega)]
   ·congr 1 <;> omega
   ·by_cases hj:j=s
    ·subst hj;simp[eqP,hf]
    ·have:=h3 (j - (s+1)) (ints.getD j 0) (by omega) (by rw[sub_get hi,if_pos (by omega),show s+1+(j - (s+1))=j by omega]);simp only[beq_eq_false_iff_ne,ne_eq] at this;simp only[eqP,Bool.and_eq_false_iff,beq_eq_false_iff_ne,ne_eq];exact .inl fun e=>this e.symm
  ·cases h4
theorem same_start {ops:List XOp} {ints:List Int} {rels:List XRel} {v:Int} {i:Nat} (hi:i≤ints.length) :
 sameR (eqP ops ints rels v) i (idxAt (fun x=>x==v) (ints.take i) 0)=sameR (eqP ops ints rels v) i 0∧(idxAt (fun x=>x==v) (ints.take i) 0 = -1∨∃ s:Nat,idxAt (fun x=>x==v) (ints.take i) 0=s∧s < i∧ints.getD s 0=v):=by
 have hz:sameR (eqP ops ints rels v) i 0=if firstF (eqP ops ints rels v) 0 i < i then (firstF (eqP ops ints rels v) 0 i:Int) else -1:=by
  unfold sameR;rw[if_neg (by omega)];rfl
 have hget:∀ j,j < i→(ints.take i)[j]? = some (ints.getD j 0):=fun j hj=>by
  rw[List.getElem?_take,if_pos hj,getD_get (d:=0) (by omega)]
 rcases idxAt_spec (fun x=>x==v) (ints.take i) 0 with ⟨h1,h2⟩ | ⟨k,h1,h2,h3,x,h4,h5⟩
 ·refine⟨?_,.inl h1⟩;rw[h1,hz];have:firstF (eqP ops ints rels v) 0 i=i:=by
   rw[firstF_skip _ i 0 i (fun j _ h4=>?_) (Nat.le_refl _)]
   ·rw[Nat.sub_self,firstF];omega
   ·have:=h2 j _ (hget j (by omega));simp only[eqP,Bool.and_eq_false_iff];exact .inl this
  rw[this,if_neg (by omega)];rfl
 ·have hk:k < i:=by rw[List.length_take] at h1;omega
  rw[hget k hk] at h4;injection h4 with h4
  refine⟨?_,.inr ⟨k,by rw[h2];simp,hk,by simp at h5;rw[h4,h5]⟩⟩;rw[h2,hz];unfold sameR;rw[if_neg (by omega)];have:firstF (eqP ops ints rels v) 0 i=firstF (eqP ops ints rels v) k (i - k):=by
   rw[firstF_skip _ k 0 i (fun j _ h6=>?_) (by omega)]
   ·congr 1;omega
   ·have:=h3 j _ (by omega) (hget j (by omega));simp only[eqP,Bool.and_eq_false_iff];exact .inl this
  rw[this];simp
def plOp (op i same:Int) (o:XOp):XOp:=if (o.op==op)=true then (if (o.n==i)=true then ⟨o.op,o.d,o.a,o.b,same⟩ else if (decide (i < o.n))=true then ⟨o.op,o.d,o.a,o.b,o.n - 1⟩ else o) else o
def sameI (ops:List XOp) (ints:List Int) (rels:List XRel) (q:Int):Int:=if (rels.any (fixF ops q))=true then -1 else sameR (eqP ops ints rels (ints.getD q.toNat 0)) q.toNat 0
def sameS (strs:List ByteArray) (i:Int):Int:=idxAt (fun x=>(strs.getD i.toNat ⟨#[]⟩).toList==x.toList) (strs.take i.toNat) 0
def poolF (ops:List XOp) (ints:List Int) (strs:List ByteArray) (rels:List XRel) (q:Int):Option XCode:=
 if (decide (q < (ints.length:Int)))=true then
  (if ((ops.any fun o=>o.op==1&&o.n==q)&&decide (sameI ops ints rels q < 0))=true then none else some ⟨ops.map (plOp 1 q (sameI ops ints rels q)),ints.eraseIdx q.toNat,strs,rels⟩)
 else
  (if ((ops.any fun o=>o.op==2&&o.n==q - ints.length)&&decide (sameS strs (q - ints.length) < 0))=true then none else some ⟨ops.map (plOp 2 (q - ints.length) (sameS strs (q - ints.length))),ints,strs.eraseIdx (q - ints.length).toNat,rels⟩)
theorem h96:Tryd.prog.funcs[57]? = some f57:=by kernel_rfl
def D96:Nat→Option (List DH × List Nat):=fun i=>match i with | 12=>some ([⟨[7],[],[]⟩,⟨[7],[],[]⟩,⟨[7],[],[]⟩,⟨[7],[],[]⟩,⟨[7],[],[]⟩,⟨[],[7],[]⟩,⟨[],[],[]⟩],[]) | _=>none
theorem D96_12:D96 12=some ([⟨[7],[],[]⟩,⟨[7],[],[]⟩,⟨[7],[],[]⟩,⟨[7],[],[]⟩,⟨[7],[],[]⟩,⟨[],[7],[]⟩,⟨[],[],[]⟩],[]):=rfl
theorem D96_6:D96 6=none:=rfl
theorem D96_13:D96 13=none:=rfl
def H96:Nat→Hint:=fun i=>if i=5 then ({ tm:=[4,5,6,7,8,9],ob:=[4,6,7,8,3018000,3018001,3018002,3018003],fin:=some ([4,5,6,7,8,9],[4,6,7,8,3018000,3018001,3018002,3018003]) }:Hint) else if i=18 then ({ tm:=[4,5,6,7,8,9,85,86,87],ob:=[4,6,7,8,3018000,3018001,3018002,3018003],fin:=some ([4,5,6,7,8,9],[4,6,7,8,3018000,3018001,3018002,3018003]) }:Hint) else { tm:=[],ob:=[] }
theorem H96_5:H96 5=({ tm:=[4,5,6,7,8,9],ob:=[4,6,7,8,3018000,3018001,3018002,3018003],fin:=some ([4,5,6,7,8,9],[4,6,7,8,3018000,3018001,3018002,3018003]) }:Hint):=by simp[H96]
theorem H96_18:H96 18=({ tm:=[4,5,6,7,8,9,85,86,87],ob:=[4,6,7,8,3018000,3018001,3018002,3018003],fin:=some ([4,5,6,7,8,9],[4,6,7,8,3018000,3018001,3018002,3018003]) }:Hint):=by simp[H96]
theorem loop96_5 (q:Int) (h0:0≤q) (hqn:q.toNat < ints.length) (hil:ints.length≤100000) (hrl:rels.length≤100000) (hr:∀ r ∈ rels,0≤r.at_∧r.at_.toNat < ops.length) (A:Nat→Prop) (k:Nat):∀ (m:Nat) (s:Int) (σ:St),(s = -1∨∃ sn:Nat,s=sn∧sn < q.toNat∧ints.getD sn 0=ints.getD q.toNat 0∧q.toNat - sn≤m)→
 σ.keep (H96 5)=⟨[(4,.ptr 4 (.box 27) []),(5,.bool false),(6,.ptr 6 (.box 27) []),(7,.ptr 7 (.box 3) []),(8,.ptr 8 (.box 3) []),(9,.int .i64 s)],[(4,⟨.box 27,true,[n4]⟩),(6,⟨.box 27,true,[.st 27 [.own 3018000 36 0 ops.length,.own 3018001 2 0 ints.length,.own 3018002 9 0 strs.length,.own 3018003 38 0 rels.length]]⟩),(7,⟨.box 3,true,[.int .i64 1]⟩),(8,⟨.box 3,true,[.int .i64 q]⟩),(3018000,⟨.row 36,false,(ops).map eOp⟩),(3018001,⟨.row 2,false,ints.map eI⟩),(3018002,⟨.row 9,false,strs.map eS⟩),(3018003,⟨.row 38,false,rels.map eRel⟩)]⟩→
 post (H96 5) (aloop ty (arun (env 139 10633986344983520064974317284547903475 D96 [(74,c121),(76,c123),(77,c124),(78,c125),(79,c126)] [(17,c46),(81,c128),(82,c129)] A) H96 k (sub (f57.body.getD .skip) [1,1,1,0,1,0,1,0,0,0])) (H96 5) (m+1) σ)=some (.exit 0,⟨[(4,.ptr 4 (.box 27) []),(5,.bool false),(6,.ptr 6 (.box 27) []),(7,.ptr 7 (.box 3) []),(8,.ptr 8 (.box 3) []),(9,.int .i64 (sameR (eqP ops ints rels (ints.getD q.toNat 0)) q.toNat s))],[(4,⟨.box 27,true,[n4]⟩),(6,⟨.box 27,true,[.st 27 [.own 3018000 36 0 ops.length,.own 3018001 2 0 ints.length,.own 3018002 9 0 strs.length,.own 3018003 38 0 rels.length]]⟩),(7,⟨.box 3,true,[.int .i64 1]⟩),(8,⟨.box 3,true,[.int .i64 q]⟩),(3018000,⟨.row 36,false,(ops).map eOp⟩),(3018001,⟨.row 2,false,ints.map eI⟩),(3018002,⟨.row 9,false,strs.map eS⟩),(3018003,⟨.row 38,false,rels.map eRel⟩)]⟩):=by
 simp only[f57,sub,Option.getD_some,H96_5];have hgq:=getD_get (d:=(0:Int)) hqn;have hqi:q < (ints.length:Int):=by omega
 have hqle:q.toNat≤ints.length:=by omega
 intro m
 induction m with
 | zero=>
   intro s σ hs hσ;rcases hs with rfl | ⟨sn,rfl,h1,h2,h3⟩
   ·rw[aloop,hσ];simp only[go_sem,D96_6,D96_12,D96_13,c129_eq];simp[post,St.fin,keepL,aget,sameR]
   ·omega
 | succ m ih=>
   intro s σ hs hσ;rcases hs with rfl | ⟨sn,rfl,h1,h2,h3⟩
   ·rw[aloop,hσ];simp only[go_sem,D96_6,D96_12,D96_13,c129_eq];simp[post,St.fin,keepL,aget,sameR]
   have hd1:decide (0≤(sn:Int))=true:=by simp
   have hne:(sn:Int) ≠ -1:=by omega
   have e123:=c123_eq ops ints strs rels sn ⟨hrl,hr⟩;have hw:IntKind.i64.wrap ((sn:Int)+1)=((sn+1:Nat):Int):=wrap_nat (by omega);rw[aloop,hσ];cases hf:rels.any (fixF ops sn)
   ·rw[hf] at e123;have hR:sameR (eqP ops ints rels (ints.getD q.toNat 0)) q.toNat (sn:Int)=sn:=by
     unfold sameR;rw[if_neg hne,Int.toNat_natCast,firstF_here (by unfold eqP;rw[hf,h2];simp) (by omega),if_pos h1]
    rw[hR];simp only[go_sem,D96_6,D96_12,D96_13,hd1,e123];simp[post,St.fin,keepL,aget]
   ·rw[hf] at e123;have hsl:sn+1≤q.toNat:=h1;have hni1:(0:Int)≤(sn:Int)+1:=by omega
    have hni2:(0:Int)≤((sn+1:Nat):Int):=by omega
    have e124:=c124_eq ((ints.take q.toNat).drop (sn+1)) (ints.getD q.toNat 0) (by simp;omega);have hdr:(((ints.map eI).drop (sn+1)).take (q.toNat - (sn+1)))=((ints.take q.toNat).drop (sn+1)).map eI:=by
     rw[List.map_drop,List.map_take,List.drop_take]
    have hsum:sn+1+(q.toNat - (sn+1))≤ints.length:=by omega
    have hz1:(sn+1=0)=False:=by simp
    have hrest:∀ s',(idxAt (fun x=>ints.getD q.toNat 0==x) ((ints.take q.toNat).drop (sn+1)) 0=s')→True:=fun _ _=>trivial
    have hno:=same_none (ops:=ops) (rels:=rels) (v:=ints.getD q.toNat 0) hqle h1 hf;have hso:=same_some (ops:=ops) (rels:=rels) (v:=ints.getD q.toNat 0) hqle h1 hf;by_cases hk:idxAt (fun x=>ints.getD q.toNat 0==x) ((ints.take q.toNat).drop (sn+1)) 0 = -1
    ·have hR:sameR (eqP ops ints rels (ints.getD q.toNat 0)) q.toNat (sn:Int) = -1:=by
      unfold sameR;rw[if_neg hne,Int.toNat_natCast,hno hk,if_neg (by omega)]
     rw[hk] at e124;rw[hR];by_cases hlt:sn+1 < q.toNat
     ·simp only[go_sem,D96_6,D96_12,D96_13,hd1,e123,e124,hw,hni1,hni2,hsl,hdr,hsum,hz1,hlt,h0,hqi,hqle,hgq];simp[post,St.fin,keepL,aget]
     ·have heq:(ints.take q.toNat).drop (sn+1)=[]:=by rw[List.drop_eq_nil_iff,List.length_take];omega
      rw[heq] at e124;simp only[List.map_nil] at e124;simp only[go_sem,D96_6,D96_12,D96_13,hd1,e123,e124,hw,hni1,hni2,hsl,hdr,hsum,hz1,hlt,h0,hqi,hqle,hgq];simp[post,St.fin,keepL,aget]
    ·obtain⟨k,hk1,hk2,hk3,hk4⟩:=hso hk;have hlt:sn+1 < q.toNat:=by omega
     have hR:sameR (eqP ops ints rels (ints.getD q.toNat 0)) q.toNat (sn:Int)=sameR (eqP ops ints rels (ints.getD q.toNat 0)) q.toNat ((sn+1+k:Nat):Int):=by
      unfold sameR;have hne2:((sn+1+k:Nat):Int) ≠ -1:=by omega
      rw[if_neg hne,if_neg hne2,Int.toNat_natCast,Int.toNat_natCast,hk4]
     rw[hk1] at e124;rw[hR];have hkl:decide ((k:Int) < 0)=false:=by simp
     have hw2:IntKind.i64.wrap ((k:Int)+1)=(k:Int)+1:=wrap_i64 (by omega) (by omega);have hw3:IntKind.i64.wrap ((sn:Int)+((k:Int)+1))=(sn:Int)+1+(k:Int):=by rw[wrap_i64 (by omega) (by omega)];omega
     simp only[go_sem,D96_6,D96_12,D96_13,hd1,e123,e124,hw,hni1,hni2,hsl,hdr,hsum,hz1,hlt,h0,hqi,hqle,hgq,hkl,hw2,hw3];have hcc:((sn+1+k:Nat):Int)=(sn:Int)+1+(k:Int):=by omega
     rw[hcc];exact ih _ _ (.inr ⟨sn+1+k,hcc.symm,hk2,hk3,by omega⟩) (by simp only[go_sem])
theorem loop96_18 (p i s:Int) (hi0:0≤i) (hn:∀ o ∈ ops,InR o.n) (hlim:ops.length≤100000) (A:Nat→Prop) (k:Nat):∀ (m j:Nat) (σ:St),j+m=ops.length→
 σ.keep (H96 18)=⟨[(4,.ptr 4 (.box 27) []),(5,.bool false),(6,.ptr 6 (.box 27) []),(7,.ptr 7 (.box 3) []),(8,.ptr 8 (.box 3) []),(9,.int .i64 s),(85,.own 3018000 36 0 ops.length),(86,.int .i64 ops.length),(87,.int .i64 j)],[(4,⟨.box 27,true,[n4]⟩),(6,⟨.box 27,true,[.st 27 [.own 3018000 36 0 ops.length,.own 3018001 2 0 ints.length,.own 3018002 9 0 strs.length,.own 3018003 38 0 rels.length]]⟩),(7,⟨.box 3,true,[.int .i64 p]⟩),(8,⟨.box 3,true,[.int .i64 i]⟩),(3018000,⟨.row 36,false,(rowAt (plOp p i s) ops j).map eOp⟩),(3018001,⟨.row 2,false,ints.map eI⟩),(3018002,⟨.row 9,false,strs.map eS⟩),(3018003,⟨.row 38,false,rels.map eRel⟩)]⟩→
 post (H96 18) (aloop ty (arun (env 139 10633986344983520064974317284547903475 D96 [(74,c121),(76,c123),(77,c124),(78,c125),(79,c126)] [(17,c46),(81,c128),(82,c129)] A) H96 k (sub (f57.body.getD .skip) [1,1,1,1,1,1,0,1,0,0])) (H96 18) (m+1) σ)=some (.exit 2,⟨[(4,.ptr 4 (.box 27) []),(5,.bool false),(6,.ptr 6 (.box 27) []),(7,.ptr 7 (.box 3) []),(8,.ptr 8 (.box 3) []),(9,.int .i64 s)],[(4,⟨.box 27,true,[n4]⟩),(6,⟨.box 27,true,[.st 27 [.own 3018000 36 0 ops.length,.own 3018001 2 0 ints.length,.own 3018002 9 0 strs.length,.own 3018003 38 0 rels.length]]⟩),(7,⟨.box 3,true,[.int .i64 p]⟩),(8,⟨.box 3,true,[.int .i64 i]⟩),(3018000,⟨.row 36,false,(ops.map (plOp p i s)).map eOp⟩),(3018001,⟨.row 2,false,ints.map eI⟩),(3018002,⟨.row 9,false,strs.map eS⟩),(3018003,⟨.row 38,false,rels.map eRel⟩)]⟩):=by
 simp only[f57,sub,Option.getD_some,H96_18];intro m
 induction m with
 | zero=>
   intro j σ hj hσ;have h1:¬ ((j:Int) < (ops.length:Int)):=by omega
   have hlen:=rowAt_len (plOp p i s) ops j;rw[aloop,hσ];simp only[go_sem,D96_6,D96_12,D96_13,h1,hlen];simp[post,St.fin,keepL,aget,rowAt_end (plOp p i s) ops j (by omega)]
 | succ m ih=>
   intro j σ hj hσ;have h1:(j:Int) < (ops.length:Int):=by omega
   have hlt:j < ops.length:=by omega
   have hni:(0:Int)≤(j:Int):=Int.natCast_nonneg j;have hget:=rowAt_get (plOp p i s) ops j hlt;have hlen:=rowAt_len (plOp p i s) ops j;have hw:IntKind.i64.wrap ((j:Int)+1)=((j+1:Nat):Int):=wrap_nat (by omega);have hn1:=hn _ (List.getElem_mem hlt);have hsu:=rowAt_succ (plOp p i s) ops j hlt;have hsa:=rowAt_same (plOp p i s) ops j hlt;have hset:=set_map eOp (rowAt (plOp p i s) ops j) j (plOp p i s ops[j]);rw[hsu] at hset;rw[aloop,hσ];generalize ops[j]=x at *;unfold InR at hn1;have hg:plOp p i s x=if (x.op==p)=true then (if (x.n==i)=true then ⟨x.op,x.d,x.a,x.b,s⟩ else if (decide (i < x.n))=true then ⟨x.op,x.d,x.a,x.b,x.n - 1⟩ else x) else x:=rfl
   cases ha:(x.op==p) <;> cases hb:(x.n==i) <;> cases hc:decide (i < x.n);all_goals
    have hc':=hc;simp only[decide_eq_true_eq,decide_eq_false_iff_not] at hc';simp only[ha,hb,hc,BL] at hg;first
    | (have hs:=hsa hg
       have hwn:=trivial;simp only[go_sem,D96_6,D96_12,D96_13,h1,hlen,hni,hw,hget,ha,hb,hc];exact ih (j+1) _ (by omega) (by rw[← hs];simp only[go_sem]))
    | (rw[hg] at hset
       simp only[eOp] at hset;first
       | (have hwn:IntKind.i64.wrap (x.n - 1)=x.n - 1:=wrap_i64 (by omega) (by omega)
          simp only[go_sem,D96_6,D96_12,D96_13,h1,hlen,hni,hw,hget,ha,hb,hc,hset,hwn];exact ih (j+1) _ (by omega) (by simp only[go_sem]))
       | (simp only[go_sem,D96_6,D96_12,D96_13,h1,hlen,hni,hw,hget,ha,hb,hc,hset]
          exact ih (j+1) _ (by omega) (by simp only[go_sem])))
theorem run96 (before:List (List XFact)) (reached:List Bool) (alive:List Int) (q:Int) (hp:XW ops ints strs rels before reached alive∧0≤q∧q.toNat < ints.length+strs.length) :∃ r,wk r (eOut (poolF ops ints strs rels q))∧∀ A,acall (env 139 10633986344983520064974317284547903475 D96 [(74,c121),(76,c123),(77,c124),(78,c125),(79,c126)] [(17,c46),(81,c128),(82,c129)] A) (H96) (100010) f57 [(wv ops ints strs rels before reached alive),.int .i64 q]=some r:=by
 obtain⟨hw,h0,hlt⟩:=hp;have e46:=c46_eq ops ints strs rels hw.lim;have hli:ints.length≤ints.length:=Nat.le_refl _;unfold poolF;cases hq:decide (q < (ints.length:Int))
 ·simp only[BL];have hqn:(ints.length:Int)≤q:=by simpa using hq
  have hwi:IntKind.i64.wrap (q - (ints.length:Int))=q - (ints.length:Int):=wrap_i64 (by have:=hw.lim;omega) (by have:=hw.lim;omega);have hi0:0≤q - (ints.length:Int):=by omega
  have hil:(q - (ints.length:Int)).toNat < strs.length:=by omega
  obtain⟨i,hi⟩:∃ i,q - (ints.length:Int)=i:=⟨_,rfl⟩
  rw[hi] at hi0 hil hwi;have hwi:IntKind.i64.wrap (q - (ints.length:Int))=i:=by rw[hi];exact hwi
  simp only[hi];have hlt':i < (strs.length:Int):=by omega
  have hin:i.toNat≤strs.length:=by omega
  have hine:(i.toNat=strs.length)=False:=by simp;omega
  have hwq:IntKind.i64.wrap (i+1)=i+1:=wrap_i64 (by omega) (by have:=hw.lim;omega);have htk:(strs.map eS).take i.toNat=(strs.take i.toNat).map eS:=by rw[List.map_take]
  have hgs:=getD_get (d:=(⟨#[]⟩:ByteArray)) hil;have e125:=c125_eq (strs.take i.toNat) (strs.getD i.toNat ⟨#[]⟩) (by have:=hw.lim;rw[List.length_take];omega);have hsS:sameS strs i=idxAt (fun x=>(strs.getD i.toNat ⟨#[]⟩).toList==x.toList) (strs.take i.toNat) 0:=rfl;rw[← hsS] at e125;have hc2:CapsOk [.ro false 3 (.int .i64 2),.ro false 3 (.int .i64 i)]:=⟨rfl,rfl,fun k ob hk=>by obtain⟨j,rfl⟩:∃ j,k=j+3:=⟨k - 3,by omega⟩;rfl⟩
  have e126:=c126_eq ops 80 [.ro false 3 (.int .i64 2),.ro false 3 (.int .i64 i)] (fun o=>o.op==2&&o.n==i) ⟨fun r _=>c127_eq r.op r.d r.a r.b r.n 2 i,hc2,rfl,hw.lim.1⟩;have e129:=c129_eq strs i false ⟨hi0,hil,hw.lim.2.2.1⟩;have hyl:strs.length - 1=(strs.eraseIdx i.toNat).length:=by rw[List.length_eraseIdx_of_lt hil]
  generalize (ops.any fun o=>o.op==2&&o.n==i)=nm at *;generalize sameS strs i=sm at *;cases nm
  ·cases hsg:decide (sm < 0);all_goals
    simp only[BL];apply wkI
    ·intro A;have hl18:=loop96_18 ops ints strs rels 2 i sm hi0 hw.opn hw.lim.1 A 100010 ops.length 0;simp only[f57,sub,Option.getD_some,H96_5,H96_18] at hl18;simp only[acall,macall,f57];simp only[go_sem,D96_6,D96_12,D96_13,hq,hwi,hi0,hin,hine,htk,hgs,e125,e126,hsg,e46,hlt',hli,List.drop_zero,H96_5,H96_18];rw[post_le (hl18 _ (by omega) (by simp only[go_sem,rowAt_zero])) (by have:=hw.lim.1;omega)];simp only[go_sem,D96_6,D96_12,D96_13,e129,hwq,hyl,e46,hlt',hli,List.drop_zero,H96_5,H96_18];rfl
    ·simp[WK,eOut,eCode]
  ·cases hsg:decide (sm < 0)
   ·simp only[BL];apply wkI
    ·intro A;have hl18:=loop96_18 ops ints strs rels 2 i sm hi0 hw.opn hw.lim.1 A 100010 ops.length 0;simp only[f57,sub,Option.getD_some,H96_5,H96_18] at hl18;simp only[acall,macall,f57];simp only[go_sem,D96_6,D96_12,D96_13,hq,hwi,hi0,hin,hine,htk,hgs,e125,e126,hsg,e46,hlt',hli,List.drop_zero,H96_5,H96_18];rw[post_le (hl18 _ (by omega) (by simp only[go_sem,rowAt_zero])) (by have:=hw.lim.1;omega)];simp only[go_sem,D96_6,D96_12,D96_13,e129,hwq,hyl,e46,hlt',hli,List.drop_zero,H96_5,H96_18];rfl
    ·simp[WK,eOut,eCode]
   ·simp only[BL];apply wkI
    ·intro A;have hl18:=loop96_18 ops ints strs rels 2 i sm hi0 hw.opn hw.lim.1 A 100010 ops.length 0;simp only[f57,sub,Option.getD_some,H96_5,H96_18] at hl18;simp only[acall,macall,f57];simp only[go_sem,D96_6,D96_12,D96_13,hq,hwi,hi0,hin,hine,htk,hgs,e125,e126,hsg,e46,hlt',hli,List.drop_zero,H96_5,H96_18];rfl
    ·simp[WK,eOut,eCode]
 have hlt':q < (ints.length:Int):=by simpa using hq
 have hqlt:q.toNat < ints.length:=by omega
 have hqn:q.toNat≤ints.length:=by omega
 have hwq:IntKind.i64.wrap (q+1)=q+1:=wrap_i64 (by omega) (by have:=hw.lim;omega);have hqne:(q.toNat=ints.length)=False:=by simp;omega
 have htk:(ints.map eI).take q.toNat=(ints.take q.toNat).map eI:=by rw[List.map_take]
 have hc:CapsOk [.ro false 27 ((cd ops ints strs rels)),.ro false 3 (.int .i64 q)]:=⟨rfl,rfl,fun k ob hk=>by obtain⟨j,rfl⟩:∃ j,k=j+3:=⟨k - 3,by omega⟩;rfl⟩
 have e121:=c121_eq (ints.take q.toNat) 75 [.ro false 27 ((cd ops ints strs rels)),.ro false 3 (.int .i64 q)] (fun n=>n==ints.getD q.toNat 0) ⟨fun r _=>c122_eq r ops ints strs rels q ⟨h0,by omega⟩,hc,rfl,by have:=hw.lim;rw[List.length_take];omega⟩;have e123:=c123_eq ops ints strs rels q ⟨hw.lim.2.2.2,hw.rel⟩;have hc2:CapsOk [.ro false 3 (.int .i64 1),.ro false 3 (.int .i64 q)]:=⟨rfl,rfl,fun k ob hk=>by obtain⟨j,rfl⟩:∃ j,k=j+3:=⟨k - 3,by omega⟩;rfl⟩
 have e126:=c126_eq ops 80 [.ro false 3 (.int .i64 1),.ro false 3 (.int .i64 q)] (fun o=>o.op==1&&o.n==q) ⟨fun r _=>c127_eq r.op r.d r.a r.b r.n 1 q,hc2,rfl,hw.lim.1⟩;have hss:=same_start (ops:=ops) (rels:=rels) (v:=ints.getD q.toNat 0) hqn;have hst:(idxAt (fun n=>n==ints.getD q.toNat 0) (ints.take q.toNat) 0 = -1∨∃ sn:Nat,idxAt (fun n=>n==ints.getD q.toNat 0) (ints.take q.toNat) 0=sn∧sn < q.toNat∧ints.getD sn 0=ints.getD q.toNat 0∧q.toNat - sn≤q.toNat):=by
  rcases hss.2 with h | ⟨sn,h1,h2,h3⟩
  ·exact .inl h
  ·exact .inr ⟨sn,h1,h2,h3,by omega⟩
 have e128:=c128_eq ints q false ⟨h0,hqlt,hw.lim.2.1⟩;have hyl:ints.length - 1=(ints.eraseIdx q.toNat).length:=by rw[List.length_eraseIdx_of_lt hqlt]
 have hsI:sameI ops ints rels q=if (rels.any (fixF ops q))=true then -1 else sameR (eqP ops ints rels (ints.getD q.toNat 0)) q.toNat 0:=rfl
 generalize hnm:(ops.any fun o=>o.op==1&&o.n==q)=nm at *;cases hfx:rels.any (fixF ops q)
 ·rw[hfx] at e123;rw[hfx] at hsI;simp only[BL] at hsI;rw[hsI];generalize sameR (eqP ops ints rels (ints.getD q.toNat 0)) q.toNat 0=sm at *;cases nm
  ·cases hsg:decide (sm < 0);all_goals
    simp only[BL];apply wkI
    ·intro A;have hl5:=loop96_5 ops ints strs rels q h0 hqlt hw.lim.2.1 hw.lim.2.2.2 hw.rel A 100010 q.toNat (idxAt (fun n=>n==ints.getD q.toNat 0) (ints.take q.toNat) 0);have hl18:=loop96_18 ops ints strs rels 1 q sm h0 hw.opn hw.lim.1 A 100010 ops.length 0;simp only[f57,sub,Option.getD_some,H96_5,H96_18] at hl5 hl18;simp only[acall,macall,f57];simp only[go_sem,D96_6,D96_12,D96_13,hq,hqn,hqne,htk,e121,e46,h0,hlt',hli,List.drop_zero,H96_5,H96_18];rw[post_le (hl5 _ hst (by simp only[go_sem])) (by have:=hw.lim.2.1;omega)];rw[hss.1];simp only[go_sem,D96_6,D96_12,D96_13,e123,e126,hsg,e46,h0,hlt',hli,List.drop_zero,H96_5,H96_18];rw[post_le (hl18 _ (by omega) (by simp only[go_sem,rowAt_zero])) (by have:=hw.lim.1;omega)];simp only[go_sem,D96_6,D96_12,D96_13,e128,hwq,hyl,e46,h0,hlt',hli,List.drop_zero,H96_5,H96_18];rfl
    ·simp[WK,eOut,eCode]
  ·cases hsg:decide (sm < 0)
   ·simp only[BL];apply wkI
    ·intro A;have hl5:=loop96_5 ops ints strs rels q h0 hqlt hw.lim.2.1 hw.lim.2.2.2 hw.rel A 100010 q.toNat (idxAt (fun n=>n==ints.getD q.toNat 0) (ints.take q.toNat) 0);have hl18:=loop96_18 ops ints strs rels 1 q sm h0 hw.opn hw.lim.1 A 100010 ops.length 0;simp only[f57,sub,Option.getD_some,H96_5,H96_18] at hl5 hl18;simp only[acall,macall,f57];simp only[go_sem,D96_6,D96_12,D96_13,hq,hqn,hqne,htk,e121,e46,h0,hlt',hli,List.drop_zero,H96_5,H96_18];rw[post_le (hl5 _ hst (by simp only[go_sem])) (by have:=hw.lim.2.1;omega)];rw[hss.1];simp only[go_sem,D96_6,D96_12,D96_13,e123,e126,hsg,e46,h0,hlt',hli,List.drop_zero,H96_5,H96_18];rw[post_le (hl18 _ (by omega) (by simp only[go_sem,rowAt_zero])) (by have:=hw.lim.1;omega)];simp only[go_sem,D96_6,D96_12,D96_13,e128,hwq,hyl,e46,h0,hlt',hli,List.drop_zero,H96_5,H96_18];rfl
    ·simp[WK,eOut,eCode]
   ·simp only[BL];apply wkI
    ·intro A;have hl5:=loop96_5 ops ints strs rels q h0 hqlt hw.lim.2.1 hw.lim.2.2.2 hw.rel A 100010 q.toNat (idxAt (fun n=>n==ints.getD q.toNat 0) (ints.take q.toNat) 0);have hl18:=loop96_18 ops ints strs rels 1 q sm h0 hw.opn hw.lim.1 A 100010 ops.length 0;simp only[f57,sub,Option.getD_some,H96_5,H96_18] at hl5 hl18;simp only[acall,macall,f57];simp only[go_sem,D96_6,D96_12,D96_13,hq,hqn,hqne,htk,e121,e46,h0,hlt',hli,List.drop_zero,H96_5,H96_18];rw[post_le (hl5 _ hst (by simp only[go_sem])) (by have:=hw.lim.2.1;omega)];rw[hss.1];simp only[go_sem,D96_6,D96_12,D96_13,e123,e126,hsg,e46,h0,hlt',hli,List.drop_zero,H96_5,H96_18];rfl
    ·simp[WK,eOut,eCode]
 ·rw[hfx] at e123;rw[hfx] at hsI;simp only[BL] at hsI;rw[hsI];have hsg:decide ((-1:Int) < 0)=true:=rfl;cases nm
  ·simp only[BL];apply wkI
   ·intro A;have hl5:=loop96_5 ops ints strs rels q h0 hqlt hw.lim.2.1 hw.lim.2.2.2 hw.rel A 100010 q.toNat (idxAt (fun n=>n==ints.getD q.toNat 0) (ints.take q.toNat) 0);have hl18:=loop96_18 ops ints strs rels 1 q (-1) h0 hw.opn hw.lim.1 A 100010 ops.length 0;simp only[f57,sub,Option.getD_some,H96_5,H96_18] at hl5 hl18;simp only[acall,macall,f57];simp only[go_sem,D96_6,D96_12,D96_13,hq,hqn,hqne,htk,e121,e46,h0,hlt',hli,List.drop_zero,H96_5,H96_18];rw[post_le (hl5 _ hst (by simp only[go_sem])) (by have:=hw.lim.2.1;omega)];rw[hss.1];simp only[go_sem,D96_6,D96_12,D96_13,e123,e126,hsg,Int.reduceLT,e46,h0,hlt',hli,List.drop_zero,H96_5,H96_18];rw[post_le (hl18 _ (by omega) (by simp only[go_sem,rowAt_zero])) (by have:=hw.lim.1;omega)];simp only[go_sem,D96_6,D96_12,D96_13,e128,hwq,hyl,e46,h0,hlt',hli,List.drop_zero,H96_5,H96_18];rfl
   ·simp[WK,eOut,eCode]
  ·simp only[hsg,BL];apply wkI
   ·intro A;have hl5:=loop96_5 ops ints strs rels q h0 hqlt hw.lim.2.1 hw.lim.2.2.2 hw.rel A 100010 q.toNat (idxAt (fun n=>n==ints.getD q.toNat 0) (ints.take q.toNat) 0);have hl18:=loop96_18 ops ints strs rels 1 q (-1) h0 hw.opn hw.lim.1 A 100010 ops.length 0;simp only[f57,sub,Option.getD_some,H96_5,H96_18] at hl5 hl18;simp only[acall,macall,f57];simp only[go_sem,D96_6,D96_12,D96_13,hq,hqn,hqne,htk,e121,e46,h0,hlt',hli,List.drop_zero,H96_5,H96_18];rw[post_le (hl5 _ hst (by simp only[go_sem])) (by have:=hw.lim.2.1;omega)];rw[hss.1];simp only[go_sem,D96_6,D96_12,D96_13,e123,e126,hsg,Int.reduceLT,e46,h0,hlt',hli,List.drop_zero,H96_5,H96_18];rfl
   ·simp[WK,eOut,eCode]
noncomputable def c96:=famP (α:=(List XOp) × (List Int) × (List ByteArray) × (List XRel) × (List (List XFact)) × (List Bool) × (List Int) × Int) (fun (ops,ints,strs,rels,before,reached,alive,q)=>XW ops ints strs rels before reached alive∧0≤q∧q.toNat < ints.length+strs.length) (fun (ops,ints,strs,rels,before,reached,alive,q)=>[(wv ops ints strs rels before reached alive),.int .i64 q]) (fun (ops,ints,strs,rels,before,reached,alive,q)=>eOut (poolF ops ints strs rels q))
theorem c96_eq (before:List (List XFact)) (reached:List Bool) (alive:List Int) (q:Int) (hp:XW ops ints strs rels before reached alive∧0≤q∧q.toNat < ints.length+strs.length):c96 [(wv ops ints strs rels before reached alive),.int .i64 q]=some (eOut (poolF ops ints strs rels q)):=fam_eq (fun X Y hp hp' h'=>by
 obtain⟨ops,ints,strs,rels,before,reached,alive,q⟩:=X;obtain⟨ops',ints',strs',rels',before',reached',alive',q'⟩:=Y;simp only[INJ] at h';obtain⟨rfl,rfl,rfl,rfl,rfl,rfl,rfl,rfl⟩:=h';rfl) (ops,ints,strs,rels,before,reached,alive,q) hp
theorem snd96:Snd 57 c96:=fam_snd h96 rfl rfl fun (ops,ints,strs,rels,before,reached,alive,q) hp=>let ⟨_,hw,hr⟩:=run96 ops ints strs rels before reached alive q hp;(rc h96 hr (fun i=>match i with | 6=>[0,1,0,4,0,31,0,64,0,448,960,2047,4095] | 12=>[0,0,2,6,15,0,63] | 13=>[0,1,0,7,0,16,0,112,240,511,1023] | _=>[]) rfl rfl rfl (by kernel_rfl) ⟨snd121,snd123,snd124,snd125,snd126,trivial⟩ ⟨snd46,snd128,snd129,trivial⟩).weak hw
end Go.Proofs.Tryd
end
