/- Part of the proof of one statement of this seat: an abstract machine for the program, its contracts, and the statement (no condition of our own). -/
import Derived.Test.YtbdbjpdlcemeaaaDoorDp12
import Derived.Test.YtbdbjpdlcemeaaaDoorDp13
import Derived.Test.YtbdbjpdlcemeaaaDoorDp14
set_option linter.unusedSimpArgs false
set_option linter.unusedVariables false
section
set_option maxHeartbeats 4000000
set_option maxRecDepth 20000
namespace Go.Proofs.Tryd
open Go Go.Abs
def uset (g:Nat→Bool) (us:List Int):Nat→Bool:=fun i=>g i || us.any fun u=>i==u.toNat
def dset (g:Nat→Bool) (o:XOp):Nat→Bool:=fun i=>g i || ((formF o.op).d&&i==o.d.toNat)
def oset (g:Nat→Bool) (o:XOp):Nat→Bool:=uset (dset g o) (usesF o.op o.a o.b)
def nmF (ops:List XOp):Nat→Bool:=ops.foldl oset fun _=>false
def kMatch (x c:XCode) (r s:XRel):Bool:=(r.kind==s.kind)&&((r.str.toList==s.str.toList)&&((r.mem.toList==s.mem.toList)&&((x.ops.getD r.at_.toNat op0).op==(c.ops.getD s.at_.toNat op0).op)))
def kInt (x c:XCode) (r s:XRel):Bool:= !((x.ops.getD r.at_.toNat op0).op==1) || (x.ints.getD (x.ops.getD r.at_.toNat op0).n.toNat 0==c.ints.getD (c.ops.getD s.at_.toNat op0).n.toNat 0)
def kOne (x c:XCode) (r:XRel):Bool:=c.rels.any fun s=>kMatch x c r s&&kInt x c r s
def keptF (x c:XCode):Bool:=x.rels.all (kOne x c)&&decide (x.rels.length≤c.rels.length)
def NR (ops:List XOp) (f:List XFact):Prop:=∀ x ∈ f,x.sort=2→nmF ops x.n.toNat=true
theorem NR.set {ops:List XOp} {f:List XFact} (h:NR ops f) {i:Nat} {s n:Int} (hn:s=2→nmF ops n.toNat=true):NR ops (f.set i ⟨s,n⟩):=fun x hx=>by
 rcases List.mem_or_eq_of_mem_set hx with h1 | h1
 ·exact h x h1
 ·subst h1;exact hn
theorem NR.getD {ops:List XOp} {f:List XFact} (h:NR ops f) (i:Nat):(f.getD i ⟨0,0⟩).sort=2→nmF ops (f.getD i ⟨0,0⟩).n.toNat=true:=by
 rcases Nat.lt_or_ge i f.length with hi | hi
 ·exact h _ (getD_memF hi)
 ·rw[List.getD_eq_getElem?_getD,List.getElem?_eq_none hi];intro h2;cases h2
def SN (ops:List XOp) (s:List (List XFact) × List Bool):Prop:=∀ f ∈ s.1,NR ops f
theorem SN.getD {ops:List XOp} {s:List (List XFact) × List Bool} (h:SN ops s) (i:Nat):NR ops (s.1.getD i []):=by
 rcases Nat.lt_or_ge i s.1.length with hi | hi
 ·exact h _ (getD_memG hi)
 ·rw[List.getD_eq_getElem?_getD,List.getElem?_eq_none hi];intro x hx;simp at hx
theorem SN.set {ops:List XOp} {s:List (List XFact) × List Bool} (h:SN ops s) {i:Nat} {f:List XFact} (hf:NR ops f) (r:List Bool):SN ops (s.1.set i f,r):=fun g hg=>by
 rcases List.mem_or_eq_of_mem_set hg with h1 | h1
 ·exact h g h1
 ·subst h1;exact hf


def fiveC:XCode:=⟨[⟨1,0,0,0,0⟩,⟨1,1,0,0,1⟩,⟨4,2,0,1,0⟩,⟨40,0,2,0,0⟩],[2,3],[],[]⟩
def moveC:XCode:=⟨[⟨3,1,0,0,0⟩,⟨40,0,1,0,0⟩],[],[],[]⟩
def divC:XCode:=⟨[⟨7,0,1,2,0⟩,⟨40,0,1,0,0⟩],[],[],[]⟩
def wrapC:XCode:=⟨[⟨26,0,1,0,8⟩,⟨19,2,0,0,32⟩,⟨40,0,2,0,0⟩],[],[],[]⟩
def jumpC:XCode:=⟨[⟨25,0,0,0,2⟩,⟨24,0,0,0,3⟩,⟨24,0,0,0,3⟩,⟨40,0,0,0,0⟩],[],[],[]⟩
def endC:XCode:=⟨[⟨1,2,0,0,0⟩,⟨40,0,2,0,0⟩],[5],[],[]⟩
def retC:XCode:=⟨[⟨40,0,0,0,0⟩],[],[],[]⟩
def foldedC:XCode:=⟨[⟨1,0,0,0,0⟩,⟨1,1,0,0,1⟩,⟨1,2,0,0,2⟩,⟨40,0,2,0,0⟩],[2,3,5],[],[]⟩
def wrappedC:XCode:=⟨[⟨26,0,1,0,8⟩,⟨3,2,0,0,0⟩,⟨40,0,2,0,0⟩],[],[],[]⟩
def jumpedC:XCode:=⟨[⟨25,0,0,0,3⟩,⟨24,0,0,0,3⟩,⟨24,0,0,0,3⟩,⟨40,0,0,0,0⟩],[],[],[]⟩
def xinB (c:XCode):Bool:=decide (c.ops.length≤100000)&&(decide (c.ints.length≤100000)&&(decide (c.strs.length≤100000)&&(c.rels.isEmpty&&(c.ops.all (fun o=>decide (-1000≤o.n)&&decide (o.n≤1000))&&c.ints.all fun n=>decide (-1000≤n)&&decide (n≤1000)))))
theorem xinB_ok {c:XCode} (h:xinB c=true):XIn c.ops c.ints c.strs c.rels:=by
 unfold xinB at h;simp only[Bool.and_eq_true,decide_eq_true_eq,List.all_eq_true,List.isEmpty_iff] at h;obtain⟨h1,h2,h3,h4,h5,h6⟩:=h;exact⟨⟨h1,h2,h3,by rw[h4];simp⟩,(fun r hr=>by rw[h4] at hr;cases hr),(fun o ho=>by have:=h5 o ho;unfold InR;omega),(fun n hn=>by have:=h6 n hn;unfold InR;omega)⟩
theorem ck_five:checkC fiveC=true:=by kernel_rfl
theorem e22_five:c22 [.st 27 [.sl 36 gF [.st 36 [.int .i64 1,.int .i64 0,.int .i64 0,.int .i64 0,.int .i64 0],.st 36 [.int .i64 1,.int .i64 1,.int .i64 0,.int .i64 0,.int .i64 1],.st 36 [.int .i64 4,.int .i64 2,.int .i64 0,.int .i64 1,.int .i64 0],.st 36 [.int .i64 40,.int .i64 0,.int .i64 2,.int .i64 0,.int .i64 0]],.sl 2 gF [.int .i64 2,.int .i64 3],.sl 9 gF [],.sl 38 gF []]]=some (.tup [.st 27 [.sl 36 gF [.st 36 [.int .i64 1,.int .i64 2,.int .i64 0,.int .i64 0,.int .i64 0],.st 36 [.int .i64 40,.int .i64 0,.int .i64 2,.int .i64 0,.int .i64 0]],.sl 2 gF [.int .i64 5],.sl 9 gF [],.sl 38 gF []],.sl 49 gT [.st 49 [.int .i64 1,.int .i64 2],.st 49 [.int .i64 3,.int .i64 0],.st 49 [.int .i64 3,.int .i64 0],.st 49 [.int .i64 8,.int .i64 0],.st 49 [.int .i64 8,.int .i64 0]],.int .i64 0]):=by
 have h:=c22_eq fiveC 30 (endC,[⟨1,2⟩,⟨3,0⟩,⟨3,0⟩,⟨8,0⟩,⟨8,0⟩]) ⟨xinB_ok (by kernel_rfl),by decide,by rw[if_pos ck_five];kernel_rfl⟩;rw[ck_five] at h;exact h
theorem ck_move:checkC moveC=true:=by kernel_rfl
theorem e22_move:c22 [.st 27 [.sl 36 gF [.st 36 [.int .i64 3,.int .i64 1,.int .i64 0,.int .i64 0,.int .i64 0],.st 36 [.int .i64 40,.int .i64 0,.int .i64 1,.int .i64 0,.int .i64 0]],.sl 2 gF [],.sl 9 gF [],.sl 38 gF []]]=some (.tup [.st 27 [.sl 36 gF [.st 36 [.int .i64 40,.int .i64 0,.int .i64 0,.int .i64 0,.int .i64 0]],.sl 2 gF [],.sl 9 gF [],.sl 38 gF []],.sl 49 gT [.st 49 [.int .i64 2,.int .i64 1],.st 49 [.int .i64 3,.int .i64 0]],.int .i64 0]):=by
 have h:=c22_eq moveC 30 (retC,[⟨2,1⟩,⟨3,0⟩]) ⟨xinB_ok (by kernel_rfl),by decide,by rw[if_pos ck_move];kernel_rfl⟩;rw[ck_move] at h;exact h
theorem a_five_1:applyE fiveC.ops fiveC.ints fiveC.strs fiveC.rels 1 2=(some foldedC,0):=by kernel_rfl
theorem e11_five:c11 [.st 27 [.sl 36 gF [.st 36 [.int .i64 1,.int .i64 0,.int .i64 0,.int .i64 0,.int .i64 0],.st 36 [.int .i64 1,.int .i64 1,.int .i64 0,.int .i64 0,.int .i64 1],.st 36 [.int .i64 4,.int .i64 2,.int .i64 0,.int .i64 1,.int .i64 0],.st 36 [.int .i64 40,.int .i64 0,.int .i64 2,.int .i64 0,.int .i64 0]],.sl 2 gF [.int .i64 2,.int .i64 3],.sl 9 gF [],.sl 38 gF []],.st 49 [.int .i64 1,.int .i64 2]]=some (.tup [.st 27 [.sl 36 gF [.st 36 [.int .i64 1,.int .i64 0,.int .i64 0,.int .i64 0,.int .i64 0],.st 36 [.int .i64 1,.int .i64 1,.int .i64 0,.int .i64 0,.int .i64 1],.st 36 [.int .i64 1,.int .i64 2,.int .i64 0,.int .i64 0,.int .i64 2],.st 36 [.int .i64 40,.int .i64 0,.int .i64 2,.int .i64 0,.int .i64 0]],.sl 2 gF [.int .i64 2,.int .i64 3,.int .i64 5],.sl 9 gF [],.sl 38 gF []],.int .i64 0]):=by
 have h:=c11_eq fiveC.ops fiveC.ints fiveC.strs fiveC.rels 1 2 (xinB_ok (by kernel_rfl));rw[a_five_1] at h;exact h
theorem a_wrap_6:applyE wrapC.ops wrapC.ints wrapC.strs wrapC.rels 6 1=(some wrappedC,0):=by kernel_rfl
theorem e11_wrap:c11 [.st 27 [.sl 36 gF [.st 36 [.int .i64 26,.int .i64 0,.int .i64 1,.int .i64 0,.int .i64 8],.st 36 [.int .i64 19,.int .i64 2,.int .i64 0,.int .i64 0,.int .i64 32],.st 36 [.int .i64 40,.int .i64 0,.int .i64 2,.int .i64 0,.int .i64 0]],.sl 2 gF [],.sl 9 gF [],.sl 38 gF []],.st 49 [.int .i64 6,.int .i64 1]]=some (.tup [.st 27 [.sl 36 gF [.st 36 [.int .i64 26,.int .i64 0,.int .i64 1,.int .i64 0,.int .i64 8],.st 36 [.int .i64 3,.int .i64 2,.int .i64 0,.int .i64 0,.int .i64 0],.st 36 [.int .i64 40,.int .i64 0,.int .i64 2,.int .i64 0,.int .i64 0]],.sl 2 gF [],.sl 9 gF [],.sl 38 gF []],.int .i64 0]):=by
 have h:=c11_eq wrapC.ops wrapC.ints wrapC.strs wrapC.rels 6 1 (xinB_ok (by kernel_rfl));rw[a_wrap_6] at h;exact h
theorem a_jump_4:applyE jumpC.ops jumpC.ints jumpC.strs jumpC.rels 4 0=(some jumpedC,0):=by kernel_rfl
theorem e11_jump:c11 [.st 27 [.sl 36 gF [.st 36 [.int .i64 25,.int .i64 0,.int .i64 0,.int .i64 0,.int .i64 2],.st 36 [.int .i64 24,.int .i64 0,.int .i64 0,.int .i64 0,.int .i64 3],.st 36 [.int .i64 24,.int .i64 0,.int .i64 0,.int .i64 0,.int .i64 3],.st 36 [.int .i64 40,.int .i64 0,.int .i64 0,.int .i64 0,.int .i64 0]],.sl 2 gF [],.sl 9 gF [],.sl 38 gF []],.st 49 [.int .i64 4,.int .i64 0]]=some (.tup [.st 27 [.sl 36 gF [.st 36 [.int .i64 25,.int .i64 0,.int .i64 0,.int .i64 0,.int .i64 3],.st 36 [.int .i64 24,.int .i64 0,.int .i64 0,.int .i64 0,.int .i64 3],.st 36 [.int .i64 24,.int .i64 0,.int .i64 0,.int .i64 0,.int .i64 3],.st 36 [.int .i64 40,.int .i64 0,.int .i64 0,.int .i64 0,.int .i64 0]],.sl 2 gF [],.sl 9 gF [],.sl 38 gF []],.int .i64 0]):=by
 have h:=c11_eq jumpC.ops jumpC.ints jumpC.strs jumpC.rels 4 0 (xinB_ok (by kernel_rfl));rw[a_jump_4] at h;exact h
theorem a_div_0:applyE divC.ops divC.ints divC.strs divC.rels 0 0=(none,170):=by kernel_rfl
theorem e14_div:c14 [.st 27 [.sl 36 gF [.st 36 [.int .i64 7,.int .i64 0,.int .i64 1,.int .i64 2,.int .i64 0],.st 36 [.int .i64 40,.int .i64 0,.int .i64 1,.int .i64 0,.int .i64 0]],.sl 2 gF [],.sl 9 gF [],.sl 38 gF []],.st 49 [.int .i64 0,.int .i64 0]]=some (.int .i64 170):=by
 have h:=c14_eq divC.ops divC.ints divC.strs divC.rels 0 0 (xinB_ok (by kernel_rfl));rw[a_div_0] at h;exact h
theorem st_div:stepsE divC.ops divC.ints divC.strs divC.rels=[]:=by kernel_rfl
theorem ck_div:checkF divC.ops divC.ints divC.strs divC.rels=true:=by kernel_rfl
theorem e15_div:c15 [.st 27 [.sl 36 gF [.st 36 [.int .i64 7,.int .i64 0,.int .i64 1,.int .i64 2,.int .i64 0],.st 36 [.int .i64 40,.int .i64 0,.int .i64 1,.int .i64 0,.int .i64 0]],.sl 2 gF [],.sl 9 gF [],.sl 38 gF []]]=some (.tup [.sl 49 gT [],.int .i64 0]):=by
 have h:=c15_eq divC.ops divC.ints divC.strs divC.rels (xinB_ok (by kernel_rfl));rw[ck_div,st_div] at h;exact h
theorem s_end:sameF endC endC=true:=by kernel_rfl
theorem e13_end:c13 [.st 27 [.sl 36 gF [.st 36 [.int .i64 1,.int .i64 2,.int .i64 0,.int .i64 0,.int .i64 0],.st 36 [.int .i64 40,.int .i64 0,.int .i64 2,.int .i64 0,.int .i64 0]],.sl 2 gF [.int .i64 5],.sl 9 gF [],.sl 38 gF []],.st 27 [.sl 36 gF [.st 36 [.int .i64 1,.int .i64 2,.int .i64 0,.int .i64 0,.int .i64 0],.st 36 [.int .i64 40,.int .i64 0,.int .i64 2,.int .i64 0,.int .i64 0]],.sl 2 gF [.int .i64 5],.sl 9 gF [],.sl 38 gF []]]=some (.bool true):=by
 have h:=c13_eq endC endC (by decide);rw[s_end] at h;exact h
theorem s_ret:sameF retC retC=true:=by kernel_rfl
theorem e13_ret:c13 [.st 27 [.sl 36 gF [.st 36 [.int .i64 40,.int .i64 0,.int .i64 0,.int .i64 0,.int .i64 0]],.sl 2 gF [],.sl 9 gF [],.sl 38 gF []],.st 27 [.sl 36 gF [.st 36 [.int .i64 40,.int .i64 0,.int .i64 0,.int .i64 0,.int .i64 0]],.sl 2 gF [],.sl 9 gF [],.sl 38 gF []]]=some (.bool true):=by
 have h:=c13_eq retC retC (by decide);rw[s_ret] at h;exact h
theorem h32:Tryd.prog.funcs[13]? = some f13:=by kernel_rfl
theorem run32 (o d a b n:Int) (A:Nat→Prop):acall (env 17 1055 D0 [] [] A) hN (5) f13 [.int .i64 o,.int .i64 d,.int .i64 a,.int .i64 b,.int .i64 n]=some (.st 36 [.int .i64 o,.int .i64 d,.int .i64 a,.int .i64 b,.int .i64 n]):=by
 simp only[acall,macall,f13];simp only[go_sem];try rfl
noncomputable def c32:=famP (α:=Int × Int × Int × Int × Int) (fun _=>True) (fun (o,d,a,b,n)=>[.int .i64 o,.int .i64 d,.int .i64 a,.int .i64 b,.int .i64 n]) (fun (o,d,a,b,n)=> .st 36 [.int .i64 o,.int .i64 d,.int .i64 a,.int .i64 b,.int .i64 n])
theorem c32_eq (o d a b n:Int):c32 [.int .i64 o,.int .i64 d,.int .i64 a,.int .i64 b,.int .i64 n]=some (.st 36 [.int .i64 o,.int .i64 d,.int .i64 a,.int .i64 b,.int .i64 n]):=fam_eq (fun X Y hp hp' h'=>by
 obtain⟨o,d,a,b,n⟩:=X;obtain⟨o',d',a',b',n'⟩:=Y;simp only[INJ] at h';obtain⟨rfl,rfl,rfl,rfl,rfl⟩:=h';rfl) (o,d,a,b,n) trivial
theorem snd32:Snd 13 c32:=fam_snd h32 rfl rfl fun (o,d,a,b,n) _=>rc h32 (fun A=>run32 o d a b n A) (fun _=>[]) rfl rfl rfl (by kernel_rfl) trivial trivial
theorem h31:Tryd.prog.funcs[11]? = some f11:=by kernel_rfl
theorem run31  :∃ r,wk r (.st 27 [.sl 36 gT [.st 36 [.int .i64 1,.int .i64 0,.int .i64 0,.int .i64 0,.int .i64 0],.st 36 [.int .i64 1,.int .i64 1,.int .i64 0,.int .i64 0,.int .i64 1],.st 36 [.int .i64 4,.int .i64 2,.int .i64 0,.int .i64 1,.int .i64 0],.st 36 [.int .i64 40,.int .i64 0,.int .i64 2,.int .i64 0,.int .i64 0]],.sl 2 gT [.int .i64 2,.int .i64 3],.sl 9 gT [],.sl 38 gT []])∧∀ A,acall (env 8 1 D0 [(13,c32)] [] A) hN (5) f11 []=some r:=by
 apply wkI
 ·intro A;simp only[acall,macall,f11];simp only[go_sem,c32_eq];try rfl
 ·simp[WK,eOut,eCode]
noncomputable def c31:=famP (α:=Unit) (fun _=>True) (fun _=>[]) (fun _=> .st 27 [.sl 36 gT [.st 36 [.int .i64 1,.int .i64 0,.int .i64 0,.int .i64 0,.int .i64 0],.st 36 [.int .i64 1,.int .i64 1,.int .i64 0,.int .i64 0,.int .i64 1],.st 36 [.int .i64 4,.int .i64 2,.int .i64 0,.int .i64 1,.int .i64 0],.st 36 [.int .i64 40,.int .i64 0,.int .i64 2,.int .i64 0,.int .i64 0]],.sl 2 gT [.int .i64 2,.int .i64 3],.sl 9 gT [],.sl 38 gT []])
theorem c31_eq :c31 []=some (.st 27 [.sl 36 gT [.st 36 [.int .i64 1,.int .i64 0,.int .i64 0,.int .i64 0,.int .i64 0],.st 36 [.int .i64 1,.int .i64 1,.int .i64 0,.int .i64 0,.int .i64 1],.st 36 [.int .i64 4,.int .i64 2,.int .i64 0,.int .i64 1,.int .i64 0],.st 36 [.int .i64 40,.int .i64 0,.int .i64 2,.int .i64 0,.int .i64 0]],.sl 2 gT [.int .i64 2,.int .i64 3],.sl 9 gT [],.sl 38 gT []]):=fam_eq (fun _ _ _ _ _=>rfl) () trivial
theorem snd31:Snd 11 c31:=fam_snd h31 rfl rfl fun _ _=>let ⟨_,hw,hr⟩:=run31 ;(rc h31 hr (fun _=>[]) rfl rfl rfl (by kernel_rfl) ⟨snd32,trivial⟩ trivial).weak hw
def Z8 (i:Nat):List Nat:=if i=4 then [35] else if i=8 then [55] else if i=10 then [67] else []
theorem h8:Tryd.prog.funcs[5]? = some f5:=by kernel_rfl
def D8:Nat→Option (List DH × List Nat):=fun i=>match i with | 15=>some ([⟨[],[],[133]⟩,⟨[],[],[133]⟩,⟨[],[],[133]⟩,⟨[],[],[133]⟩,⟨[],[],[133]⟩,⟨[],[],[133]⟩,⟨[],[],[133]⟩,⟨[133],[],[133]⟩,⟨[],[],[133]⟩,⟨[],[133],[]⟩,⟨[],[],[]⟩,⟨[],[],[]⟩,⟨[],[],[]⟩,⟨[],[],[]⟩,⟨[],[],[]⟩,⟨[],[],[]⟩,⟨[],[],[]⟩,⟨[],[],[]⟩,⟨[],[],[]⟩,⟨[],[],[]⟩,⟨[],[],[]⟩,⟨[],[],[]⟩,⟨[],[],[]⟩,⟨[],[],[]⟩,⟨[],[],[]⟩,⟨[],[],[]⟩,⟨[],[],[]⟩,⟨[],[],[]⟩,⟨[],[],[]⟩,⟨[],[],[]⟩,⟨[],[],[]⟩,⟨[],[],[]⟩,⟨[],[],[]⟩,⟨[],[],[]⟩,⟨[],[],[]⟩,⟨[],[],[]⟩],[133]) | _=>none
theorem D8_15:D8 15=some ([⟨[],[],[133]⟩,⟨[],[],[133]⟩,⟨[],[],[133]⟩,⟨[],[],[133]⟩,⟨[],[],[133]⟩,⟨[],[],[133]⟩,⟨[],[],[133]⟩,⟨[133],[],[133]⟩,⟨[],[],[133]⟩,⟨[],[133],[]⟩,⟨[],[],[]⟩,⟨[],[],[]⟩,⟨[],[],[]⟩,⟨[],[],[]⟩,⟨[],[],[]⟩,⟨[],[],[]⟩,⟨[],[],[]⟩,⟨[],[],[]⟩,⟨[],[],[]⟩,⟨[],[],[]⟩,⟨[],[],[]⟩,⟨[],[],[]⟩,⟨[],[],[]⟩,⟨[],[],[]⟩,⟨[],[],[]⟩,⟨[],[],[]⟩,⟨[],[],[]⟩,⟨[],[],[]⟩,⟨[],[],[]⟩,⟨[],[],[]⟩,⟨[],[],[]⟩,⟨[],[],[]⟩,⟨[],[],[]⟩,⟨[],[],[]⟩,⟨[],[],[]⟩,⟨[],[],[]⟩],[133]):=rfl
theorem D8_14:D8 14=none:=rfl
theorem run8  (A:Nat→Prop):acall (envX (Z8) lentF 159 81129638414606681695789007240959 D8 [(11,c31),(13,c32),(7,c22),(12,c11),(8,c15),(14,c13),(15,c14)] [] A) hN (5) f5 []=some (.bool true):=by
 have z4:Z8 4=[35]:=rfl;have z8:Z8 8=[55]:=rfl;have z10:Z8 10=[67]:=rfl;have zz:∀ i,i ≠ 4→i ≠ 8→i ≠ 10→Z8 i=[]:=fun i a b c=>by simp[Z8,a,b,c]
 simp only[acall,macall,f5];simp only[go_sem,D8_14,D8_15,c31_eq,c32_eq,z4,z8,z10,zz,ne_eq,not_false_eq_true,St.freeze1,frzO,frzM,frzB,frzVL,frzV,allLeaf,e22_five,e22_move,e13_end,e13_ret,e15_div,e14_div,e11_five,e11_wrap,e11_jump];try rfl
noncomputable def c8:=famP (α:=Unit) (fun _=>True) (fun _=>[]) (fun _=> .bool true)
theorem c8_eq :c8 []=some (.bool true):=fam_eq (fun _ _ _ _ _=>rfl) () trivial
theorem snd8:Snd 5 c8:=fam_snd h8 rfl rfl fun _ _=>rX h8 (fun A=>run8  A) (fun i=>match i with | 14=>[0,1,3,7,15,31,63,127,255,31,1023,2047,4095] | 15=>[0,1,3,3,15,31,63,127,127,383,895,2047,4095,8191,16383,32767,65535,131071,262143,524287,1048575,2097151,4194303,8388607,16777215,33554431,67108863,134217727,268435455,536870911,1073741823,1073741823,4294967295,8589934591,17179869183,34359738367] | _=>[]) rfl rfl rfl (by kernel_rfl) ⟨snd31,snd32,snd22,snd11,snd15,snd13,snd14,trivial⟩ trivial
structure KGood (c x:XCode):Prop where
 xin:XIn x.ops x.ints x.strs x.rels
 strs:∀ s ∈ x.strs,s.size≤9223372036854775807
 ck:checkC x=true
 len:x.ops.length≤c.ops.length
 kept:keptF x c=true
 nm:∀ i,nmF x.ops i=true→nmF c.ops i=true
theorem mem_stepsQ (ap:Int→Option XCode) (r:Int) (t:Int × Int × XCode):∀ (m:Nat) (q:Int),t ∈ stepsQ ap r m q↔t.1=r∧q≤t.2.1∧t.2.1 < q+m∧ap t.2.1=some t.2.2
 | 0,q=>by
   simp only[stepsQ,List.not_mem_nil,false_iff];rintro⟨_,h1,h2,_⟩;omega
 | m+1,q=>by
   rw[stepsQ,List.mem_append,mem_stepsQ ap r t m (q+1)];constructor
   ·rintro (h | ⟨h1,h2,h3,h4⟩)
    ·cases he:ap q with
     | none=>rw[he] at h;cases h
     | some c=>
       rw[he] at h;simp only[List.mem_singleton] at h;subst h;exact⟨rfl,Int.le_refl _,by show q < q+((m+1:Nat):Int);omega,he⟩
    ·exact⟨h1,by omega,by omega,h4⟩
   ·rintro⟨h1,h2,h3,h4⟩;by_cases e:t.2.1=q
    ·left;rw[e] at h4;rw[h4];obtain⟨t1,t2,t3⟩:=t;simp only at h1 e;subst h1;subst e;exact List.mem_singleton.2 rfl
    ·exact .inr ⟨h1,by omega,by omega,h4⟩
theorem mem_stepsR (ap:Int→Int→Option XCode) (pl:Int→Int) (t:Int × Int × XCode):∀ (m:Nat) (r:Int),t ∈ stepsR ap pl m r↔r≤t.1∧t.1 < r+m∧0≤t.2.1∧t.2.1 < pl t.1∧ap t.1 t.2.1=some t.2.2
 | 0,r=>by
   simp only[stepsR,List.not_mem_nil,false_iff];rintro⟨h1,h2,_⟩;omega
 | m+1,r=>by
   rw[stepsR,List.mem_append,mem_stepsR ap pl t m (r+1),mem_stepsQ];constructor
   ·rintro (⟨h1,h2,h3,h4⟩ | ⟨h1,h2,h3⟩)
    ·rw[← h1] at h3 h4;exact⟨by omega,by omega,h2,by omega,h4⟩
    ·exact⟨by omega,by omega,h3⟩
   ·rintro⟨h1,h2,h3,h4,h5⟩;by_cases e:t.1=r
    ·left;rw[e] at h4 h5;exact⟨e,h3,by omega,h5⟩
    ·exact .inr ⟨by omega,by omega,h3,h4,h5⟩
theorem rule_rng {r:Int} (h:(ruleFn r).isSome=true):1≤r∧r < 9:=by
 revert h;unfold ruleFn;repeat' split
 all_goals rename_i h1;intro h
 all_goals first
  | (cases h;done)
  | (simp only[beq_iff_eq] at h1;omega)
theorem apply_step {ops:List XOp} {ints:List Int} {strs:List ByteArray} {rels:List XRel} {before:List (List XFact)} {reached:List Bool} {alive:List Int} {rule q:Int} {c:XCode} (h:applyF ops ints strs rels before reached alive rule q=some c):(1≤rule∧rule < 9)∧0≤q∧q < placesF ops ints strs rule∧stepF ops ints strs rels before reached alive rule q=some c:=by
 unfold applyF at h;split at h
 ·rename_i hr;split at h
  ·cases h
  ·rename_i h1;split at h
   ·cases h
   ·rename_i h2;simp only[decide_eq_true_eq] at h1 h2;cases hs:stepF ops ints strs rels before reached alive rule q with
    | none=>rw[hs] at h;cases h
    | some c'=>
      rw[hs,Option.bind_some] at h;split at h
      ·injection h with h;subst h
       exact⟨rule_rng hr,by omega,by omega,rfl⟩
      ·cases h
 ·cases h
theorem mem_stepsW {ops:List XOp} {ints:List Int} {strs:List ByteArray} {rels:List XRel} {before:List (List XFact)} {reached:List Bool} {alive:List Int} {r q:Int} {x:XCode} :
 (r,q,x) ∈ stepsW ops ints strs rels before reached alive↔applyF ops ints strs rels before reached alive r q=some x:=by
 unfold stepsW;rw[mem_stepsR];constructor
 ·exact fun h=>h.2.2.2.2
 ·intro h;obtain⟨h1,h2,h3,_⟩:=apply_step h;exact⟨h1.1,by show r < 1+(8:Nat);omega,h2,h3,h⟩
end Go.Proofs.Tryd
end
