/- Part of the proof of one statement of this seat: an abstract machine for the program, its contracts, and the statement (no condition of our own). -/
import Derived.Test.YtbdbjpdlcemeaaaGreatDoorKp12
import Derived.Test.YtbdbjpdlcemeaaaGreatDoorKp14
import Derived.Test.YtbdbjpdlcemeaaaGreatDoorKp15
import Derived.Test.YtbdbjpdlcemeaaaGreatDoorKp16
set_option linter.unusedSimpArgs false
set_option linter.unusedVariables false
section
set_option maxHeartbeats 4000000
set_option maxRecDepth 20000
namespace Go.Proofs.Tryz
open Go Go.Abs
def fiveC:XCode:=⟨[⟨1,0,0,0,0⟩,⟨1,1,0,0,1⟩,⟨4,2,0,1,0⟩,⟨40,0,2,0,0⟩],[2,3],[],[]⟩
def moveC:XCode:=⟨[⟨3,1,0,0,0⟩,⟨40,0,1,0,0⟩],[],[],[]⟩
def divC:XCode:=⟨[⟨7,0,1,2,0⟩,⟨40,0,1,0,0⟩],[],[],[]⟩
def wrapC:XCode:=⟨[⟨26,0,1,0,8⟩,⟨19,2,0,0,32⟩,⟨40,0,2,0,0⟩],[],[],[]⟩
def jumpC:XCode:=⟨[⟨25,0,0,0,2⟩,⟨24,0,0,0,3⟩,⟨24,0,0,0,3⟩,⟨40,0,0,0,0⟩],[],[],[]⟩
def endC:XCode:=⟨[⟨1,2,0,0,0⟩,⟨40,0,2,0,0⟩],[5],[],[]⟩
def retC:XCode:=⟨[⟨40,0,0,0,0⟩],[],[],[]⟩
def foldedC:XCode:=⟨[⟨1,0,0,0,0⟩,⟨1,1,0,0,1⟩,⟨1,2,0,0,2⟩,⟨40,0,2,0,0⟩],[2,3,5],[],[]⟩
def wrappedC:XCode:=⟨[⟨26,0,1,0,8⟩,⟨3,2,0,0,0⟩,⟨40,0,2,0,0⟩],[],[],[]⟩
def jumpedC:XCode:=⟨[⟨25,0,0,0,3⟩,⟨24,0,0,0,3⟩,⟨24,0,0,0,3⟩,⟨40,0,0,0,0⟩],[],[],[]⟩
def xinB (c:XCode):Bool:=decide (c.ops.length≤100000)&&(decide (c.ints.length≤100000)&&(decide (c.strs.length≤100000)&&(c.rels.isEmpty&&(c.ops.all (fun o=>decide (-1000≤o.n)&&decide (o.n≤1000))&&c.ints.all fun n=>decide (-1000≤n)&&decide (n≤1000)))))
theorem xinB_ok {c:XCode} (h:xinB c=true):XIn c.ops c.ints c.strs c.rels:=by
 unfold xinB at h
 simp only[Bool.and_eq_true,decide_eq_true_eq,List.all_eq_true,List.isEmpty_iff] at h
 obtain⟨h1,h2,h3,h4,h5,h6⟩:=h
 exact⟨⟨h1,h2,h3,by rw[h4];simp⟩,(fun r hr=>by rw[h4] at hr;cases hr),(fun o ho=>by have:=h5 o ho;unfold InR;omega),(fun n hn=>by have:=h6 n hn;unfold InR;omega)⟩
theorem ck_five:checkC fiveC=true:=by kernel_rfl
theorem e22_five:c22 [.st 27 [.sl 80 gF [.st 80 [.int .i64 1,.int .i64 0,.int .i64 0,.int .i64 0,.int .i64 0],.st 80 [.int .i64 1,.int .i64 1,.int .i64 0,.int .i64 0,.int .i64 1],.st 80 [.int .i64 4,.int .i64 2,.int .i64 0,.int .i64 1,.int .i64 0],.st 80 [.int .i64 40,.int .i64 0,.int .i64 2,.int .i64 0,.int .i64 0]],.sl 2 gF [.int .i64 2,.int .i64 3],.sl 9 gF [],.sl 90 gF []]]=some (.tup [.st 27 [.sl 80 gF [.st 80 [.int .i64 1,.int .i64 2,.int .i64 0,.int .i64 0,.int .i64 0],.st 80 [.int .i64 40,.int .i64 0,.int .i64 2,.int .i64 0,.int .i64 0]],.sl 2 gF [.int .i64 5],.sl 9 gF [],.sl 90 gF []],.sl 29 gT [.st 29 [.int .i64 1,.int .i64 2],.st 29 [.int .i64 3,.int .i64 0],.st 29 [.int .i64 3,.int .i64 0],.st 29 [.int .i64 8,.int .i64 0],.st 29 [.int .i64 8,.int .i64 0]],.int .i64 0]):=by
 have h:=c22_eq fiveC 30 (endC,[⟨1,2⟩,⟨3,0⟩,⟨3,0⟩,⟨8,0⟩,⟨8,0⟩]) ⟨xinB_ok (by kernel_rfl),by decide,by rw[if_pos ck_five];kernel_rfl⟩
 rw[ck_five] at h
 exact h
theorem ck_move:checkC moveC=true:=by kernel_rfl
theorem e22_move:c22 [.st 27 [.sl 80 gF [.st 80 [.int .i64 3,.int .i64 1,.int .i64 0,.int .i64 0,.int .i64 0],.st 80 [.int .i64 40,.int .i64 0,.int .i64 1,.int .i64 0,.int .i64 0]],.sl 2 gF [],.sl 9 gF [],.sl 90 gF []]]=some (.tup [.st 27 [.sl 80 gF [.st 80 [.int .i64 40,.int .i64 0,.int .i64 0,.int .i64 0,.int .i64 0]],.sl 2 gF [],.sl 9 gF [],.sl 90 gF []],.sl 29 gT [.st 29 [.int .i64 2,.int .i64 1],.st 29 [.int .i64 3,.int .i64 0]],.int .i64 0]):=by
 have h:=c22_eq moveC 30 (retC,[⟨2,1⟩,⟨3,0⟩]) ⟨xinB_ok (by kernel_rfl),by decide,by rw[if_pos ck_move];kernel_rfl⟩
 rw[ck_move] at h
 exact h
theorem a_five_1:applyE fiveC.ops fiveC.ints fiveC.strs fiveC.rels 1 2=(some foldedC,0):=by kernel_rfl
theorem e11_five:c11 [.st 27 [.sl 80 gF [.st 80 [.int .i64 1,.int .i64 0,.int .i64 0,.int .i64 0,.int .i64 0],.st 80 [.int .i64 1,.int .i64 1,.int .i64 0,.int .i64 0,.int .i64 1],.st 80 [.int .i64 4,.int .i64 2,.int .i64 0,.int .i64 1,.int .i64 0],.st 80 [.int .i64 40,.int .i64 0,.int .i64 2,.int .i64 0,.int .i64 0]],.sl 2 gF [.int .i64 2,.int .i64 3],.sl 9 gF [],.sl 90 gF []],.st 29 [.int .i64 1,.int .i64 2]]=some (.tup [.st 27 [.sl 80 gF [.st 80 [.int .i64 1,.int .i64 0,.int .i64 0,.int .i64 0,.int .i64 0],.st 80 [.int .i64 1,.int .i64 1,.int .i64 0,.int .i64 0,.int .i64 1],.st 80 [.int .i64 1,.int .i64 2,.int .i64 0,.int .i64 0,.int .i64 2],.st 80 [.int .i64 40,.int .i64 0,.int .i64 2,.int .i64 0,.int .i64 0]],.sl 2 gF [.int .i64 2,.int .i64 3,.int .i64 5],.sl 9 gF [],.sl 90 gF []],.int .i64 0]):=by
 have h:=c11_eq fiveC.ops fiveC.ints fiveC.strs fiveC.rels 1 2 (xinB_ok (by kernel_rfl))
 rw[a_five_1] at h
 exact h
theorem a_wrap_6:applyE wrapC.ops wrapC.ints wrapC.strs wrapC.rels 6 1=(some wrappedC,0):=by kernel_rfl
theorem e11_wrap:c11 [.st 27 [.sl 80 gF [.st 80 [.int .i64 26,.int .i64 0,.int .i64 1,.int .i64 0,.int .i64 8],.st 80 [.int .i64 19,.int .i64 2,.int .i64 0,.int .i64 0,.int .i64 32],.st 80 [.int .i64 40,.int .i64 0,.int .i64 2,.int .i64 0,.int .i64 0]],.sl 2 gF [],.sl 9 gF [],.sl 90 gF []],.st 29 [.int .i64 6,.int .i64 1]]=some (.tup [.st 27 [.sl 80 gF [.st 80 [.int .i64 26,.int .i64 0,.int .i64 1,.int .i64 0,.int .i64 8],.st 80 [.int .i64 3,.int .i64 2,.int .i64 0,.int .i64 0,.int .i64 0],.st 80 [.int .i64 40,.int .i64 0,.int .i64 2,.int .i64 0,.int .i64 0]],.sl 2 gF [],.sl 9 gF [],.sl 90 gF []],.int .i64 0]):=by
 have h:=c11_eq wrapC.ops wrapC.ints wrapC.strs wrapC.rels 6 1 (xinB_ok (by kernel_rfl))
 rw[a_wrap_6] at h
 exact h
theorem a_jump_4:applyE jumpC.ops jumpC.ints jumpC.strs jumpC.rels 4 0=(some jumpedC,0):=by kernel_rfl
theorem e11_jump:c11 [.st 27 [.sl 80 gF [.st 80 [.int .i64 25,.int .i64 0,.int .i64 0,.int .i64 0,.int .i64 2],.st 80 [.int .i64 24,.int .i64 0,.int .i64 0,.int .i64 0,.int .i64 3],.st 80 [.int .i64 24,.int .i64 0,.int .i64 0,.int .i64 0,.int .i64 3],.st 80 [.int .i64 40,.int .i64 0,.int .i64 0,.int .i64 0,.int .i64 0]],.sl 2 gF [],.sl 9 gF [],.sl 90 gF []],.st 29 [.int .i64 4,.int .i64 0]]=some (.tup [.st 27 [.sl 80 gF [.st 80 [.int .i64 25,.int .i64 0,.int .i64 0,.int .i64 0,.int .i64 3],.st 80 [.int .i64 24,.int .i64 0,.int .i64 0,.int .i64 0,.int .i64 3],.st 80 [.int .i64 24,.int .i64 0,.int .i64 0,.int .i64 0,.int .i64 3],.st 80 [.int .i64 40,.int .i64 0,.int .i64 0,.int .i64 0,.int .i64 0]],.sl 2 gF [],.sl 9 gF [],.sl 90 gF []],.int .i64 0]):=by
 have h:=c11_eq jumpC.ops jumpC.ints jumpC.strs jumpC.rels 4 0 (xinB_ok (by kernel_rfl))
 rw[a_jump_4] at h
 exact h
theorem a_div_0:applyE divC.ops divC.ints divC.strs divC.rels 0 0=(none,170):=by kernel_rfl
theorem e14_div:c14 [.st 27 [.sl 80 gF [.st 80 [.int .i64 7,.int .i64 0,.int .i64 1,.int .i64 2,.int .i64 0],.st 80 [.int .i64 40,.int .i64 0,.int .i64 1,.int .i64 0,.int .i64 0]],.sl 2 gF [],.sl 9 gF [],.sl 90 gF []],.st 29 [.int .i64 0,.int .i64 0]]=some (.int .i64 170):=by
 have h:=c14_eq divC.ops divC.ints divC.strs divC.rels 0 0 (xinB_ok (by kernel_rfl))
 rw[a_div_0] at h
 exact h
theorem st_div:stepsE divC.ops divC.ints divC.strs divC.rels=[]:=by kernel_rfl
theorem ck_div:checkF divC.ops divC.ints divC.strs divC.rels=true:=by kernel_rfl
theorem e15_div:c15 [.st 27 [.sl 80 gF [.st 80 [.int .i64 7,.int .i64 0,.int .i64 1,.int .i64 2,.int .i64 0],.st 80 [.int .i64 40,.int .i64 0,.int .i64 1,.int .i64 0,.int .i64 0]],.sl 2 gF [],.sl 9 gF [],.sl 90 gF []]]=some (.tup [.sl 29 gT [],.int .i64 0]):=by
 have h:=c15_eq divC.ops divC.ints divC.strs divC.rels (xinB_ok (by kernel_rfl))
 rw[ck_div,st_div] at h
 exact h
theorem s_end:sameF endC endC=true:=by kernel_rfl
theorem e13_end:c13 [.st 27 [.sl 80 gF [.st 80 [.int .i64 1,.int .i64 2,.int .i64 0,.int .i64 0,.int .i64 0],.st 80 [.int .i64 40,.int .i64 0,.int .i64 2,.int .i64 0,.int .i64 0]],.sl 2 gF [.int .i64 5],.sl 9 gF [],.sl 90 gF []],.st 27 [.sl 80 gF [.st 80 [.int .i64 1,.int .i64 2,.int .i64 0,.int .i64 0,.int .i64 0],.st 80 [.int .i64 40,.int .i64 0,.int .i64 2,.int .i64 0,.int .i64 0]],.sl 2 gF [.int .i64 5],.sl 9 gF [],.sl 90 gF []]]=some (.bool true):=by
 have h:=c13_eq endC endC (by decide)
 rw[s_end] at h
 exact h
theorem s_ret:sameF retC retC=true:=by kernel_rfl
theorem e13_ret:c13 [.st 27 [.sl 80 gF [.st 80 [.int .i64 40,.int .i64 0,.int .i64 0,.int .i64 0,.int .i64 0]],.sl 2 gF [],.sl 9 gF [],.sl 90 gF []],.st 27 [.sl 80 gF [.st 80 [.int .i64 40,.int .i64 0,.int .i64 0,.int .i64 0,.int .i64 0]],.sl 2 gF [],.sl 9 gF [],.sl 90 gF []]]=some (.bool true):=by
 have h:=c13_eq retC retC (by decide)
 rw[s_ret] at h
 exact h
theorem h32:Tryz.prog.funcs[32]? = some f32:=by kernel_rfl
theorem run32 (o d a b n:Int) (A:Nat→Prop):acall (env 17 1055 D0 [] [] A) (fun _=>{ tm:=[],ob:=[] }) (5) f32 [.int .i64 o,.int .i64 d,.int .i64 a,.int .i64 b,.int .i64 n]=some (.st 80 [.int .i64 o,.int .i64 d,.int .i64 a,.int .i64 b,.int .i64 n]):=by
 simp only[acall,macall,f32]
 simp only[go_sem,simprocAttr]
 try rfl
noncomputable def c32:=famP (α:=Int × Int × Int × Int × Int) (fun _=>True) (fun (o,d,a,b,n)=>[.int .i64 o,.int .i64 d,.int .i64 a,.int .i64 b,.int .i64 n]) (fun (o,d,a,b,n)=> .st 80 [.int .i64 o,.int .i64 d,.int .i64 a,.int .i64 b,.int .i64 n])
theorem c32_eq (o d a b n:Int):c32 [.int .i64 o,.int .i64 d,.int .i64 a,.int .i64 b,.int .i64 n]=some (.st 80 [.int .i64 o,.int .i64 d,.int .i64 a,.int .i64 b,.int .i64 n]):=fam_eq (fun X Y hp hp' h'=>by
 obtain⟨o,d,a,b,n⟩:=X;obtain⟨o',d',a',b',n'⟩:=Y;simp only[INJ] at h'
 obtain⟨rfl,rfl,rfl,rfl,rfl⟩:=h'
 rfl) (o,d,a,b,n) trivial
theorem snd32:Snd 32 c32:=fam_snd h32 rfl rfl fun (o,d,a,b,n) _=>rc h32 (fun A=>run32 o d a b n A) (fun _=>[]) rfl rfl rfl (by kernel_rfl) trivial trivial
theorem h31:Tryz.prog.funcs[31]? = some f31:=by kernel_rfl
theorem run31  :∃ r,wk r (.st 27 [.sl 80 gT [.st 80 [.int .i64 1,.int .i64 0,.int .i64 0,.int .i64 0,.int .i64 0],.st 80 [.int .i64 1,.int .i64 1,.int .i64 0,.int .i64 0,.int .i64 1],.st 80 [.int .i64 4,.int .i64 2,.int .i64 0,.int .i64 1,.int .i64 0],.st 80 [.int .i64 40,.int .i64 0,.int .i64 2,.int .i64 0,.int .i64 0]],.sl 2 gT [.int .i64 2,.int .i64 3],.sl 9 gT [],.sl 90 gT []])∧∀ A,acall (env 8 1 D0 [(32,c32)] [] A) (fun _=>{ tm:=[],ob:=[] }) (5) f31 []=some r:=by
 apply wkI
 ·intro A
  simp only[acall,macall,f31]
  simp only[go_sem,simprocAttr,c32_eq]
  try rfl
 ·simp[WK,eOut,eCode]
noncomputable def c31:=famP (α:=Unit) (fun _=>True) (fun _=>[]) (fun _=> .st 27 [.sl 80 gT [.st 80 [.int .i64 1,.int .i64 0,.int .i64 0,.int .i64 0,.int .i64 0],.st 80 [.int .i64 1,.int .i64 1,.int .i64 0,.int .i64 0,.int .i64 1],.st 80 [.int .i64 4,.int .i64 2,.int .i64 0,.int .i64 1,.int .i64 0],.st 80 [.int .i64 40,.int .i64 0,.int .i64 2,.int .i64 0,.int .i64 0]],.sl 2 gT [.int .i64 2,.int .i64 3],.sl 9 gT [],.sl 90 gT []])
theorem c31_eq :c31 []=some (.st 27 [.sl 80 gT [.st 80 [.int .i64 1,.int .i64 0,.int .i64 0,.int .i64 0,.int .i64 0],.st 80 [.int .i64 1,.int .i64 1,.int .i64 0,.int .i64 0,.int .i64 1],.st 80 [.int .i64 4,.int .i64 2,.int .i64 0,.int .i64 1,.int .i64 0],.st 80 [.int .i64 40,.int .i64 0,.int .i64 2,.int .i64 0,.int .i64 0]],.sl 2 gT [.int .i64 2,.int .i64 3],.sl 9 gT [],.sl 90 gT []]):=fam_eq (fun _ _ _ _ _=>rfl) () trivial
theorem snd31:Snd 31 c31:=fam_snd h31 rfl rfl fun _ _=>let ⟨_,hw,hr⟩:=run31 ;(rc h31 hr (fun _=>[]) rfl rfl rfl (by kernel_rfl) ⟨snd32,trivial⟩ trivial).weak hw
def Z8 (i:Nat):List Nat:=if i=4 then [35] else if i=8 then [55] else if i=10 then [67] else []
theorem h8:Tryz.prog.funcs[8]? = some f8:=by kernel_rfl
def D8:Nat→Option (List DH × List Nat):=fun i=>match i with | 15=>some ([⟨[],[],[133]⟩,⟨[],[],[133]⟩,⟨[],[],[133]⟩,⟨[],[],[133]⟩,⟨[],[],[133]⟩,⟨[],[],[133]⟩,⟨[],[],[133]⟩,⟨[133],[],[133]⟩,⟨[],[],[133]⟩,⟨[],[133],[]⟩,⟨[],[],[]⟩,⟨[],[],[]⟩,⟨[],[],[]⟩,⟨[],[],[]⟩,⟨[],[],[]⟩,⟨[],[],[]⟩,⟨[],[],[]⟩,⟨[],[],[]⟩,⟨[],[],[]⟩,⟨[],[],[]⟩,⟨[],[],[]⟩,⟨[],[],[]⟩,⟨[],[],[]⟩,⟨[],[],[]⟩,⟨[],[],[]⟩,⟨[],[],[]⟩,⟨[],[],[]⟩,⟨[],[],[]⟩,⟨[],[],[]⟩,⟨[],[],[]⟩,⟨[],[],[]⟩,⟨[],[],[]⟩,⟨[],[],[]⟩,⟨[],[],[]⟩,⟨[],[],[]⟩,⟨[],[],[]⟩],[133]) | _=>none
theorem D8_15:D8 15=some ([⟨[],[],[133]⟩,⟨[],[],[133]⟩,⟨[],[],[133]⟩,⟨[],[],[133]⟩,⟨[],[],[133]⟩,⟨[],[],[133]⟩,⟨[],[],[133]⟩,⟨[133],[],[133]⟩,⟨[],[],[133]⟩,⟨[],[133],[]⟩,⟨[],[],[]⟩,⟨[],[],[]⟩,⟨[],[],[]⟩,⟨[],[],[]⟩,⟨[],[],[]⟩,⟨[],[],[]⟩,⟨[],[],[]⟩,⟨[],[],[]⟩,⟨[],[],[]⟩,⟨[],[],[]⟩,⟨[],[],[]⟩,⟨[],[],[]⟩,⟨[],[],[]⟩,⟨[],[],[]⟩,⟨[],[],[]⟩,⟨[],[],[]⟩,⟨[],[],[]⟩,⟨[],[],[]⟩,⟨[],[],[]⟩,⟨[],[],[]⟩,⟨[],[],[]⟩,⟨[],[],[]⟩,⟨[],[],[]⟩,⟨[],[],[]⟩,⟨[],[],[]⟩,⟨[],[],[]⟩],[133]):=rfl
theorem D8_14:D8 14=none:=rfl
theorem run8  (A:Nat→Prop):acall (envX (Z8) lentF 159 81129638414606681695789007240959 D8 [(31,c31),(32,c32),(22,c22),(11,c11),(15,c15),(13,c13),(14,c14)] [] A) (fun _=>{ tm:=[],ob:=[] }) (5) f8 []=some (.bool true):=by
 have z4:Z8 4=[35]:=rfl
 have z8:Z8 8=[55]:=rfl
 have z10:Z8 10=[67]:=rfl
 have zz:∀ i,i ≠ 4→i ≠ 8→i ≠ 10→Z8 i=[]:=fun i a b c=>by simp[Z8,a,b,c]
 simp only[acall,macall,f8]
 simp only[go_sem,simprocAttr,D8_14,D8_15,c31_eq,c32_eq,z4,z8,z10,zz,ne_eq,not_false_eq_true,St.freeze1,frzO,frzM,frzB,frzVL,frzV,allLeaf,e22_five,e22_move,e13_end,e13_ret,e15_div,e14_div,e11_five,e11_wrap,e11_jump]
 try rfl
noncomputable def c8:=famP (α:=Unit) (fun _=>True) (fun _=>[]) (fun _=> .bool true)
theorem c8_eq :c8 []=some (.bool true):=fam_eq (fun _ _ _ _ _=>rfl) () trivial
theorem snd8:Snd 8 c8:=fam_snd h8 rfl rfl fun _ _=>rX h8 (fun A=>run8  A) (fun i=>match i with | 14=>[0,1,3,7,15,31,63,127,255,31,1023,2047,4095] | 15=>[0,1,3,3,15,31,63,127,127,383,895,2047,4095,8191,16383,32767,65535,131071,262143,524287,1048575,2097151,4194303,8388607,16777215,33554431,67108863,134217727,268435455,536870911,1073741823,1073741823,4294967295,8589934591,17179869183,34359738367] | _=>[]) rfl rfl rfl (by kernel_rfl) ⟨snd31,snd32,snd22,snd11,snd15,snd13,snd14,trivial⟩ trivial
structure KGood (c x:XCode):Prop where
 xin:XIn x.ops x.ints x.strs x.rels
 strs:∀ s ∈ x.strs,s.size≤9223372036854775807
 ck:checkC x=true
 len:x.ops.length≤c.ops.length
 kept:keptF x c=true
 nm:∀ i,nmF x.ops i=true→nmF c.ops i=true
def KSteps (c:XCode) (ls:List XStep):Prop:=∀ s ∈ ls,∃ x,applyE c.ops c.ints c.strs c.rels s.rule s.at_=(some x,0)∧KGood c x
def KeepLaw (c:XCode) (r q:Int):Prop:=XIn c.ops c.ints c.strs c.rels→checkC c=true→((applyE c.ops c.ints c.strs c.rels r q).2==0)=((stepsE c.ops c.ints c.strs c.rels).any fun s=>s.rule==r&&s.at_==q)∧(stepsE c.ops c.ints c.strs c.rels).length≤100000∧KSteps c (stepsE c.ops c.ints c.strs c.rels)
theorem h5:Tryz.prog.funcs[5]? = some f5:=by kernel_rfl
def D5:Nat→Option (List DH × List Nat):=fun i=>match i with | 14=>some ([⟨[12],[],[12]⟩,⟨[12],[],[12]⟩,⟨[12],[],[12]⟩,⟨[12],[],[12]⟩,⟨[12],[],[12]⟩,⟨[12],[],[12]⟩,⟨[12],[],[12]⟩,⟨[12],[],[12]⟩,⟨[12],[],[12]⟩,⟨[],[12],[]⟩,⟨[],[12],[]⟩,⟨[],[],[]⟩],[12]) | _=>none
theorem D5_14:D5 14=some ([⟨[12],[],[12]⟩,⟨[12],[],[12]⟩,⟨[12],[],[12]⟩,⟨[12],[],[12]⟩,⟨[12],[],[12]⟩,⟨[12],[],[12]⟩,⟨[12],[],[12]⟩,⟨[12],[],[12]⟩,⟨[12],[],[12]⟩,⟨[],[12],[]⟩,⟨[],[12],[]⟩,⟨[],[],[]⟩],[12]):=rfl
def H5:Nat→Hint:=fun i=>if i=12 then ({ tm:=[2,5,6,10,11],ob:=[2,10],fin:=some ([5],[]) }:Hint) else if i=19 then ({ tm:=[2,5,6,10,11,14,15],ob:=[2,10,14],fin:=some ([2,5,6,10,11],[2,10]) }:Hint) else { tm:=[],ob:=[] }
theorem H5_12:H5 12=({ tm:=[2,5,6,10,11],ob:=[2,10],fin:=some ([5],[]) }:Hint):=by simp[H5]
theorem H5_19:H5 19=({ tm:=[2,5,6,10,11,14,15],ob:=[2,10,14],fin:=some ([2,5,6,10,11],[2,10]) }:Hint):=by simp[H5]
theorem loop5_19 (o2:Abs.Obj) (ls:List XStep) (j:Nat) (g h:Nat→Bool) (hg:∀ i,h i=true→g i=true) (A:Nat→Prop) (k:Nat):∀ (m i:Nat) (σ:St),i+m=8→
 σ.keep (H5 19)=⟨[(2,.ptr 2 (.box 27) []),(5,.bool true),(6,.sl 29 gT (ls.map eStep)),(10,.ptr 10 (.box 50) []),(11,.int .i64 j),(14,.ptr 14 (.box 50) []),(15,.int .i64 i)],[(2,o2),(10,⟨.box 50,true,[.ar 50 (bits8 g)]⟩),(14,⟨.box 50,true,[.ar 50 (bits8 h)]⟩)]⟩→
 post (H5 19) (aloop ty (arun (env 101 634154127937052166876647980799 D5 [(8,c8),(9,c9),(15,c15),(11,c11),(18,c18),(19,c19),(20,c20),(21,c21)] [] A) H5 k (sub (f5.body.getD .skip) [1,1,1,1,1,1,1,1,0,1,0,0,1,0,0,1,1,1,1,0,0])) (H5 19) (m+1) σ)=some (.exit 2,⟨[(2,.ptr 2 (.box 27) []),(5,.bool true),(6,.sl 29 gT (ls.map eStep)),(10,.ptr 10 (.box 50) []),(11,.int .i64 j)],[(2,o2),(10,⟨.box 50,true,[.ar 50 (bits8 g)]⟩)]⟩):=by
 simp only[f5,sub,Option.getD_some,H5_19]
 intro m
 induction m with
 | zero=>
   intro i σ hi hσ
   have h1:¬ ((i:Int) < (8:Int)):=by omega
   rw[aloop,hσ]
   simp only[go_sem,simprocAttr,h1]
   simp[post,St.fin,keepL,aget]
 | succ m ih=>
   intro i σ hi hσ
   have h1:(i:Int) < (8:Int):=by omega
   have hlt:i < 8:=by omega
   have hni:(0:Int)≤(i:Int):=Int.natCast_nonneg i
   have hw:IntKind.i64.wrap ((i:Int)+1)=((i+1:Nat):Int):=wrap_nat (by omega)
   have h1c:(i:Int) < (8:Int):=h1
   have hg1:=bits8_get g hlt
   have hg2:=bits8_get h hlt
   have hl1:=bits8_len g
   have hl2:=bits8_len h
   have hgi:=hg i
   rw[aloop,hσ]
   cases ch:h i
   ·rw[ch] at hg2
    simp only[go_sem,simprocAttr,D5_14,h1c,hni,hw,hg1,hg2,hl1,hl2]
    exact ih (i+1) _ (by omega) (by simp only[go_sem,simprocAttr])
   ·rw[ch] at hg2
    rw[hgi ch] at hg1
    simp only[go_sem,simprocAttr,D5_14,h1c,hni,hw,hg1,hg2,hl1,hl2]
    exact ih (i+1) _ (by omega) (by simp only[go_sem,simprocAttr])
theorem loop5_12 (c:XCode) (hin:XIn c.ops c.ints c.strs c.rels) (hck:checkC c=true) (ls:List XStep) (hln:ls.length≤100000) (hls:KSteps c ls) (A:Nat→Prop) (k:Nat) (hk:10≤k):∀ (m i:Nat) (σ:St),i+m=ls.length→
 σ.keep (H5 12)=⟨[(2,.ptr 2 (.box 27) []),(5,.bool true),(6,.sl 29 gT (ls.map eStep)),(10,.ptr 10 (.box 50) []),(11,.int .i64 i)],[(2,⟨.box 27,false,[(cd c.ops c.ints c.strs c.rels)]⟩),(10,⟨.box 50,true,[.ar 50 (bits8 (nmF c.ops))]⟩)]⟩→
 post (H5 12) (aloop ty (arun (env 101 634154127937052166876647980799 D5 [(8,c8),(9,c9),(15,c15),(11,c11),(18,c18),(19,c19),(20,c20),(21,c21)] [] A) H5 k (sub (f5.body.getD .skip) [1,1,1,1,1,1,1,1,0,1,0,0])) (H5 12) (m+1) σ)=some (.exit 0,⟨[(5,.bool true)],[]⟩):=by
 simp only[f5,sub,Option.getD_some,H5_12]
 intro m
 induction m with
 | zero=>
   intro i σ hi hσ
   have h1:¬ ((i:Int) < ((ls.length:Nat):Int)):=by omega
   rw[aloop,hσ]
   simp only[go_sem,simprocAttr,h1]
   simp[post,St.fin,keepL,aget]
 | succ m ih=>
   intro i σ hi hσ
   have h1:(i:Int) < ((ls.length:Nat):Int):=by omega
   have hlt:i < ls.length:=by omega
   have hni:(0:Int)≤(i:Int):=Int.natCast_nonneg i
   have hw:IntKind.i64.wrap ((i:Int)+1)=((i+1:Nat):Int):=wrap_nat (by omega)
   have hget:=getD_get (d:=(⟨0,0⟩:XStep)) hlt
   rw[show ls.getD i ⟨0,0⟩=ls[i]'hlt by simp[List.getD,List.getElem?_eq_getElem hlt]] at hget
   have hsm:ls[i]'hlt ∈ ls:=List.getElem_mem hlt
   obtain⟨s,hs⟩:∃ s,ls[i]'hlt=s:=⟨_,rfl⟩
   rw[hs] at hget hsm
   obtain⟨x,hx,hgd⟩:=hls s hsm
   have e11:=c11_eq c.ops c.ints c.strs c.rels s.rule s.at_ hin
   have hlm:=hgd.xin.lim
   have hcl:=hin.lim
   have e20:=c20_eq x.ops x.ints x.strs x.rels ⟨hlm,hgd.strs,hgd.xin.str⟩
   have hcx:checkF x.ops x.ints x.strs x.rels=true:=hgd.ck
   have e21:=c21_eq x c ⟨⟨hlm,hcl⟩,hgd.ck,hck⟩
   have e19:=c19_eq x.ops x.ints x.strs x.rels ⟨hlm,hcx⟩
   rw[hx] at e11
   rw[hcx] at e20
   rw[hgd.kept] at e21
   simp only[eOutE,eCode,errF,Option.getD_some,BL] at e11 e20
   have hlen:¬ ((c.ops.length:Int) < (x.ops.length:Int)):=by have:=hgd.len;omega
   have hl:=loop5_19 ⟨.box 27,false,[(cd c.ops c.ints c.strs c.rels)]⟩ ls i (nmF c.ops) (nmF x.ops) hgd.nm A k 8 0
   simp only[f5,sub,Option.getD_some,H5_19] at hl
   rw[aloop,hσ]
   simp only[go_sem,simprocAttr,D5_14,h1,hni,hget,H5_19,eStep,e11,e20,e21,e19,hlen]
   rw[post_le (hl _ (by simp) (by simp only[go_sem,simprocAttr])) (by omega)]
   simp only[go_sem,simprocAttr,D5_14,hw]
   exact ih (i+1) _ (by omega) (by simp only[go_sem,simprocAttr])
theorem run5 (c:XCode) (r q:Int) (hp:(∀ o ∈ c.ops,InR o.n)∧(∀ n ∈ c.ints,InR n)∧(∀ s ∈ c.strs,s.size≤9223372036854775807)∧(∀ r ∈ c.rels,r.str.size≤9223372036854775807∧r.mem.size≤9223372036854775807)∧KeepLaw c r q) (A:Nat→Prop):acall (env 101 634154127937052166876647980799 D5 [(8,c8),(9,c9),(15,c15),(11,c11),(18,c18),(19,c19),(20,c20),(21,c21)] [] A) (H5) (100010) f5 [(cd c.ops c.ints c.strs c.rels),.st 29 [.int .i64 r,.int .i64 q]]=some (.bool true):=by
 obtain⟨p1,p2,p3,p4,hL⟩:=hp
 have e9:=c9_eq c.ops c.ints c.strs c.rels
 have hl60:(decide (c.ops.length≤60)&&(decide (c.ints.length≤60)&&(decide (c.strs.length≤60)&&decide (c.rels.length≤60))))=true→c.ops.length≤60∧c.ints.length≤60∧c.strs.length≤60∧c.rels.length≤60:=fun h=>by simpa using h
 generalize (decide (c.ops.length≤60)&&(decide (c.ints.length≤60)&&(decide (c.strs.length≤60)&&decide (c.rels.length≤60))))=sh at *
 cases sh
 ·simp only[acall,macall,f5]
  simp only[go_sem,simprocAttr,D5_14,c8_eq,e9]
  try rfl
 have hl:=hl60 rfl
 have hin:XIn c.ops c.ints c.strs c.rels:=⟨by omega,p4,p1,p2⟩
 have e15:=c15_eq c.ops c.ints c.strs c.rels hin
 have e11:=c11_eq c.ops c.ints c.strs c.rels r q hin
 cases hc:checkF c.ops c.ints c.strs c.rels
 ·have ha:applyE c.ops c.ints c.strs c.rels r q=(none,150):=by unfold applyE;rw[hc];rfl
  rw[hc] at e15
  rw[ha] at e11
  simp only[eOutE,eCode,errF,BL] at e11 e15
  simp only[acall,macall,f5]
  simp only[go_sem,simprocAttr,D5_14,c8_eq,e9,e15,e11]
  try rfl
 obtain⟨h1,h2,h3⟩:=hL hin hc
 rw[hc] at e15
 have e18:=c18_eq (stepsE c.ops c.ints c.strs c.rels) r q h2
 rw[← h1] at e18
 have e19:=c19_eq c.ops c.ints c.strs c.rels ⟨hin.lim,hc⟩
 have hlp:=loop5_12 c hin hc (stepsE c.ops c.ints c.strs c.rels) h2 h3 A 100010 (by omega) (stepsE c.ops c.ints c.strs c.rels).length 0
 simp only[f5,sub,Option.getD_some,H5_12] at hlp
 generalize stepsE c.ops c.ints c.strs c.rels=ls at *
 simp only[eOutE,eCode,errF,BL] at e11 e15
 generalize (applyE c.ops c.ints c.strs c.rels r q).1.getD ⟨[],[],[],[]⟩=ca at *
 generalize (applyE c.ops c.ints c.strs c.rels r q).2=er at *
 cases hz:(er==0)
 all_goals
  rw[hz] at e18
  simp only[acall,macall,f5]
  simp only[go_sem,simprocAttr,D5_14,c8_eq,e9,e15,e11,e18,e19,hz,H5_12]
  rw[post_le (hlp _ (by simp) (by simp only[go_sem,simprocAttr])) (by omega)]
  simp only[go_sem,simprocAttr,D5_14,c8_eq,e9,e15,e11,e18,e19,hz,H5_12]
  try rfl
noncomputable def c5:=famP (α:=XCode × Int × Int) (fun (c,r,q)=>(∀ o ∈ c.ops,InR o.n)∧(∀ n ∈ c.ints,InR n)∧(∀ s ∈ c.strs,s.size≤9223372036854775807)∧(∀ r ∈ c.rels,r.str.size≤9223372036854775807∧r.mem.size≤9223372036854775807)∧KeepLaw c r q) (fun (c,r,q)=>[(cd c.ops c.ints c.strs c.rels),.st 29 [.int .i64 r,.int .i64 q]]) (fun (c,r,q)=> .bool true)
theorem c5_eq (c:XCode) (r q:Int) (hp:(∀ o ∈ c.ops,InR o.n)∧(∀ n ∈ c.ints,InR n)∧(∀ s ∈ c.strs,s.size≤9223372036854775807)∧(∀ r ∈ c.rels,r.str.size≤9223372036854775807∧r.mem.size≤9223372036854775807)∧KeepLaw c r q):c5 [(cd c.ops c.ints c.strs c.rels),.st 29 [.int .i64 r,.int .i64 q]]=some (.bool true):=fam_eq (fun _ _ _ _ _=>rfl) (c,r,q) hp
theorem snd5:Snd 5 c5:=fam_snd h5 rfl rfl fun (c,r,q) hp=>rc h5 (fun A=>run5 c r q hp A) (fun i=>match i with | 14=>[0,0,0,6,14,31,63,127,127,0,767,2047] | _=>[]) rfl rfl rfl (by kernel_rfl) ⟨snd8,snd9,snd15,snd11,snd18,snd19,snd20,snd21,trivial⟩ trivial
theorem step_ks {ops:List XOp} {ints:List Int} {strs:List ByteArray} {rels:List XRel} {before:List (List XFact)} {reached:List Bool} {alive:List Int} {rule q:Int} {c:XCode} (hc:checkF ops ints strs rels=true) (h0:0≤q) (hq:rule ≠ 8→q.toNat < ops.length) (h:stepF ops ints strs rels before reached alive rule q=some c):KS ⟨ops,ints,strs,rels⟩ c:=by
 revert h
 unfold stepF
 have hr:∀ {k:Int},(rule==k)=true→k ≠ 8→q.toNat < ops.length:=fun h h2=>hq (by simp only[beq_iff_eq] at h;omega)
 have hno:¬ ((ops.getD q.toNat op0).op=1∨(ops.getD q.toNat op0).op=26)→∀ r ∈ rels,r.at_.toNat ≠ q.toNat:=fun h r hr e=>h (by have:=rel_op hc hr;rwa [e] at this)
 refine keep_ite' (fun h=>?_) (fun _=>keep_ite' (fun h=>?_) (fun _=>keep_ite' (fun h=>?_) (fun _=>keep_ite' (fun h=>?_) (fun _=>keep_ite' (fun h=>?_) (fun _=>keep_ite' (fun h=>?_) (fun _=>keep_ite' (fun h=>?_) (fun _=>keep_ite' (fun h=>ks_pool hc h0) (fun _ h=>by cases h))))))))
 ·have hql:=hr h (by omega)
  unfold foldF foldK;dsimp only
  refine keep_ite (keep_ite' (fun _ h=>by cases h) (fun h2=>?_)) (fun h=>by cases h)
  have hn:∀ r ∈ rels,r.at_.toNat ≠ q.toNat:=fun r hr e=>h2 (List.any_eq_true.2 ⟨r,hr,by have:=(rel_at hc hr).1;simp only[beq_iff_eq];omega⟩)
  repeat' refine keep_ite ?_ ?_
  all_goals intro h
  all_goals first
   | (cases h;done)
   | exact ks_put hc hql hn h
   | exact ks_kset hc hql (fun r hr e=>absurd e (hn r hr)) (fun _ _=>rfl) h
   | exact ks_kset hc hql (fun r hr e=>absurd e (hn r hr)) (fun k hk=>app_getD hk) h
 ·have hql:=hr h (by omega)
  unfold copiesF;dsimp only
  exact keep_ite (keep_ite (fun h=>ks_kset hc hql (by intro r hr e;exact⟨rfl,fun _=>rfl⟩) (fun _ _=>rfl) h) (fun h=>by cases h)) (fun h=>by cases h)
 ·have hql:=hr h (by omega)
  unfold deadF;dsimp only
  exact keep_ite (fun h=>by cases h) (fun h=>ks_krem hc h0 hql h)
 ·have hql:=hr h (by omega)
  unfold threadF;dsimp only
  exact keep_ite' (fun h1=>keep_ite (fun h=>ks_kset hc hql (by intro r hr e;refine⟨rfl,fun h2=>?_⟩;dsimp only at h2;rw[h2] at h1;cases h1) (fun _ _=>rfl) h) (keep_ite (fun h=>ks_krem hc h0 hql h) (fun h=>by cases h))) (fun _ h=>by cases h)
 ·have hql:=hr h (by omega)
  unfold reachF
  exact keep_ite (fun h=>by cases h) (fun h=>ks_krem hc h0 hql h)
 ·have hql:=hr h (by omega)
  unfold wrapRF;dsimp only
  refine keep_ite' (fun h1=>keep_ite (fun h=>by cases h) (fun h=>ks_kset hc hql (fun r hr e=>absurd e (hno ?_ r hr)) (fun _ _=>rfl) h)) (fun _ h=>by cases h)
  simp only[beq_iff_eq] at h1
  omega
 ·have hql:=hr h (by omega)
  unfold identF moveTo;dsimp only
  refine keep_ite (keep_ite' (fun _ h=>by cases h) (fun h1=>keep_ite' (fun _ h=>by cases h) (fun h2=>?_))) (fun h=>by cases h)
  simp only[decide_eq_true_eq] at h1 h2
  have hn:=hno (by omega)
  repeat' refine keep_ite ?_ ?_
  all_goals intro h
  all_goals first
   | (cases h;done)
   | exact ks_put hc hql hn h
   | exact ks_kset hc hql (fun r hr e=>absurd e (hn r hr)) (fun _ _=>rfl) h
   | exact ks_kset hc hql (fun r hr e=>absurd e (hn r hr)) (fun k hk=>app_getD hk) h
def SS (strs:List ByteArray) (c:XCode):Prop:=∀ s ∈ c.strs,s ∈ strs
theorem ss_same {ops:List XOp} {ints:List Int} {strs:List ByteArray} {rels:List XRel} {c:XCode} (h:some (⟨ops,ints,strs,rels⟩:XCode)=some c):SS strs c:=by
 injection h with h;subst h;exact fun s hs=>hs
theorem step_ss {ops:List XOp} {ints:List Int} {strs:List ByteArray} {rels:List XRel} {before:List (List XFact)} {reached:List Bool} {alive:List Int} {rule q:Int} {c:XCode} (h:stepF ops ints strs rels before reached alive rule q=some c):SS strs c:=by
 revert h
 unfold stepF foldF foldK copiesF deadF threadF reachF wrapRF identF moveTo poolF removedF
 dsimp only
 repeat' refine keep_ite ?_ ?_
 all_goals intro h
 all_goals first
  | (cases h;done)
  | exact ss_same h
  | (injection h with h;subst h;exact fun s hs=>List.mem_of_mem_eraseIdx hs)
theorem mem_stepsQ (ap:Int→Option XCode) (r:Int) (t:Int × Int × XCode):∀ (m:Nat) (q:Int),t ∈ stepsQ ap r m q↔t.1=r∧q≤t.2.1∧t.2.1 < q+m∧ap t.2.1=some t.2.2
 | 0,q=>by
   simp only[stepsQ,List.not_mem_nil,false_iff]
   rintro⟨_,h1,h2,_⟩;omega
 | m+1,q=>by
   rw[stepsQ,List.mem_append,mem_stepsQ ap r t m (q+1)]
   constructor
   ·rintro (h | ⟨h1,h2,h3,h4⟩)
    ·cases he:ap q with
     | none=>rw[he] at h;cases h
     | some c=>
       rw[he] at h
       simp only[List.mem_singleton] at h
       subst h
       exact⟨rfl,Int.le_refl _,by show q < q+((m+1:Nat):Int);omega,he⟩
    ·exact⟨h1,by omega,by omega,h4⟩
   ·rintro⟨h1,h2,h3,h4⟩
    by_cases e:t.2.1=q
    ·left
     rw[e] at h4
     rw[h4]
     obtain⟨t1,t2,t3⟩:=t
     simp only at h1 e
     subst h1;subst e
     exact List.mem_singleton.2 rfl
    ·exact .inr ⟨h1,by omega,by omega,h4⟩
theorem mem_stepsR (ap:Int→Int→Option XCode) (pl:Int→Int) (t:Int × Int × XCode):∀ (m:Nat) (r:Int),t ∈ stepsR ap pl m r↔r≤t.1∧t.1 < r+m∧0≤t.2.1∧t.2.1 < pl t.1∧ap t.1 t.2.1=some t.2.2
 | 0,r=>by
   simp only[stepsR,List.not_mem_nil,false_iff]
   rintro⟨h1,h2,_⟩;omega
 | m+1,r=>by
   rw[stepsR,List.mem_append,mem_stepsR ap pl t m (r+1),mem_stepsQ]
   constructor
   ·rintro (⟨h1,h2,h3,h4⟩ | ⟨h1,h2,h3⟩)
    ·rw[← h1] at h3 h4
     exact⟨by omega,by omega,h2,by omega,h4⟩
    ·exact⟨by omega,by omega,h3⟩
   ·rintro⟨h1,h2,h3,h4,h5⟩
    by_cases e:t.1=r
    ·left
     rw[e] at h4 h5
     exact⟨e,h3,by omega,h5⟩
    ·exact .inr ⟨by omega,by omega,h3,h4,h5⟩
theorem rule_rng {r:Int} (h:(ruleFn r).isSome=true):1≤r∧r < 9:=by
 revert h
 unfold ruleFn
 repeat' split
 all_goals rename_i h1;intro h
 all_goals first
  | (cases h;done)
  | (simp only[beq_iff_eq] at h1;omega)
theorem apply_step {ops:List XOp} {ints:List Int} {strs:List ByteArray} {rels:List XRel} {before:List (List XFact)} {reached:List Bool} {alive:List Int} {rule q:Int} {c:XCode} (h:applyF ops ints strs rels before reached alive rule q=some c):(1≤rule∧rule < 9)∧0≤q∧q < placesF ops ints strs rule∧stepF ops ints strs rels before reached alive rule q=some c:=by
 unfold applyF at h
 split at h
 ·rename_i hr
  split at h
  ·cases h
  ·rename_i h1
   split at h
   ·cases h
   ·rename_i h2
    simp only[decide_eq_true_eq] at h1 h2
    cases hs:stepF ops ints strs rels before reached alive rule q with
    | none=>rw[hs] at h;cases h
    | some c'=>
      rw[hs,Option.bind_some] at h
      split at h
      ·injection h with h;subst h
       exact⟨rule_rng hr,by omega,by omega,rfl⟩
      ·cases h
 ·cases h
theorem mem_stepsW {ops:List XOp} {ints:List Int} {strs:List ByteArray} {rels:List XRel} {before:List (List XFact)} {reached:List Bool} {alive:List Int} {r q:Int} {x:XCode} :
 (r,q,x) ∈ stepsW ops ints strs rels before reached alive↔applyF ops ints strs rels before reached alive r q=some x:=by
 unfold stepsW
 rw[mem_stepsR]
 constructor
 ·exact fun h=>h.2.2.2.2
 ·intro h
  obtain⟨h1,h2,h3,_⟩:=apply_step h
  exact⟨h1.1,by show r < 1+(8:Nat);omega,h2,h3,h⟩
theorem keep_law (c:XCode) (r q:Int) (hstr:∀ s ∈ c.strs,s.size≤9223372036854775807):KeepLaw c r q:=by
 obtain⟨ops,ints,strs,rels⟩:=c
 intro hin hck
 have hc:checkF ops ints strs rels=true:=hck
 have hxa:=work_xa hin hc
 dsimp only at hin hstr ⊢
 have hE:stepsE ops ints strs rels=(stepsW ops ints strs rels (workS ops ints rels).1 (workS ops ints rels).2 (workL ops)).map stepOf:=by unfold stepsE;rw[if_pos hc]
 have hA:∀ r q,applyE ops ints strs rels r q=match applyF ops ints strs rels (workS ops ints rels).1 (workS ops ints rels).2 (workL ops) r q with | some c=>(some c,0) | none=>(none,170):=fun r q=>by unfold applyE;rw[if_pos hc];rfl
 refine⟨?_,?_,?_⟩
 ·rw[hA,hE,Bool.eq_iff_iff,List.any_eq_true]
  constructor
  ·intro h
   cases ha:applyF ops ints strs rels (workS ops ints rels).1 (workS ops ints rels).2 (workL ops) r q with
   | none=>rw[ha] at h;cases h
   | some x=>exact⟨⟨r,q⟩,List.mem_map.2 ⟨(r,q,x),mem_stepsW.2 ha,rfl⟩,by simp⟩
  ·rintro⟨s,hs,h⟩
   obtain⟨⟨r',q',x⟩,h1,rfl⟩:=List.mem_map.1 hs
   simp only[stepOf,Bool.and_eq_true,beq_iff_eq] at h
   obtain⟨rfl,rfl⟩:=h
   rw[mem_stepsW.1 h1]
   rfl
 ·rw[hE,List.length_map]
  have hg:=check_good hc
  have hi:=check_i200 hc
  have:=stepsR_len (applyF ops ints strs rels (workS ops ints rels).1 (workS ops ints rels).2 (workL ops)) (placesF ops ints strs) (M:=500) (fun r=>by unfold placesF;have:=hg.len;split <;> omega) 8 1
  unfold stepsW
  omega
 ·intro s hs
  rw[hE] at hs
  obtain⟨⟨r',q',x⟩,h1,rfl⟩:=List.mem_map.1 hs
  have ha:=mem_stepsW.1 h1
  obtain⟨h2,h3,h4,h5⟩:=apply_step ha
  have hk:=step_keeps h5
  have hin':=apply_in hxa hin ha
  have hql:r' ≠ 8→q'.toNat < ops.length:=fun h=>by unfold placesF at h4;rw[if_neg h] at h4;omega
  refine⟨x,?_,hin'.1,fun t ht=>hstr t (step_ss h5 t ht),hin'.2,hk.o,ks_kept (step_ks hc h3 hql h5) hk.r,fun i hi=>step_nm hql hi h5⟩
  simp only[stepOf]
  rw[hA,ha]
end Go.Proofs.Tryz
end
