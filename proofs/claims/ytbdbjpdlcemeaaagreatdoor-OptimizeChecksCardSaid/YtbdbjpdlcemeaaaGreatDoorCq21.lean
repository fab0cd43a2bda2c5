/- Part of the proof of one statement of this seat: an abstract machine for the program, its contracts, and the statement (no condition of our own). -/
import Derived.Test.YtbdbjpdlcemeaaaGreatDoorCq12
import Derived.Test.YtbdbjpdlcemeaaaGreatDoorCq13
import Derived.Test.YtbdbjpdlcemeaaaGreatDoorCq14
set_option linter.unusedSimpArgs false
set_option linter.unusedVariables false
section
set_option maxHeartbeats 4000000
set_option maxRecDepth 20000
namespace Go.Proofs.Tryz
open Go Go.Abs
theorem kA:Tryz.prog.funcs[18]? = some f18:=by kernel_rfl
def uset (g:Nat→Bool) (us:List Int):Nat→Bool:=fun i=>g i || us.any fun u=>i==u.toNat
def alB (g:Nat→Bool) (o:bp):Nat→Bool:=fun i=>g i || ((a7 o.op).d&&i==o.d.toNat)
def oset (g:Nat→Bool) (o:bp):Nat→Bool:=uset (alB g o) (dW o.op o.a o.b)
def nmF (ah:List bp):Nat→Bool:=ah.foldl oset fun _=>false
theorem bU:Tryz.prog.funcs[19]? = some f19:=by kernel_rfl
def aa6 (x c:aL) (r s:aP):Bool:=(r.kind==s.kind)&&((r.str.toList==s.str.toList)&&((r.mem.toList==s.mem.toList)&&((x.ops.getD r.at_.toNat bD).op==(c.ops.getD s.at_.toNat bD).op)))
def MY (x c:aL) (r s:aP):Bool:= !((x.ops.getD r.at_.toNat bD).op==1) || (x.ints.getD (x.ops.getD r.at_.toNat bD).n.toNat 0==c.ints.getD (c.ops.getD s.at_.toNat bD).n.toNat 0)
def alC (x c:aL) (r:aP):Bool:=c.ae.any fun s=>aa6 x c r s&&MY x c r s
def aii (x c:aL):Bool:=x.ae.all (alC x c)&&decide (x.ae.length≤c.ae.length)
theorem rU:Tryz.prog.funcs[21]? = some f21:=by kernel_rfl
def NR (ah:List bp) (f:List aB):Prop:=∀ x ∈ f,x.sort=2→nmF ah x.n.toNat=true
theorem NR.set {ah:List bp} {f:List aB} (h:NR ah f) {i:Nat} {s n:Int} (hn:s=2→nmF ah n.toNat=true):NR ah (f.set i ⟨s,n⟩):=fun x hx=>by
 rcases List.mem_or_eq_of_mem_set hx with h1 | h1
 ·exact h x h1
 ·subst h1;exact hn
theorem NR.getD {ah:List bp} {f:List aB} (h:NR ah f) (i:Nat):(f.getD i ⟨0,0⟩).sort=2→nmF ah (f.getD i ⟨0,0⟩).n.toNat=true:=by
 rcases Nat.lt_or_ge i f.length with hi | hi
 ·exact h _ (eP hi)
 ·rw[List.getD_eq_getElem?_getD,List.getElem?_eq_none hi];intro h2;cases h2
def SN (ah:List bp) (s:List (List aB) × List Bool):Prop:=∀ f ∈ s.1,NR ah f
theorem SN.getD {ah:List bp} {s:List (List aB) × List Bool} (h:SN ah s) (i:Nat):NR ah (s.1.getD i []):=by
 rcases Nat.lt_or_ge i s.1.length with hi | hi
 ·exact h _ (gK hi)
 ·rw[List.getD_eq_getElem?_getD,List.getElem?_eq_none hi];intro x hx;simp at hx
theorem SN.set {ah:List bp} {s:List (List aB) × List Bool} (h:SN ah s) {i:Nat} {f:List aB} (hf:NR ah f) (r:List Bool):SN ah (s.1.set i f,r):=fun g hg=>by
 rcases List.mem_or_eq_of_mem_set hg with h1 | h1
 ·exact h g h1
 ·subst h1;exact hf


def pO:aL:=⟨[⟨1,0,0,0,0⟩,⟨1,1,0,0,1⟩,⟨4,2,0,1,0⟩,⟨40,0,2,0,0⟩],[2,3],[],[]⟩
def UW:aL:=⟨[⟨3,1,0,0,0⟩,⟨40,0,1,0,0⟩],[],[],[]⟩
def divC:aL:=⟨[⟨7,0,1,2,0⟩,⟨40,0,1,0,0⟩],[],[],[]⟩
def u4:aL:=⟨[⟨26,0,1,0,8⟩,⟨19,2,0,0,32⟩,⟨40,0,2,0,0⟩],[],[],[]⟩
def u5:aL:=⟨[⟨25,0,0,0,2⟩,⟨24,0,0,0,3⟩,⟨24,0,0,0,3⟩,⟨40,0,0,0,0⟩],[],[],[]⟩
def PG:aL:=⟨[⟨1,2,0,0,0⟩,⟨40,0,2,0,0⟩],[5],[],[]⟩
def PH:aL:=⟨[⟨40,0,0,0,0⟩],[],[],[]⟩
def SY:aL:=⟨[⟨1,0,0,0,0⟩,⟨1,1,0,0,1⟩,⟨1,2,0,0,2⟩,⟨40,0,2,0,0⟩],[2,3,5],[],[]⟩
def PI:aL:=⟨[⟨26,0,1,0,8⟩,⟨3,2,0,0,0⟩,⟨40,0,2,0,0⟩],[],[],[]⟩
def SZ:aL:=⟨[⟨25,0,0,0,3⟩,⟨24,0,0,0,3⟩,⟨24,0,0,0,3⟩,⟨40,0,0,0,0⟩],[],[],[]⟩
def aij (c:aL):Bool:=decide (c.ops.length≤100000)&&(decide (c.ints.length≤100000)&&(decide (c.strs.length≤100000)&&(c.ae.isEmpty&&(c.ops.all (fun o=>decide (-1000≤o.n)&&decide (o.n≤1000))&&c.ints.all fun n=>decide (-1000≤n)&&decide (n≤1000)))))
theorem nu {c:aL} (h:aij c=true):gO c.ops c.ints c.strs c.ae:=by
 unfold aij at h;simp only[Bool.and_eq_true,decide_eq_true_eq,List.all_eq_true,List.isEmpty_iff] at h;obtain⟨h1,h2,h3,h4,h5,h6⟩:=h;exact⟨⟨h1,h2,h3,by rw[h4];simp⟩,(fun r hr=>by rw[h4] at hr;cases hr),(fun o ho=>by have:=h5 o ho;unfold bM;omega),(fun n hn=>by have:=h6 n hn;unfold bM;omega)⟩
theorem Jo:bx pO=true:=by kernel_rfl
theorem PJ:c22 [.st 27 [.sl 80 gF [.st 80 [.int .i64 1,.int .i64 0,.int .i64 0,.int .i64 0,.int .i64 0],.st 80 [.int .i64 1,.int .i64 1,.int .i64 0,.int .i64 0,.int .i64 1],.st 80 [.int .i64 4,.int .i64 2,.int .i64 0,.int .i64 1,.int .i64 0],.st 80 [.int .i64 40,.int .i64 0,.int .i64 2,.int .i64 0,.int .i64 0]],.sl 2 gF [.int .i64 2,.int .i64 3],.sl 9 gF [],.sl 90 gF []]]=some (.cE [.st 27 [.sl 80 gF [.st 80 [.int .i64 1,.int .i64 2,.int .i64 0,.int .i64 0,.int .i64 0],.st 80 [.int .i64 40,.int .i64 0,.int .i64 2,.int .i64 0,.int .i64 0]],.sl 2 gF [.int .i64 5],.sl 9 gF [],.sl 90 gF []],.sl 29 gT [.st 29 [.int .i64 1,.int .i64 2],.st 29 [.int .i64 3,.int .i64 0],.st 29 [.int .i64 3,.int .i64 0],.st 29 [.int .i64 8,.int .i64 0],.st 29 [.int .i64 8,.int .i64 0]],.int .i64 0]):=by
 have h:=O0 pO 30 (PG,[⟨1,2⟩,⟨3,0⟩,⟨3,0⟩,⟨8,0⟩,⟨8,0⟩]) ⟨nu (by kernel_rfl),by decide,by rw[if_pos Jo];kernel_rfl⟩;rw[Jo] at h;exact h
theorem Jp:bx UW=true:=by kernel_rfl
theorem PK:c22 [.st 27 [.sl 80 gF [.st 80 [.int .i64 3,.int .i64 1,.int .i64 0,.int .i64 0,.int .i64 0],.st 80 [.int .i64 40,.int .i64 0,.int .i64 1,.int .i64 0,.int .i64 0]],.sl 2 gF [],.sl 9 gF [],.sl 90 gF []]]=some (.cE [.st 27 [.sl 80 gF [.st 80 [.int .i64 40,.int .i64 0,.int .i64 0,.int .i64 0,.int .i64 0]],.sl 2 gF [],.sl 9 gF [],.sl 90 gF []],.sl 29 gT [.st 29 [.int .i64 2,.int .i64 1],.st 29 [.int .i64 3,.int .i64 0]],.int .i64 0]):=by
 have h:=O0 UW 30 (PH,[⟨2,1⟩,⟨3,0⟩]) ⟨nu (by kernel_rfl),by decide,by rw[if_pos Jp];kernel_rfl⟩;rw[Jp] at h;exact h
theorem PL:jt pO.ops pO.ints pO.strs pO.ae 1 2=(some SY,0):=by kernel_rfl
theorem PM:Zt [.st 27 [.sl 80 gF [.st 80 [.int .i64 1,.int .i64 0,.int .i64 0,.int .i64 0,.int .i64 0],.st 80 [.int .i64 1,.int .i64 1,.int .i64 0,.int .i64 0,.int .i64 1],.st 80 [.int .i64 4,.int .i64 2,.int .i64 0,.int .i64 1,.int .i64 0],.st 80 [.int .i64 40,.int .i64 0,.int .i64 2,.int .i64 0,.int .i64 0]],.sl 2 gF [.int .i64 2,.int .i64 3],.sl 9 gF [],.sl 90 gF []],.st 29 [.int .i64 1,.int .i64 2]]=some (.cE [.st 27 [.sl 80 gF [.st 80 [.int .i64 1,.int .i64 0,.int .i64 0,.int .i64 0,.int .i64 0],.st 80 [.int .i64 1,.int .i64 1,.int .i64 0,.int .i64 0,.int .i64 1],.st 80 [.int .i64 1,.int .i64 2,.int .i64 0,.int .i64 0,.int .i64 2],.st 80 [.int .i64 40,.int .i64 0,.int .i64 2,.int .i64 0,.int .i64 0]],.sl 2 gF [.int .i64 2,.int .i64 3,.int .i64 5],.sl 9 gF [],.sl 90 gF []],.int .i64 0]):=by
 have h:=Cd pO.ops pO.ints pO.strs pO.ae 1 2 (nu (by kernel_rfl));rw[PL] at h;exact h
theorem PN:jt u4.ops u4.ints u4.strs u4.ae 6 1=(some PI,0):=by kernel_rfl
theorem PO:Zt [.st 27 [.sl 80 gF [.st 80 [.int .i64 26,.int .i64 0,.int .i64 1,.int .i64 0,.int .i64 8],.st 80 [.int .i64 19,.int .i64 2,.int .i64 0,.int .i64 0,.int .i64 32],.st 80 [.int .i64 40,.int .i64 0,.int .i64 2,.int .i64 0,.int .i64 0]],.sl 2 gF [],.sl 9 gF [],.sl 90 gF []],.st 29 [.int .i64 6,.int .i64 1]]=some (.cE [.st 27 [.sl 80 gF [.st 80 [.int .i64 26,.int .i64 0,.int .i64 1,.int .i64 0,.int .i64 8],.st 80 [.int .i64 3,.int .i64 2,.int .i64 0,.int .i64 0,.int .i64 0],.st 80 [.int .i64 40,.int .i64 0,.int .i64 2,.int .i64 0,.int .i64 0]],.sl 2 gF [],.sl 9 gF [],.sl 90 gF []],.int .i64 0]):=by
 have h:=Cd u4.ops u4.ints u4.strs u4.ae 6 1 (nu (by kernel_rfl));rw[PN] at h;exact h
theorem PQ:jt u5.ops u5.ints u5.strs u5.ae 4 0=(some SZ,0):=by kernel_rfl
theorem PR:Zt [.st 27 [.sl 80 gF [.st 80 [.int .i64 25,.int .i64 0,.int .i64 0,.int .i64 0,.int .i64 2],.st 80 [.int .i64 24,.int .i64 0,.int .i64 0,.int .i64 0,.int .i64 3],.st 80 [.int .i64 24,.int .i64 0,.int .i64 0,.int .i64 0,.int .i64 3],.st 80 [.int .i64 40,.int .i64 0,.int .i64 0,.int .i64 0,.int .i64 0]],.sl 2 gF [],.sl 9 gF [],.sl 90 gF []],.st 29 [.int .i64 4,.int .i64 0]]=some (.cE [.st 27 [.sl 80 gF [.st 80 [.int .i64 25,.int .i64 0,.int .i64 0,.int .i64 0,.int .i64 3],.st 80 [.int .i64 24,.int .i64 0,.int .i64 0,.int .i64 0,.int .i64 3],.st 80 [.int .i64 24,.int .i64 0,.int .i64 0,.int .i64 0,.int .i64 3],.st 80 [.int .i64 40,.int .i64 0,.int .i64 0,.int .i64 0,.int .i64 0]],.sl 2 gF [],.sl 9 gF [],.sl 90 gF []],.int .i64 0]):=by
 have h:=Cd u5.ops u5.ints u5.strs u5.ae 4 0 (nu (by kernel_rfl));rw[PQ] at h;exact h
theorem S0:jt divC.ops divC.ints divC.strs divC.ae 0 0=(none,170):=by kernel_rfl
theorem S7:c14 [.st 27 [.sl 80 gF [.st 80 [.int .i64 7,.int .i64 0,.int .i64 1,.int .i64 2,.int .i64 0],.st 80 [.int .i64 40,.int .i64 0,.int .i64 1,.int .i64 0,.int .i64 0]],.sl 2 gF [],.sl 9 gF [],.sl 90 gF []],.st 29 [.int .i64 0,.int .i64 0]]=some (.int .i64 170):=by
 have h:=Zu divC.ops divC.ints divC.strs divC.ae 0 0 (nu (by kernel_rfl));rw[S0] at h;exact h
theorem aa7:eM divC.ops divC.ints divC.strs divC.ae=[]:=by kernel_rfl
theorem aa8:aU divC.ops divC.ints divC.strs divC.ae=true:=by kernel_rfl
theorem S9:c15 [.st 27 [.sl 80 gF [.st 80 [.int .i64 7,.int .i64 0,.int .i64 1,.int .i64 2,.int .i64 0],.st 80 [.int .i64 40,.int .i64 0,.int .i64 1,.int .i64 0,.int .i64 0]],.sl 2 gF [],.sl 9 gF [],.sl 90 gF []]]=some (.cE [.sl 29 gT [],.int .i64 0]):=by
 have h:=OW divC.ops divC.ints divC.strs divC.ae (nu (by kernel_rfl));rw[aa8,aa7] at h;exact h
theorem aik:mH PG PG=true:=by kernel_rfl
theorem S_:c13 [.st 27 [.sl 80 gF [.st 80 [.int .i64 1,.int .i64 2,.int .i64 0,.int .i64 0,.int .i64 0],.st 80 [.int .i64 40,.int .i64 0,.int .i64 2,.int .i64 0,.int .i64 0]],.sl 2 gF [.int .i64 5],.sl 9 gF [],.sl 90 gF []],.st 27 [.sl 80 gF [.st 80 [.int .i64 1,.int .i64 2,.int .i64 0,.int .i64 0,.int .i64 0],.st 80 [.int .i64 40,.int .i64 0,.int .i64 2,.int .i64 0,.int .i64 0]],.sl 2 gF [.int .i64 5],.sl 9 gF [],.sl 90 gF []]]=some (.bool true):=by
 have h:=Ow PG PG (by decide);rw[aik] at h;exact h
theorem ail:mH PH PH=true:=by kernel_rfl
theorem Ta:c13 [.st 27 [.sl 80 gF [.st 80 [.int .i64 40,.int .i64 0,.int .i64 0,.int .i64 0,.int .i64 0]],.sl 2 gF [],.sl 9 gF [],.sl 90 gF []],.st 27 [.sl 80 gF [.st 80 [.int .i64 40,.int .i64 0,.int .i64 0,.int .i64 0,.int .i64 0]],.sl 2 gF [],.sl 9 gF [],.sl 90 gF []]]=some (.bool true):=by
 have h:=Ow PH PH (by decide);rw[ail] at h;exact h
theorem h32:Tryz.prog.funcs[32]? = some f32:=by kernel_rfl
theorem aim (o d a b n:Int) (A:Nat→Prop):ak (env 17 1055 D0 [] [] A) hN (5) f32 [.int .i64 o,.int .i64 d,.int .i64 a,.int .i64 b,.int .i64 n]=some (.st 80 [.int .i64 o,.int .i64 d,.int .i64 a,.int .i64 b,.int .i64 n]):=by
 simp only[ak,ai,f32];simp only[go_sem];try rfl
noncomputable def c32:=bk (α:=Int × Int × Int × Int × Int) (fun _=>True) (fun (o,d,a,b,n)=>[.int .i64 o,.int .i64 d,.int .i64 a,.int .i64 b,.int .i64 n]) (fun (o,d,a,b,n)=> .st 80 [.int .i64 o,.int .i64 d,.int .i64 a,.int .i64 b,.int .i64 n])
theorem PS (o d a b n:Int):c32 [.int .i64 o,.int .i64 d,.int .i64 a,.int .i64 b,.int .i64 n]=some (.st 80 [.int .i64 o,.int .i64 d,.int .i64 a,.int .i64 b,.int .i64 n]):=aJ (fun X Y hp bZ h'=>by
 obtain⟨o,d,a,b,n⟩:=X;obtain⟨o',d',a',b',n'⟩:=Y;simp only[cJ] at h';obtain⟨rfl,rfl,rfl,rfl,rfl⟩:=h';rfl) (o,d,a,b,n) trivial
theorem UX:cI 32 c32:=aE h32 rfl rfl fun (o,d,a,b,n) _=>rc h32 (fun A=>aim o d a b n A) (fun _=>[]) rfl rfl rfl (by kernel_rfl) trivial trivial
theorem h31:Tryz.prog.funcs[31]? = some f31:=by kernel_rfl
theorem ain  :∃ r,wk r (.st 27 [.sl 80 gT [.st 80 [.int .i64 1,.int .i64 0,.int .i64 0,.int .i64 0,.int .i64 0],.st 80 [.int .i64 1,.int .i64 1,.int .i64 0,.int .i64 0,.int .i64 1],.st 80 [.int .i64 4,.int .i64 2,.int .i64 0,.int .i64 1,.int .i64 0],.st 80 [.int .i64 40,.int .i64 0,.int .i64 2,.int .i64 0,.int .i64 0]],.sl 2 gT [.int .i64 2,.int .i64 3],.sl 9 gT [],.sl 90 gT []])∧∀ A,ak (env 8 1 D0 [(32,c32)] [] A) hN (5) f31 []=some r:=by
 apply bu
 ·intro A;simp only[ak,ai,f31];simp only[go_sem,PS];try rfl
 ·simp[WK,aS,ax]
noncomputable def c31:=bk (α:=Unit) (fun _=>True) (fun _=>[]) (fun _=> .st 27 [.sl 80 gT [.st 80 [.int .i64 1,.int .i64 0,.int .i64 0,.int .i64 0,.int .i64 0],.st 80 [.int .i64 1,.int .i64 1,.int .i64 0,.int .i64 0,.int .i64 1],.st 80 [.int .i64 4,.int .i64 2,.int .i64 0,.int .i64 1,.int .i64 0],.st 80 [.int .i64 40,.int .i64 0,.int .i64 2,.int .i64 0,.int .i64 0]],.sl 2 gT [.int .i64 2,.int .i64 3],.sl 9 gT [],.sl 90 gT []])
theorem aa9 :c31 []=some (.st 27 [.sl 80 gT [.st 80 [.int .i64 1,.int .i64 0,.int .i64 0,.int .i64 0,.int .i64 0],.st 80 [.int .i64 1,.int .i64 1,.int .i64 0,.int .i64 0,.int .i64 1],.st 80 [.int .i64 4,.int .i64 2,.int .i64 0,.int .i64 1,.int .i64 0],.st 80 [.int .i64 40,.int .i64 0,.int .i64 2,.int .i64 0,.int .i64 0]],.sl 2 gT [.int .i64 2,.int .i64 3],.sl 9 gT [],.sl 90 gT []]):=aJ (fun _ _ _ _ _=>rfl) () trivial
theorem aio:cI 31 c31:=aE h31 rfl rfl fun _ _=>let ⟨_,hw,hr⟩:=ain ;(rc h31 hr (fun _=>[]) rfl rfl rfl (by kernel_rfl) ⟨UX,trivial⟩ trivial).eK hw
def Z8 (i:Nat):List Nat:=if i=4 then [35] else if i=8 then [55] else if i=10 then [67] else []
theorem h8:Tryz.prog.funcs[8]? = some f8:=by kernel_rfl
def D8:Nat→Option (List DH × List Nat):=fun i=>match i with | 15=>some ([⟨[],[],[133]⟩,⟨[],[],[133]⟩,⟨[],[],[133]⟩,⟨[],[],[133]⟩,⟨[],[],[133]⟩,⟨[],[],[133]⟩,⟨[],[],[133]⟩,⟨[133],[],[133]⟩,⟨[],[],[133]⟩,⟨[],[133],[]⟩,⟨[],[],[]⟩,⟨[],[],[]⟩,⟨[],[],[]⟩,⟨[],[],[]⟩,⟨[],[],[]⟩,⟨[],[],[]⟩,⟨[],[],[]⟩,⟨[],[],[]⟩,⟨[],[],[]⟩,⟨[],[],[]⟩,⟨[],[],[]⟩,⟨[],[],[]⟩,⟨[],[],[]⟩,⟨[],[],[]⟩,⟨[],[],[]⟩,⟨[],[],[]⟩,⟨[],[],[]⟩,⟨[],[],[]⟩,⟨[],[],[]⟩,⟨[],[],[]⟩,⟨[],[],[]⟩,⟨[],[],[]⟩,⟨[],[],[]⟩,⟨[],[],[]⟩,⟨[],[],[]⟩,⟨[],[],[]⟩],[133]) | _=>none
theorem aip:D8 15=some ([⟨[],[],[133]⟩,⟨[],[],[133]⟩,⟨[],[],[133]⟩,⟨[],[],[133]⟩,⟨[],[],[133]⟩,⟨[],[],[133]⟩,⟨[],[],[133]⟩,⟨[133],[],[133]⟩,⟨[],[],[133]⟩,⟨[],[133],[]⟩,⟨[],[],[]⟩,⟨[],[],[]⟩,⟨[],[],[]⟩,⟨[],[],[]⟩,⟨[],[],[]⟩,⟨[],[],[]⟩,⟨[],[],[]⟩,⟨[],[],[]⟩,⟨[],[],[]⟩,⟨[],[],[]⟩,⟨[],[],[]⟩,⟨[],[],[]⟩,⟨[],[],[]⟩,⟨[],[],[]⟩,⟨[],[],[]⟩,⟨[],[],[]⟩,⟨[],[],[]⟩,⟨[],[],[]⟩,⟨[],[],[]⟩,⟨[],[],[]⟩,⟨[],[],[]⟩,⟨[],[],[]⟩,⟨[],[],[]⟩,⟨[],[],[]⟩,⟨[],[],[]⟩,⟨[],[],[]⟩],[133]):=rfl
theorem aiq:D8 14=none:=rfl
theorem alE  (A:Nat→Prop):ak (jD (Z8) eV 159 81129638414606681695789007240959 D8 [(31,c31),(32,c32),(22,c22),(11,Zt),(15,c15),(13,c13),(14,c14)] [] A) hN (5) f8 []=some (.bool true):=by
 have z4:Z8 4=[35]:=rfl;have z8:Z8 8=[55]:=rfl;have z10:Z8 10=[67]:=rfl;have zz:∀ i,i ≠ 4→i ≠ 8→i ≠ 10→Z8 i=[]:=fun i a b c=>by simp[Z8,a,b,c]
 simp only[ak,ai,f8];simp only[go_sem,aiq,aip,aa9,PS,z4,z8,z10,zz,ne_eq,not_false_eq_true,St.lP,Qp,sw,Lf,CP,A_,A9,PJ,PK,S_,Ta,S9,S7,PM,PO,PR];try rfl
noncomputable def c8:=bk (α:=Unit) (fun _=>True) (fun _=>[]) (fun _=> .bool true)
theorem UY :c8 []=some (.bool true):=aJ (fun _ _ _ _ _=>rfl) () trivial
theorem alF:cI 8 c8:=aE h8 rfl rfl fun _ _=>rX h8 (fun A=>alE  A) (fun i=>match i with | 14=>[0,1,3,7,15,31,63,127,255,31,1023,2047,4095] | 15=>[0,1,3,3,15,31,63,127,127,383,895,2047,4095,8191,16383,32767,65535,131071,262143,524287,1048575,2097151,4194303,8388607,16777215,33554431,67108863,134217727,268435455,536870911,1073741823,1073741823,4294967295,8589934591,17179869183,34359738367] | _=>[]) rfl rfl rfl (by kernel_rfl) ⟨aio,UX,ag9,UL,UN,af9,ago,trivial⟩ trivial
structure air (c x:aL):Prop where
 xin:gO x.ops x.ints x.strs x.ae
 strs:∀ s ∈ x.strs,s.size≤9223372036854775807
 ck:bx x=true
 len:x.ops.length≤c.ops.length
 kept:aii x c=true
 nm:∀ i,nmF x.ops i=true→nmF c.ops i=true
def aa_ (c:aL) (ls:List ct):Prop:=∀ s ∈ ls,∃ x,jt c.ops c.ints c.strs c.ae s.rule s.at_=(some x,0)∧air c x
def Tb (c:aL) (r q:Int):Prop:=gO c.ops c.ints c.strs c.ae→bx c=true→((jt c.ops c.ints c.strs c.ae r q).2==0)=((eM c.ops c.ints c.strs c.ae).any fun s=>s.rule==r&&s.at_==q)∧(eM c.ops c.ints c.strs c.ae).length≤100000∧aa_ c (eM c.ops c.ints c.strs c.ae)
theorem h5:Tryz.prog.funcs[5]? = some f5:=by kernel_rfl
noncomputable def c5:=bk (α:=aL × Int × Int) (fun (c,r,q)=>(∀ o ∈ c.ops,bM o.n)∧(∀ n ∈ c.ints,bM n)∧(∀ s ∈ c.strs,s.size≤9223372036854775807)∧(∀ r ∈ c.ae,r.str.size≤9223372036854775807∧r.mem.size≤9223372036854775807)∧Tb c r q) (fun (c,r,q)=>[(cd c.ops c.ints c.strs c.ae),.st 29 [.int .i64 r,.int .i64 q]]) (fun (c,r,q)=> .bool true)
def SS (ag:List ByteArray) (c:aL):Prop:=∀ s ∈ c.strs,s ∈ ag
theorem Tc {ah:List bp} {ab:List Int} {ag:List ByteArray} {ae:List aP} {c:aL} (h:some (⟨ah,ab,ag,ae⟩:aL)=some c):SS ag c:=by
 injection h with h;subst h;exact fun s hs=>hs
theorem Td {ah:List bp} {ab:List Int} {ag:List ByteArray} {ae:List aP} {ao:List (List aB)} {aj:List Bool} {au:List Int} {rule q:Int} {c:aL} (h:gW ah ab ag ae ao aj au rule q=some c):SS ag c:=by
 revert h;unfold gW nB oh ir nD iq km kn kp g_ nC cf;dsimp only;repeat' refine cg ?_ ?_
 all_goals intro h
 all_goals first
  | (cases h;done)
  | exact Tc h
  | (injection h with h;subst h;exact fun s hs=>List.mem_of_mem_eraseIdx hs)
end Go.Proofs.Tryz
end
