/- A part of a proof. -/
import Derived.Test.YtbdbjpdlcemeaaaGreatDoorRu12
import Derived.Test.YtbdbjpdlcemeaaaGreatDoorRu13
import Derived.Test.YtbdbjpdlcemeaaaGreatDoorRu14
set_option linter.unusedSimpArgs false
set_option linter.unusedVariables false
section
set_option maxHeartbeats 4000000
set_option maxRecDepth 20000
namespace Go.Proofs.Tryz
open Go Go.Abs
theorem kA:Q 18=some f18:=by kernel_rfl
def uset (g:Nat→Bool) (us:List Int):Nat→Bool:=fun i=>g i || us.any fun u=>i==u.toNat
def alB (g:Nat→Bool) (o:bp):Nat→Bool:=fun i=>g i || ((a7 o.op).d&&i==o.d.toNat)
def oset (g:Nat→Bool) (o:bp):Nat→Bool:=uset (alB g o) (dW o.op o.a o.b)
def nmF (N:List bp):Nat→Bool:=N.foldl oset fun _=>false
theorem bU:Q 19=some f19:=by kernel_rfl
def aa6 (x c:aL) (r s:aP):Bool:=(r.kind==s.kind)&&((r.str.toList==s.str.toList)&&((r.mem.toList==s.mem.toList)&&((x.ops.getD r.at_.toNat bD).op==(c.ops.getD s.at_.toNat bD).op)))
def MY (x c:aL) (r s:aP):Bool:= !((x.ops.getD r.at_.toNat bD).op==1) || (x.ints.getD (x.ops.getD r.at_.toNat bD).n.toNat 0==c.ints.getD (c.ops.getD s.at_.toNat bD).n.toNat 0)
def alC (x c:aL) (r:aP):Bool:=c.U.any fun s=>aa6 x c r s&&MY x c r s
def aii (x c:aL):Bool:=x.U.all (alC x c)&&decide (x.U.length≤c.U.length)
theorem rU:Q 21=some f21:=by kernel_rfl
def NR (N:List bp) (f:List aB):Prop:=∀ x ∈ f,x.sort=2→nmF N x.n.toNat=true
theorem NR.set {N:List bp} {f:List aB} (h:NR N f) {i:Nat} {s n:Int} (hn:s=2→nmF N n.toNat=true):NR N (f.set i ⟨s,n⟩):=fun x hx=>by
 rcases List.mem_or_eq_of_mem_set hx with h1 | h1
 ·exact h x h1
 ·subst h1;exact hn
theorem NR.getD {N:List bp} {f:List aB} (h:NR N f) (i:Nat):(f.getD i ⟨0,0⟩).sort=2→nmF N (f.getD i ⟨0,0⟩).n.toNat=true:=by
 rcases Nat.lt_or_ge i f.length with hi | hi
 ·exact h _ (eP hi)
 ·rw[List.getD_eq_getElem?_getD,List.getElem?_eq_none hi];intro h2;cases h2
def SN (N:List bp) (s:List (List aB) × List Bool):Prop:=∀ f ∈ s.1,NR N f
theorem SN.getD {N:List bp} {s:List (List aB) × List Bool} (h:SN N s) (i:Nat):NR N (s.1.getD i []):=by
 rcases Nat.lt_or_ge i s.1.length with hi | hi
 ·exact h _ (gK hi)
 ·rw[List.getD_eq_getElem?_getD,List.getElem?_eq_none hi];intro x hx;simp at hx
theorem SN.set {N:List bp} {s:List (List aB) × List Bool} (h:SN N s) {i:Nat} {f:List aB} (hf:NR N f) (r:List Bool):SN N (s.1.set i f,r):=fun g hg=>by
 rcases List.mem_or_eq_of_mem_set hg with h1 | h1
 ·exact h g h1
 ·subst h1;exact hf


def pO:aL:=⟨[⟨1,0,0,0,0⟩,⟨1,1,0,0,1⟩,⟨4,2,0,1,0⟩,⟨40,0,2,0,0⟩],[2,3],[],[]⟩
def UW:aL:=⟨[⟨3,1,0,0,0⟩,⟨40,0,1,0,0⟩],[],[],[]⟩
def divC:aL:=⟨[⟨7,0,1,2,0⟩,⟨40,0,1,0,0⟩],[],[],[]⟩
def u4:aL:=⟨[⟨26,0,1,0,8⟩,⟨19,2,0,0,32⟩,⟨40,0,2,0,0⟩],[],[],[]⟩
def u5:aL:=⟨[⟨25,0,0,0,2⟩,⟨24,0,0,0,3⟩,⟨24,0,0,0,3⟩,⟨40,0,0,0,0⟩],[],[],[]⟩
def PG:aL:=⟨[⟨1,2,0,0,0⟩,⟨40,0,2,0,0⟩],[5],[],[]⟩
def PH:aL:=⟨[⟨40,0,0,0,0⟩],[],[],[]⟩
def SY:aL:=⟨[⟨1,0,0,0,0⟩,⟨1,1,0,0,1⟩,⟨1,2,0,0,2⟩,⟨40,0,2,0,0⟩],[2,3,5],[],[]⟩
def PI:aL:=⟨[⟨26,0,1,0,8⟩,⟨3,2,0,0,0⟩,⟨40,0,2,0,0⟩],[],[],[]⟩
def SZ:aL:=⟨[⟨25,0,0,0,3⟩,⟨24,0,0,0,3⟩,⟨24,0,0,0,3⟩,⟨40,0,0,0,0⟩],[],[],[]⟩
def aij (c:aL):Bool:=decide (c.ops.length≤100000)&&(decide (c.ints.length≤100000)&&(decide (c.strs.length≤100000)&&(c.U.isEmpty&&(c.ops.all (fun o=>decide (-1000≤o.n)&&decide (o.n≤1000))&&c.ints.all fun n=>decide (-1000≤n)&&decide (n≤1000)))))
theorem nu {c:aL} (h:aij c=true):gO c.ops c.ints c.strs c.U:=by
 unfold aij at h;simp only[Bool.and_eq_true,decide_eq_true_eq,List.all_eq_true,List.isEmpty_iff] at h;obtain⟨h1,h2,h3,h4,h5,h6⟩:=h;exact⟨⟨h1,h2,h3,by rw[h4];simp⟩,(fun r hr=>by rw[h4] at hr;cases hr),(fun o ho=>by have:=h5 o ho;unfold bM;omega),(fun n hn=>by have:=h6 n hn;unfold bM;omega)⟩
theorem Jo:bx pO=true:=by kernel_rfl
theorem PJ:c22 [.st 27 [.sl 80 gF [.st 80 [J 1,J 0,J 0,J 0,J 0],.st 80 [J 1,J 1,J 0,J 0,J 1],.st 80 [J 4,J 2,J 0,J 1,J 0],.st 80 [J 40,J 0,J 2,J 0,J 0]],.sl 2 gF [J 2,J 3],.sl 9 gF [],.sl 90 gF []]]=some (.cE [.st 27 [.sl 80 gF [.st 80 [J 1,J 2,J 0,J 0,J 0],.st 80 [J 40,J 0,J 2,J 0,J 0]],.sl 2 gF [J 5],.sl 9 gF [],.sl 90 gF []],.sl 29 gT [.st 29 [J 1,J 2],.st 29 [J 3,J 0],.st 29 [J 3,J 0],.st 29 [J 8,J 0],.st 29 [J 8,J 0]],J 0]):=by
 have h:=O0 pO 30 (PG,[⟨1,2⟩,⟨3,0⟩,⟨3,0⟩,⟨8,0⟩,⟨8,0⟩]) ⟨nu (by kernel_rfl),by decide,by rw[if_pos Jo];kernel_rfl⟩;rw[Jo] at h;exact h
theorem Jp:bx UW=true:=by kernel_rfl
theorem PK:c22 [.st 27 [.sl 80 gF [.st 80 [J 3,J 1,J 0,J 0,J 0],.st 80 [J 40,J 0,J 1,J 0,J 0]],.sl 2 gF [],.sl 9 gF [],.sl 90 gF []]]=some (.cE [.st 27 [.sl 80 gF [.st 80 [J 40,J 0,J 0,J 0,J 0]],.sl 2 gF [],.sl 9 gF [],.sl 90 gF []],.sl 29 gT [.st 29 [J 2,J 1],.st 29 [J 3,J 0]],J 0]):=by
 have h:=O0 UW 30 (PH,[⟨2,1⟩,⟨3,0⟩]) ⟨nu (by kernel_rfl),by decide,by rw[if_pos Jp];kernel_rfl⟩;rw[Jp] at h;exact h
theorem PL:jt pO.ops pO.ints pO.strs pO.U 1 2=(some SY,0):=by kernel_rfl
theorem PM:Zt [.st 27 [.sl 80 gF [.st 80 [J 1,J 0,J 0,J 0,J 0],.st 80 [J 1,J 1,J 0,J 0,J 1],.st 80 [J 4,J 2,J 0,J 1,J 0],.st 80 [J 40,J 0,J 2,J 0,J 0]],.sl 2 gF [J 2,J 3],.sl 9 gF [],.sl 90 gF []],.st 29 [J 1,J 2]]=some (.cE [.st 27 [.sl 80 gF [.st 80 [J 1,J 0,J 0,J 0,J 0],.st 80 [J 1,J 1,J 0,J 0,J 1],.st 80 [J 1,J 2,J 0,J 0,J 2],.st 80 [J 40,J 0,J 2,J 0,J 0]],.sl 2 gF [J 2,J 3,J 5],.sl 9 gF [],.sl 90 gF []],J 0]):=by
 have h:=Cd pO.ops pO.ints pO.strs pO.U 1 2 (nu (by kernel_rfl));rw[PL] at h;exact h
theorem PN:jt u4.ops u4.ints u4.strs u4.U 6 1=(some PI,0):=by kernel_rfl
theorem PO:Zt [.st 27 [.sl 80 gF [.st 80 [J 26,J 0,J 1,J 0,J 8],.st 80 [J 19,J 2,J 0,J 0,J 32],.st 80 [J 40,J 0,J 2,J 0,J 0]],.sl 2 gF [],.sl 9 gF [],.sl 90 gF []],.st 29 [J 6,J 1]]=some (.cE [.st 27 [.sl 80 gF [.st 80 [J 26,J 0,J 1,J 0,J 8],.st 80 [J 3,J 2,J 0,J 0,J 0],.st 80 [J 40,J 0,J 2,J 0,J 0]],.sl 2 gF [],.sl 9 gF [],.sl 90 gF []],J 0]):=by
 have h:=Cd u4.ops u4.ints u4.strs u4.U 6 1 (nu (by kernel_rfl));rw[PN] at h;exact h
theorem PQ:jt u5.ops u5.ints u5.strs u5.U 4 0=(some SZ,0):=by kernel_rfl
theorem PR:Zt [.st 27 [.sl 80 gF [.st 80 [J 25,J 0,J 0,J 0,J 2],.st 80 [J 24,J 0,J 0,J 0,J 3],.st 80 [J 24,J 0,J 0,J 0,J 3],.st 80 [J 40,J 0,J 0,J 0,J 0]],.sl 2 gF [],.sl 9 gF [],.sl 90 gF []],.st 29 [J 4,J 0]]=some (.cE [.st 27 [.sl 80 gF [.st 80 [J 25,J 0,J 0,J 0,J 3],.st 80 [J 24,J 0,J 0,J 0,J 3],.st 80 [J 24,J 0,J 0,J 0,J 3],.st 80 [J 40,J 0,J 0,J 0,J 0]],.sl 2 gF [],.sl 9 gF [],.sl 90 gF []],J 0]):=by
 have h:=Cd u5.ops u5.ints u5.strs u5.U 4 0 (nu (by kernel_rfl));rw[PQ] at h;exact h
theorem S0:jt divC.ops divC.ints divC.strs divC.U 0 0=(none,170):=by kernel_rfl
theorem S7:c14 [.st 27 [.sl 80 gF [.st 80 [J 7,J 0,J 1,J 2,J 0],.st 80 [J 40,J 0,J 1,J 0,J 0]],.sl 2 gF [],.sl 9 gF [],.sl 90 gF []],.st 29 [J 0,J 0]]=some (J 170):=by
 have h:=Zu divC.ops divC.ints divC.strs divC.U 0 0 (nu (by kernel_rfl));rw[S0] at h;exact h
theorem aa7:eM divC.ops divC.ints divC.strs divC.U=[]:=by kernel_rfl
theorem aa8:aU divC.ops divC.ints divC.strs divC.U=true:=by kernel_rfl
theorem S9:c15 [.st 27 [.sl 80 gF [.st 80 [J 7,J 0,J 1,J 2,J 0],.st 80 [J 40,J 0,J 1,J 0,J 0]],.sl 2 gF [],.sl 9 gF [],.sl 90 gF []]]=some (.cE [.sl 29 gT [],J 0]):=by
 have h:=OW divC.ops divC.ints divC.strs divC.U (nu (by kernel_rfl));rw[aa8,aa7] at h;exact h
theorem aik:mH PG PG=true:=by kernel_rfl
theorem S_:c13 [.st 27 [.sl 80 gF [.st 80 [J 1,J 2,J 0,J 0,J 0],.st 80 [J 40,J 0,J 2,J 0,J 0]],.sl 2 gF [J 5],.sl 9 gF [],.sl 90 gF []],.st 27 [.sl 80 gF [.st 80 [J 1,J 2,J 0,J 0,J 0],.st 80 [J 40,J 0,J 2,J 0,J 0]],.sl 2 gF [J 5],.sl 9 gF [],.sl 90 gF []]]=some (.bool true):=by
 have h:=Ow PG PG (by decide);rw[aik] at h;exact h
theorem ail:mH PH PH=true:=by kernel_rfl
theorem Ta:c13 [.st 27 [.sl 80 gF [.st 80 [J 40,J 0,J 0,J 0,J 0]],.sl 2 gF [],.sl 9 gF [],.sl 90 gF []],.st 27 [.sl 80 gF [.st 80 [J 40,J 0,J 0,J 0,J 0]],.sl 2 gF [],.sl 9 gF [],.sl 90 gF []]]=some (.bool true):=by
 have h:=Ow PH PH (by decide);rw[ail] at h;exact h
theorem h32:Q 32=some f32:=by kernel_rfl
theorem aim (o d a b n:Int) (A:NP):ak (env 17 1055 D0 [] [] A) hN (5) f32 [J o,J d,J a,J b,J n]=some (.st 80 [J o,J d,J a,J b,J n]):=by
 simp only[ak,ai,f32];simp only[go_sem];try rfl
noncomputable def c32:=bk (α:=Int × Int × Int × Int × Int) (fun _=>True) (fun (o,d,a,b,n)=>[J o,J d,J a,J b,J n]) (fun (o,d,a,b,n)=> .st 80 [J o,J d,J a,J b,J n])
theorem PS (o d a b n:Int):c32 [J o,J d,J a,J b,J n]=some (.st 80 [J o,J d,J a,J b,J n]):=aJ (fun X Y hp bZ h'=>by
 obtain⟨o,d,a,b,n⟩:=X;obtain⟨o',d',a',b',n'⟩:=Y;simp only[cJ] at h';obtain⟨rfl,rfl,rfl,rfl,rfl⟩:=h';rfl) (o,d,a,b,n) trivial
theorem UX:cI 32 c32:=aE h32 rfl rfl fun (o,d,a,b,n) _=>rc h32 (fun A=>aim o d a b n A) (fun _=>[]) rfl rfl rfl (by kernel_rfl) trivial trivial
theorem h31:Q 31=some f31:=by kernel_rfl
theorem ain  :∃ r,wk r (.st 27 [.sl 80 gT [.st 80 [J 1,J 0,J 0,J 0,J 0],.st 80 [J 1,J 1,J 0,J 0,J 1],.st 80 [J 4,J 2,J 0,J 1,J 0],.st 80 [J 40,J 0,J 2,J 0,J 0]],.sl 2 gT [J 2,J 3],.sl 9 gT [],.sl 90 gT []])∧∀ A,ak (env 8 1 D0 [(32,c32)] [] A) hN (5) f31 []=some r:=by
 apply bu
 ·intro A;simp only[ak,ai,f31];simp only[go_sem,PS];try rfl
 ·simp[WK,aS,ax]
noncomputable def c31:=bk (α:=Unit) (fun _=>True) (fun _=>[]) (fun _=> .st 27 [.sl 80 gT [.st 80 [J 1,J 0,J 0,J 0,J 0],.st 80 [J 1,J 1,J 0,J 0,J 1],.st 80 [J 4,J 2,J 0,J 1,J 0],.st 80 [J 40,J 0,J 2,J 0,J 0]],.sl 2 gT [J 2,J 3],.sl 9 gT [],.sl 90 gT []])
theorem aa9 :c31 []=some (.st 27 [.sl 80 gT [.st 80 [J 1,J 0,J 0,J 0,J 0],.st 80 [J 1,J 1,J 0,J 0,J 1],.st 80 [J 4,J 2,J 0,J 1,J 0],.st 80 [J 40,J 0,J 2,J 0,J 0]],.sl 2 gT [J 2,J 3],.sl 9 gT [],.sl 90 gT []]):=aJ (fun _ _ _ _ _=>rfl) () trivial
theorem aio:cI 31 c31:=aE h31 rfl rfl fun _ _=>let ⟨_,hw,hr⟩:=ain ;(rc h31 hr (fun _=>[]) rfl rfl rfl (by kernel_rfl) ⟨UX,trivial⟩ trivial).eK hw
def Z8 (i:Nat):List Nat:=if i=4 then [35] else if i=8 then [55] else if i=10 then [67] else []
theorem h8:Q 8=some f8:=by kernel_rfl
def D8:Nat→Option (List DH × List Nat):=fun i=>match i with | 15=>some ([⟨[],[],[133]⟩,⟨[],[],[133]⟩,⟨[],[],[133]⟩,⟨[],[],[133]⟩,⟨[],[],[133]⟩,⟨[],[],[133]⟩,⟨[],[],[133]⟩,⟨[133],[],[133]⟩,⟨[],[],[133]⟩,⟨[],[133],[]⟩,⟨[],[],[]⟩,⟨[],[],[]⟩,⟨[],[],[]⟩,⟨[],[],[]⟩,⟨[],[],[]⟩,⟨[],[],[]⟩,⟨[],[],[]⟩,⟨[],[],[]⟩,⟨[],[],[]⟩,⟨[],[],[]⟩,⟨[],[],[]⟩,⟨[],[],[]⟩,⟨[],[],[]⟩,⟨[],[],[]⟩,⟨[],[],[]⟩,⟨[],[],[]⟩,⟨[],[],[]⟩,⟨[],[],[]⟩,⟨[],[],[]⟩,⟨[],[],[]⟩,⟨[],[],[]⟩,⟨[],[],[]⟩,⟨[],[],[]⟩,⟨[],[],[]⟩,⟨[],[],[]⟩,⟨[],[],[]⟩],[133]) | _=>none
theorem aip:D8 15=some ([⟨[],[],[133]⟩,⟨[],[],[133]⟩,⟨[],[],[133]⟩,⟨[],[],[133]⟩,⟨[],[],[133]⟩,⟨[],[],[133]⟩,⟨[],[],[133]⟩,⟨[133],[],[133]⟩,⟨[],[],[133]⟩,⟨[],[133],[]⟩,⟨[],[],[]⟩,⟨[],[],[]⟩,⟨[],[],[]⟩,⟨[],[],[]⟩,⟨[],[],[]⟩,⟨[],[],[]⟩,⟨[],[],[]⟩,⟨[],[],[]⟩,⟨[],[],[]⟩,⟨[],[],[]⟩,⟨[],[],[]⟩,⟨[],[],[]⟩,⟨[],[],[]⟩,⟨[],[],[]⟩,⟨[],[],[]⟩,⟨[],[],[]⟩,⟨[],[],[]⟩,⟨[],[],[]⟩,⟨[],[],[]⟩,⟨[],[],[]⟩,⟨[],[],[]⟩,⟨[],[],[]⟩,⟨[],[],[]⟩,⟨[],[],[]⟩,⟨[],[],[]⟩,⟨[],[],[]⟩],[133]):=rfl
theorem aiq:D8 14=none:=rfl
theorem alE  (A:NP):ak (jD (Z8) eV 159 81129638414606681695789007240959 D8 [(31,c31),(32,c32),(22,c22),(11,Zt),(15,c15),(13,c13),(14,c14)] [] A) hN (5) f8 []=some (.bool true):=by
 have z4:Z8 4=[35]:=rfl;have z8:Z8 8=[55]:=rfl;have z10:Z8 10=[67]:=rfl;have zz:∀ i,i ≠ 4→i ≠ 8→i ≠ 10→Z8 i=[]:=fun i a b c=>by simp[Z8,a,b,c]
 simp only[ak,ai,f8];simp only[go_sem,aiq,aip,aa9,PS,z4,z8,z10,zz,ne_eq,not_false_eq_true,St.lP,Qp,sw,Lf,CP,A_,A9,PJ,PK,S_,Ta,S9,S7,PM,PO,PR];try rfl
noncomputable def c8:=bk (α:=Unit) (fun _=>True) (fun _=>[]) (fun _=> .bool true)
theorem UY :c8 []=some (.bool true):=aJ (fun _ _ _ _ _=>rfl) () trivial
theorem alF:cI 8 c8:=aE h8 rfl rfl fun _ _=>rX h8 (fun A=>alE  A) (fun i=>match i with | 14=>[0,1,3,7,15,31,63,127,255,31,1023,2047,4095] | 15=>[0,1,3,3,15,31,63,127,127,383,895,2047,4095,8191,16383,32767,65535,131071,262143,524287,1048575,2097151,4194303,8388607,16777215,33554431,67108863,134217727,268435455,536870911,1073741823,1073741823,4294967295,8589934591,17179869183,34359738367] | _=>[]) rfl rfl rfl (by kernel_rfl) ⟨aio,UX,ag9,UL,UN,af9,ago,trivial⟩ trivial
structure air (c x:aL):Prop where
 xin:gO x.ops x.ints x.strs x.U
 strs:∀ s ∈ x.strs,s.size≤9223372036854775807
 ck:bx x=true
 len:x.ops.length≤c.ops.length
 kept:aii x c=true
 nm:∀ i,nmF x.ops i=true→nmF c.ops i=true
def aa_ (c:aL) (ls:List ct):Prop:=∀ s ∈ ls,∃ x,jt c.ops c.ints c.strs c.U s.rule s.at_=(some x,0)∧air c x
def Tb (c:aL) (r q:Int):Prop:=gO c.ops c.ints c.strs c.U→bx c=true→((jt c.ops c.ints c.strs c.U r q).2==0)=((eM c.ops c.ints c.strs c.U).any fun s=>s.rule==r&&s.at_==q)∧(eM c.ops c.ints c.strs c.U).length≤100000∧aa_ c (eM c.ops c.ints c.strs c.U)
theorem h5:Q 5=some f5:=by kernel_rfl
noncomputable def c5:=bk (α:=aL × Int × Int) (fun (c,r,q)=>(∀ o ∈ c.ops,bM o.n)∧(∀ n ∈ c.ints,bM n)∧(∀ s ∈ c.strs,s.size≤9223372036854775807)∧((LS c.U))∧Tb c r q) (fun (c,r,q)=>[(cd c.ops c.ints c.strs c.U),.st 29 [J r,J q]]) (fun (c,r,q)=> .bool true)
def SS (I:List ByteArray) (c:aL):Prop:=∀ s ∈ c.strs,s ∈ I
theorem Tc {N:List bp} {V:List Int} {I:List ByteArray} {U:List aP} {c:aL} (h:some (⟨N,V,I,U⟩:aL)=some c):SS I c:=by
 injection h with h;subst h;exact fun s hs=>hs
theorem Td {N:List bp} {V:List Int} {I:List ByteArray} {U:List aP} {ao:List (List aB)} {aj:List Bool} {au:List Int} {rule q:Int} {c:aL} (h:gW N V I U ao aj au rule q=some c):SS I c:=by
 revert h;unfold gW nB oh ir nD iq km kn kp g_ nC cf;dsimp only;repeat' refine cg ?_ ?_
 all_goals intro h
 all_goals first
  | (cases h;done)
  | exact Tc h
  | (injection h with h;subst h;exact fun s hs=>List.mem_of_mem_eraseIdx hs)
theorem aud {r:Int} (h:(sT r).isSome=true):1≤r∧r < 9:=by
 revert h;unfold sT;repeat' split
 all_goals rename_i h1;intro h
 all_goals first
  | (cases h;done)
  | (simp only[beq_iff_eq] at h1;omega)
theorem atp {N:List bp} {V:List Int} {I:List ByteArray} {U:List aP} {ao:List (List aB)} {aj:List Bool} {au:List Int} {rule q:Int} {c:aL} (h:eD N V I U ao aj au rule q=some c):(1≤rule∧rule < 9)∧0≤q∧q < bF N V I rule∧gW N V I U ao aj au rule q=some c:=by
 unfold eD at h;split at h
 ·rename_i hr;split at h
  ·cases h
  ·rename_i h1;split at h
   ·cases h
   ·rename_i h2;simp only[decide_eq_true_eq] at h1 h2;cases hs:gW N V I U ao aj au rule q with
    | none=>rw[hs] at h;cases h
    | some c'=>
      rw[hs,Option.bind_some] at h;split at h
      ·injection h with h;subst h
       exact⟨aud hr,by omega,by omega,rfl⟩
      ·cases h
 ·cases h
end Go.Proofs.Tryz
end
