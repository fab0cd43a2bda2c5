/- Part of the proof of one statement of this seat: an abstract machine for the program, its contracts, and the statement (no condition of our own). -/
import Derived.Test.YtbdbjpdlcemeaaaGreatDoorKp09
set_option linter.unusedSimpArgs false
set_option linter.unusedVariables false
section
set_option maxHeartbeats 4000000
set_option maxRecDepth 20000
namespace Go.Proofs.Tryz
open Go Go.Abs
def formsR:List AV:=[.str ⟨#[108,100,105]⟩,.str ⟨#[108,100,115]⟩,.str ⟨#[109,111,118]⟩,.str ⟨#[97,100,100]⟩,.str ⟨#[115,117,98]⟩,.str ⟨#[109,117,108]⟩,.str ⟨#[100,105,118]⟩,.str ⟨#[100,105,118,117]⟩,.str ⟨#[109,111,100]⟩,.str ⟨#[109,111,100,117]⟩,.str ⟨#[97,110,100]⟩,.str ⟨#[111,114]⟩,.str ⟨#[120,111,114]⟩,.str ⟨#[115,104,108]⟩,.str ⟨#[115,104,114]⟩,.str ⟨#[115,97,114]⟩,.str ⟨#[110,101,103]⟩,.str ⟨#[110,111,116]⟩,.str ⟨#[119,114,97,112]⟩,.str ⟨#[108,116]⟩,.str ⟨#[108,116,117]⟩,.str ⟨#[101,113]⟩,.str ⟨#[99,109,112]⟩,.str ⟨#[106,109,112]⟩,.str ⟨#[106,122]⟩,.str ⟨#[108,111,97,100]⟩,.str ⟨#[117,108,111,97,100]⟩,.str ⟨#[98,117,105]⟩,.str ⟨#[97,114,103]⟩,.str ⟨#[103,108,111]⟩,.str ⟨#[115,101,116,103,108,111]⟩,.str ⟨#[116,104,114]⟩,.str ⟨#[115,101,116,116,104,114]⟩,.str ⟨#[108,111,99]⟩,.str ⟨#[115,101,116,108,111,99]⟩,.str ⟨#[112,117,115,104]⟩,.str ⟨#[97,115,99]⟩,.str ⟨#[115,101,116,97,115,99]⟩,.str ⟨#[99,97,108,108]⟩,.str ⟨#[114,101,116]⟩]
theorem h73:Tryz.prog.funcs[73]? = some f73:=by kernel_rfl
theorem run73  (A:Nat→Prop):acall (env 2 1 D0 [] [] A) (fun _=>{ tm:=[],ob:=[] }) (5) f73 []=some (.sl 9 gT formsR):=by
 kernel_rfl
noncomputable def c73:=famP (α:=Unit) (fun _=>True) (fun _=>[]) (fun _=> .sl 9 gT formsR)
theorem c73_eq :c73 []=some (.sl 9 gT formsR):=fam_eq (fun _ _ _ _ _=>rfl) () trivial
theorem snd73:Snd 73 c73:=fam_snd h73 rfl rfl fun _ _=>rc h73 (fun A=>run73  A) (fun _=>[]) rfl rfl rfl (by kernel_rfl) trivial trivial
theorem wrapLits:IntKind.i64.wrap 0=0∧IntKind.i64.wrap 1=1∧IntKind.i64.wrap 2=2∧IntKind.i64.wrap 3=3∧IntKind.i64.wrap 4=4∧IntKind.i64.wrap 5=5∧IntKind.i64.wrap 6=6∧IntKind.i64.wrap 7=7∧IntKind.i64.wrap 8=8∧IntKind.i64.wrap 9=9∧IntKind.i64.wrap 10=10∧IntKind.i64.wrap 11=11∧IntKind.i64.wrap 12=12∧IntKind.i64.wrap 13=13∧IntKind.i64.wrap 14=14∧IntKind.i64.wrap 15=15∧IntKind.i64.wrap 16=16∧IntKind.i64.wrap 17=17∧IntKind.i64.wrap 18=18∧IntKind.i64.wrap 19=19∧IntKind.i64.wrap 20=20∧IntKind.i64.wrap 21=21∧IntKind.i64.wrap 22=22∧IntKind.i64.wrap 23=23∧IntKind.i64.wrap 24=24∧IntKind.i64.wrap 25=25∧IntKind.i64.wrap 26=26∧IntKind.i64.wrap 27=27∧IntKind.i64.wrap 28=28∧IntKind.i64.wrap 29=29∧IntKind.i64.wrap 30=30∧IntKind.i64.wrap 31=31∧IntKind.i64.wrap 32=32∧IntKind.i64.wrap 33=33∧IntKind.i64.wrap 34=34∧IntKind.i64.wrap 35=35∧IntKind.i64.wrap 36=36∧IntKind.i64.wrap 37=37∧IntKind.i64.wrap 38=38∧IntKind.i64.wrap 39=39:=⟨rfl,rfl,rfl,rfl,rfl,rfl,rfl,rfl,rfl,rfl,rfl,rfl,rfl,rfl,rfl,rfl,rfl,rfl,rfl,rfl,rfl,rfl,rfl,rfl,rfl,rfl,rfl,rfl,rfl,rfl,rfl,rfl,rfl,rfl,rfl,rfl,rfl,rfl,rfl,rfl⟩
def eFormR (f:XForm):AV:= .st 100 [.bool f.d,.bool f.a,.bool f.b,.bool f.n,.str f.name]
theorem h42:Tryz.prog.funcs[42]? = some f42:=by kernel_rfl
theorem run42 (op:Int) (A:Nat→Prop):acall (env 62 144749065121432077 D0 [(73,c73)] [] A) (fun _=>{ tm:=[],ob:=[] }) (5) f42 [.int .i64 op]=some (eFormR (formF op)):=by
 by_cases h0:op < 1∨40 < op
 ·have hf:formF op=⟨⟨#[]⟩,false,false,false,false⟩:=by
   unfold formF
   split
   ·rfl
   ·have:op=0:=by omega
    subst this;rfl
  rw[hf]
  have g1:(decide (op < 1) || decide (40 < op))=true:=by simpa using h0
  cases h1:decide (op < 1) <;> cases h2:decide (40 < op)
  ·rw[h1,h2] at g1;cases g1
  all_goals
   simp only[acall,macall,f42]
   simp only[go_sem,simprocAttr,c73_eq,h1,h2]
   try rfl
 ·obtain⟨k,rfl⟩:=Int.eq_ofNat_of_zero_le (show 0≤op by omega)
  have hk:k=0∨k=1∨k=2∨k=3∨k=4∨k=5∨k=6∨k=7∨k=8∨k=9∨k=10∨k=11∨k=12∨k=13∨k=14∨k=15∨k=16∨k=17∨k=18∨k=19∨k=20∨k=21∨k=22∨k=23∨k=24∨k=25∨k=26∨k=27∨k=28∨k=29∨k=30∨k=31∨k=32∨k=33∨k=34∨k=35∨k=36∨k=37∨k=38∨k=39∨k=40:=by omega
  rcases hk with rfl | rfl | rfl | rfl | rfl | rfl | rfl | rfl | rfl | rfl | rfl | rfl | rfl | rfl | rfl | rfl | rfl | rfl | rfl | rfl | rfl | rfl | rfl | rfl | rfl | rfl | rfl | rfl | rfl | rfl | rfl | rfl | rfl | rfl | rfl | rfl | rfl | rfl | rfl | rfl | rfl
  all_goals first
   | (exfalso;omega)
   | (simp only[acall,macall,f42]
      simp only[go_sem,simprocAttr,c73_eq,Int.cast_ofNat_Int,wrapLits,formsR]
      try rfl)
noncomputable def c42:=famP (α:=Int) (fun _=>True) (fun op=>[.int .i64 op]) (fun op=>eFormR (formF op))
theorem c42_eq (op:Int):c42 [.int .i64 op]=some (eFormR (formF op)):=fam_eq (fun op op' hp hp' h'=>by
 simp only[INJ] at h'
 obtain rfl:=h'
 rfl) (op) trivial
theorem snd42:Snd 42 c42:=fam_snd h42 rfl rfl fun op _=>rc h42 (fun A=>run42 op A) (fun _=>[]) rfl rfl rfl (by kernel_rfl) ⟨snd73,trivial⟩ trivial
theorem h39:Tryz.prog.funcs[39]? = some f39:=by kernel_rfl
theorem run39 (o d a b n:Int) (A:Nat→Prop):acall (env 10 143 D0 [(42,c42)] [] A) (fun _=>{ tm:=[],ob:=[] }) (5) f39 [.st 80 [.int .i64 o,.int .i64 d,.int .i64 a,.int .i64 b,.int .i64 n]]=some (.tup [.int .i64 (if (formF o).d=true then d else 0),.bool (formF o).d]):=by
 simp only[acall,macall,f39]
 simp only[go_sem,simprocAttr,c42_eq,eFormR]
 cases h:(formF o).d <;> simp only[go_sem,simprocAttr,c42_eq,h]
noncomputable def c39:=famP (α:=Int × Int × Int × Int × Int) (fun _=>True) (fun (o,d,a,b,n)=>[.st 80 [.int .i64 o,.int .i64 d,.int .i64 a,.int .i64 b,.int .i64 n]]) (fun (o,d,a,b,n)=> .tup [.int .i64 (if (formF o).d=true then d else 0),.bool (formF o).d])
theorem c39_eq (o d a b n:Int):c39 [.st 80 [.int .i64 o,.int .i64 d,.int .i64 a,.int .i64 b,.int .i64 n]]=some (.tup [.int .i64 (if (formF o).d=true then d else 0),.bool (formF o).d]):=fam_eq (fun X Y hp hp' h'=>by
 obtain⟨o,d,a,b,n⟩:=X;obtain⟨o',d',a',b',n'⟩:=Y;simp only[INJ] at h'
 obtain⟨rfl,rfl,rfl,rfl,rfl⟩:=h'
 rfl) (o,d,a,b,n) trivial
theorem snd39:Snd 39 c39:=fam_snd h39 rfl rfl fun (o,d,a,b,n) _=>rc h39 (fun A=>run39 o d a b n A) (fun _=>[]) rfl rfl rfl (by kernel_rfl) ⟨snd42,trivial⟩ trivial
theorem h40:Tryz.prog.funcs[40]? = some f40:=by kernel_rfl
theorem run40 (o d a b n:Int) :∃ r,wk r (.sl 3 gT ((usesF o a b).map eI))∧∀ A,acall (env 30 8389151 D0 [(42,c42)] [] A) (fun _=>{ tm:=[],ob:=[] }) (5) f40 [.st 80 [.int .i64 o,.int .i64 d,.int .i64 a,.int .i64 b,.int .i64 n]]=some r:=by
 cases h1:(formF o).a <;> cases h2:(formF o).b <;> cases h3:(b==a)
 all_goals
  apply wkI
  ·intro A
   simp only[acall,macall,f40]
   simp only[go_sem,simprocAttr,c42_eq,h1,h2,h3,eFormR]
   try rfl
  ·simp[WK,usesF,h1,h2,h3,eI]
noncomputable def c40:=famP (α:=Int × Int × Int × Int × Int) (fun _=>True) (fun (o,d,a,b,n)=>[.st 80 [.int .i64 o,.int .i64 d,.int .i64 a,.int .i64 b,.int .i64 n]]) (fun (o,d,a,b,n)=> .sl 3 gT ((usesF o a b).map eI))
theorem c40_eq (o d a b n:Int):c40 [.st 80 [.int .i64 o,.int .i64 d,.int .i64 a,.int .i64 b,.int .i64 n]]=some (.sl 3 gT ((usesF o a b).map eI)):=fam_eq (fun X Y hp hp' h'=>by
 obtain⟨o,d,a,b,n⟩:=X;obtain⟨o',d',a',b',n'⟩:=Y;simp only[INJ] at h'
 obtain⟨rfl,rfl,rfl,rfl,rfl⟩:=h'
 rfl) (o,d,a,b,n) trivial
theorem snd40:Snd 40 c40:=fam_snd h40 rfl rfl fun (o,d,a,b,n) _=>let ⟨_,hw,hr⟩:=run40 o d a b n;(rc h40 hr (fun _=>[]) rfl rfl rfl (by kernel_rfl) ⟨snd42,trivial⟩ trivial).weak hw
theorem regF_r (has:Bool) (n:Int):regF has n=((n==0) || (has&&(decide (0 < n)&&decide (n < 8)))):=by
 unfold regF
 cases has
 ·simp
 ·by_cases h:n=0
  ·subst h;decide
  ·have e:(n==0)=false:=by simp[h]
   have e1:decide (0≤n)=decide (0 < n):=decide_eq_decide.2 (by omega)
   have e2:decide (n≤7)=decide (n < 8):=decide_eq_decide.2 (by omega)
   simp[e,e1,e2]
theorem h43:Tryz.prog.funcs[43]? = some f43:=by kernel_rfl
theorem run43 (has:Bool) (n:Int) (A:Nat→Prop):acall (env 18 19 D0 [] [] A) (fun _=>{ tm:=[],ob:=[] }) (5) f43 [.bool has,.int .i64 n]=some (.bool (regF has n)):=by
 rw[regF_r]
 cases h1:(n==0)
 ·cases has
  ·simp only[acall,macall,f43]
   simp only[go_sem,simprocAttr,h1]
   try rfl
  ·cases h2:decide (0 < n)
   ·simp only[acall,macall,f43]
    simp only[go_sem,simprocAttr,h1,h2]
    try rfl
   ·cases h3:decide (n < 8)
    ·simp only[acall,macall,f43]
     simp only[go_sem,simprocAttr,h1,h2,h3]
     try rfl
    ·simp only[acall,macall,f43]
     simp only[go_sem,simprocAttr,h1,h2,h3]
     try rfl
 ·simp only[acall,macall,f43]
  simp only[go_sem,simprocAttr,h1]
  try rfl
noncomputable def c43:=famP (α:=Bool × Int) (fun _=>True) (fun (has,n)=>[.bool has,.int .i64 n]) (fun (has,n)=> .bool (regF has n))
theorem c43_eq (has:Bool) (n:Int):c43 [.bool has,.int .i64 n]=some (.bool (regF has n)):=fam_eq (fun X Y hp hp' h'=>by
 obtain⟨has,n⟩:=X;obtain⟨has',n'⟩:=Y;simp only[INJ] at h'
 obtain⟨rfl,rfl⟩:=h'
 rfl) (has,n) trivial
theorem snd43:Snd 43 c43:=fam_snd h43 rfl rfl fun (has,n) _=>rc h43 (fun A=>run43 has n A) (fun _=>[]) rfl rfl rfl (by kernel_rfl) trivial trivial
theorem intOf_none {n:Int} (h:n ≠ 8∧n ≠ 16∧n ≠ 32∧n ≠ 64∧n ≠ -8∧n ≠ -16∧n ≠ -32∧n ≠ -64):intOfF n=none:=by
 have e1:typeV 1 false=8:=rfl
 have e2:typeV 2 false=16:=rfl
 have e4:typeV 4 false=32:=rfl
 have e8:typeV 8 false=64:=rfl
 have d1:typeV 1 true = -8:=rfl
 have d2:typeV 2 true = -16:=rfl
 have d4:typeV 4 true = -32:=rfl
 have d8:typeV 8 true = -64:=rfl
 unfold intOfF
 dsimp only
 generalize decide (n < 0)=g
 cases g
 all_goals
  simp only[e1,e2,e4,e8,d1,d2,d4,d8,beq_iff_eq]
  rw[if_neg (by omega),if_neg (by omega),if_neg (by omega),if_neg (by omega)]
theorem divLits:IntKind.i64.wrap 1=1∧IntKind.i64.wrap 2=2∧IntKind.i64.wrap 4=4∧IntKind.i64.wrap 8=8∧IntKind.i64.wrap 16=16∧IntKind.i64.wrap 32=32∧IntKind.i64.wrap 64=64:=⟨rfl,rfl,rfl,rfl,rfl,rfl,rfl⟩
theorem h74:Tryz.prog.funcs[74]? = some f74:=by kernel_rfl
theorem run74 (n:Int) (A:Nat→Prop):acall (env 23 8253 D0 [] [] A) (fun _=>{ tm:=[],ob:=[] }) (5) f74 [.int .i64 n]=some (eIntOf (intOfF n)):=by
 by_cases g0:n=8
 ·subst g0
  rw[show intOfF (8)=some (1,false) from rfl]
  simp only[acall,macall,f74,eIntOf]
  simp only[go_sem,simprocAttr,divLits,Int.tdiv]
  try rfl
 by_cases g1:n=16
 ·subst g1
  rw[show intOfF (16)=some (2,false) from rfl]
  simp only[acall,macall,f74,eIntOf]
  simp only[go_sem,simprocAttr,divLits,Int.tdiv]
  try rfl
 by_cases g2:n=32
 ·subst g2
  rw[show intOfF (32)=some (4,false) from rfl]
  simp only[acall,macall,f74,eIntOf]
  simp only[go_sem,simprocAttr,divLits,Int.tdiv]
  try rfl
 by_cases g3:n=64
 ·subst g3
  rw[show intOfF (64)=some (8,false) from rfl]
  simp only[acall,macall,f74,eIntOf]
  simp only[go_sem,simprocAttr,divLits,Int.tdiv]
  try rfl
 by_cases g4:n = -8
 ·subst g4
  rw[show intOfF (-8)=some (1,true) from rfl]
  simp only[acall,macall,f74,eIntOf]
  simp only[go_sem,simprocAttr,divLits,Int.tdiv]
  try rfl
 by_cases g5:n = -16
 ·subst g5
  rw[show intOfF (-16)=some (2,true) from rfl]
  simp only[acall,macall,f74,eIntOf]
  simp only[go_sem,simprocAttr,divLits,Int.tdiv]
  try rfl
 by_cases g6:n = -32
 ·subst g6
  rw[show intOfF (-32)=some (4,true) from rfl]
  simp only[acall,macall,f74,eIntOf]
  simp only[go_sem,simprocAttr,divLits,Int.tdiv]
  try rfl
 by_cases g7:n = -64
 ·subst g7
  rw[show intOfF (-64)=some (8,true) from rfl]
  simp only[acall,macall,f74,eIntOf]
  simp only[go_sem,simprocAttr,divLits,Int.tdiv]
  try rfl
 rw[intOf_none ⟨g0,g1,g2,g3,g4,g5,g6,g7⟩]
 have h0:(n==8)=false:=by simpa using g0
 have h1:(n==16)=false:=by simpa using g1
 have h2:(n==32)=false:=by simpa using g2
 have h3:(n==64)=false:=by simpa using g3
 have h4:(n== -8)=false:=by simpa using g4
 have h5:(n== -16)=false:=by simpa using g5
 have h6:(n== -32)=false:=by simpa using g6
 have h7:(n== -64)=false:=by simpa using g7
 simp only[acall,macall,f74,eIntOf]
 simp only[go_sem,simprocAttr,h0,h1,h2,h3,h4,h5,h6,h7]
 try rfl
noncomputable def c74:=famP (α:=Int) (fun _=>True) (fun n=>[.int .i64 n]) (fun n=>eIntOf (intOfF n))
theorem c74_eq (n:Int):c74 [.int .i64 n]=some (eIntOf (intOfF n)):=fam_eq (fun n n' hp hp' h'=>by
 simp only[INJ] at h'
 obtain rfl:=h'
 rfl) (n) trivial
theorem snd74:Snd 74 c74:=fam_snd h74 rfl rfl fun n _=>rc h74 (fun A=>run74 n A) (fun _=>[]) rfl rfl rfl (by kernel_rfl) trivial trivial
end Go.Proofs.Tryz
end
