/- A part of a proof. -/
import Derived.Test.YtbdbjpdlcemeaaaGreatDoorRu09
set_option linter.unusedSimpArgs false
set_option linter.unusedVariables false
section
set_option maxHeartbeats 4000000
set_option maxRecDepth 20000
namespace Go.Proofs.Tryz
open Go Go.Abs
def B2:List AV:=[.str ⟨#[108,100,105]⟩,.str ⟨#[108,100,115]⟩,.str ⟨#[109,111,118]⟩,.str ⟨#[97,100,100]⟩,.str ⟨#[115,117,98]⟩,.str ⟨#[109,117,108]⟩,.str ⟨#[100,105,118]⟩,.str ⟨#[100,105,118,117]⟩,.str ⟨#[109,111,100]⟩,.str ⟨#[109,111,100,117]⟩,.str ⟨#[97,110,100]⟩,.str ⟨#[111,114]⟩,.str ⟨#[120,111,114]⟩,.str ⟨#[115,104,108]⟩,.str ⟨#[115,104,114]⟩,.str ⟨#[115,97,114]⟩,.str ⟨#[110,101,103]⟩,.str ⟨#[110,111,116]⟩,.str ⟨#[119,114,97,112]⟩,.str ⟨#[108,116]⟩,.str ⟨#[108,116,117]⟩,.str ⟨#[101,113]⟩,.str ⟨#[99,109,112]⟩,.str ⟨#[106,109,112]⟩,.str ⟨#[106,122]⟩,.str ⟨#[108,111,97,100]⟩,.str ⟨#[117,108,111,97,100]⟩,.str ⟨#[98,117,105]⟩,.str ⟨#[97,114,103]⟩,.str ⟨#[103,108,111]⟩,.str ⟨#[115,101,116,103,108,111]⟩,.str ⟨#[116,104,114]⟩,.str ⟨#[115,101,116,116,104,114]⟩,.str ⟨#[108,111,99]⟩,.str ⟨#[115,101,116,108,111,99]⟩,.str ⟨#[112,117,115,104]⟩,.str ⟨#[97,115,99]⟩,.str ⟨#[115,101,116,97,115,99]⟩,.str ⟨#[99,97,108,108]⟩,.str ⟨#[114,101,116]⟩]
theorem h73:Q 73=some f73:=by kernel_rfl
theorem afH  (A:NP):ak (env 2 1 D0 [] [] A) hN (5) f73 []=some (.sl 9 gT B2):=by
 kernel_rfl
noncomputable def c73:=bk (α:=Unit) (fun _=>True) (fun _=>[]) (fun _=> .sl 9 gT B2)
theorem Om :c73 []=some (.sl 9 gT B2):=aJ (fun _ _ _ _ _=>rfl) () trivial
theorem afI:cI 73 c73:=aE h73 rfl rfl fun _ _=>rc h73 (fun A=>afH  A) (fun _=>[]) rfl rfl rfl (by kernel_rfl) trivial trivial
theorem On:IntKind.i64.wrap 0=0∧IntKind.i64.wrap 1=1∧IntKind.i64.wrap 2=2∧IntKind.i64.wrap 3=3∧IntKind.i64.wrap 4=4∧IntKind.i64.wrap 5=5∧IntKind.i64.wrap 6=6∧IntKind.i64.wrap 7=7∧IntKind.i64.wrap 8=8∧IntKind.i64.wrap 9=9∧IntKind.i64.wrap 10=10∧IntKind.i64.wrap 11=11∧IntKind.i64.wrap 12=12∧IntKind.i64.wrap 13=13∧IntKind.i64.wrap 14=14∧IntKind.i64.wrap 15=15∧IntKind.i64.wrap 16=16∧IntKind.i64.wrap 17=17∧IntKind.i64.wrap 18=18∧IntKind.i64.wrap 19=19∧IntKind.i64.wrap 20=20∧IntKind.i64.wrap 21=21∧IntKind.i64.wrap 22=22∧IntKind.i64.wrap 23=23∧IntKind.i64.wrap 24=24∧IntKind.i64.wrap 25=25∧IntKind.i64.wrap 26=26∧IntKind.i64.wrap 27=27∧IntKind.i64.wrap 28=28∧IntKind.i64.wrap 29=29∧IntKind.i64.wrap 30=30∧IntKind.i64.wrap 31=31∧IntKind.i64.wrap 32=32∧IntKind.i64.wrap 33=33∧IntKind.i64.wrap 34=34∧IntKind.i64.wrap 35=35∧IntKind.i64.wrap 36=36∧IntKind.i64.wrap 37=37∧IntKind.i64.wrap 38=38∧IntKind.i64.wrap 39=39:=⟨rfl,rfl,rfl,rfl,rfl,rfl,rfl,rfl,rfl,rfl,rfl,rfl,rfl,rfl,rfl,rfl,rfl,rfl,rfl,rfl,rfl,rfl,rfl,rfl,rfl,rfl,rfl,rfl,rfl,rfl,rfl,rfl,rfl,rfl,rfl,rfl,rfl,rfl,rfl,rfl⟩
def bw (f:Ej):AV:= .st 100 [.bool f.d,.bool f.a,.bool f.b,.bool f.n,.str f.name]
theorem h42:Q 42=some f42:=by kernel_rfl
theorem afJ (op:Int) (A:NP):ak (env 62 144749065121432077 D0 [(73,c73)] [] A) hN (5) f42 [J op]=some (bw (a7 op)):=by
 by_cases h0:op < 1∨40 < op
 ·have hf:a7 op=⟨⟨#[]⟩,false,false,false,false⟩:=by
   unfold a7;split
   ·rfl
   ·have:op=0:=by omega
    subst this;rfl
  rw[hf];have g1:(decide (op < 1) || decide (40 < op))=true:=by simpa using h0
  cases h1:decide (op < 1) <;> cases h2:decide (40 < op)
  ·rw[h1,h2] at g1;cases g1
  all_goals
   simp only[ak,ai,f42];simp only[go_sem,Om,h1,h2];try rfl
 ·obtain⟨k,rfl⟩:=Int.eq_ofNat_of_zero_le (show 0≤op by omega);have hk:k=0∨k=1∨k=2∨k=3∨k=4∨k=5∨k=6∨k=7∨k=8∨k=9∨k=10∨k=11∨k=12∨k=13∨k=14∨k=15∨k=16∨k=17∨k=18∨k=19∨k=20∨k=21∨k=22∨k=23∨k=24∨k=25∨k=26∨k=27∨k=28∨k=29∨k=30∨k=31∨k=32∨k=33∨k=34∨k=35∨k=36∨k=37∨k=38∨k=39∨k=40:=by omega
  rcases hk with rfl|rfl|rfl|rfl|rfl|rfl|rfl|rfl|rfl|rfl|rfl|rfl|rfl|rfl|rfl|rfl|rfl|rfl|rfl|rfl|rfl|rfl|rfl|rfl|rfl|rfl|rfl|rfl|rfl|rfl|rfl|rfl|rfl|rfl|rfl|rfl|rfl|rfl|rfl|rfl|rfl
  all_goals first
   | (exfalso;omega)
   | (simp only[ak,ai,f42]
      simp only[go_sem,Om,Int.cast_ofNat_Int,On,B2];try rfl)
noncomputable def CG:=bk (α:=Int) (fun _=>True) (fun op=>[J op]) (fun op=>bw (a7 op))
theorem fV (op:Int):CG [J op]=some (bw (a7 op)):=aJ (fun op op' hp bZ h'=>by
 simp only[cJ] at h';obtain rfl:=h';rfl) (op) trivial
theorem uT:cI 42 CG:=aE h42 rfl rfl fun op _=>rc h42 (fun A=>afJ op A) (fun _=>[]) rfl rfl rfl (by kernel_rfl) ⟨afI,trivial⟩ trivial
theorem vl:Q 39=some f39:=by kernel_rfl
theorem afK (o d a b n:Int) (A:NP):ak (env 10 143 D0 [(42,CG)] [] A) hN (5) f39 [.st 80 [J o,J d,J a,J b,J n]]=some (.cE [J (if (a7 o).d=true then d else 0),.bool (a7 o).d]):=by
 simp only[ak,ai,f39];simp only[go_sem,fV,bw];cases h:(a7 o).d <;> simp only[go_sem,fV,h]
noncomputable def Sa:=bk (α:=Int × Int × Int × Int × Int) (fun _=>True) (fun (o,d,a,b,n)=>[.st 80 [J o,J d,J a,J b,J n]]) (fun (o,d,a,b,n)=> .cE [J (if (a7 o).d=true then d else 0),.bool (a7 o).d])
theorem Gu (o d a b n:Int):Sa [.st 80 [J o,J d,J a,J b,J n]]=some (.cE [J (if (a7 o).d=true then d else 0),.bool (a7 o).d]):=aJ (fun X Y hp bZ h'=>by
 obtain⟨o,d,a,b,n⟩:=X;obtain⟨o',d',a',b',n'⟩:=Y;simp only[cJ] at h';obtain⟨rfl,rfl,rfl,rfl,rfl⟩:=h';rfl) (o,d,a,b,n) trivial
theorem Uz:cI 39 Sa:=aE vl rfl rfl fun (o,d,a,b,n) _=>rc vl (fun A=>afK o d a b n A) (fun _=>[]) rfl rfl rfl (by kernel_rfl) ⟨uT,trivial⟩ trivial
theorem IT:Q 40=some f40:=by kernel_rfl
theorem afL (o d a b n:Int) :∃ r,wk r (.sl 3 gT ((dW o a b).map eI))∧∀ A,ak (env 30 8389151 D0 [(42,CG)] [] A) hN (5) f40 [.st 80 [J o,J d,J a,J b,J n]]=some r:=by
 cases h1:(a7 o).a <;> cases h2:(a7 o).b <;> cases h3:(b==a)
 all_goals
  apply bu
  ·intro A;simp only[ak,ai,f40];simp only[go_sem,fV,h1,h2,h3,bw];try rfl
  ·simp[WK,dW,h1,h2,h3,eI]
noncomputable def Ze:=bk (α:=Int × Int × Int × Int × Int) (fun _=>True) (fun (o,d,a,b,n)=>[.st 80 [J o,J d,J a,J b,J n]]) (fun (o,d,a,b,n)=> .sl 3 gT ((dW o a b).map eI))
theorem Zf (o d a b n:Int):Ze [.st 80 [J o,J d,J a,J b,J n]]=some (.sl 3 gT ((dW o a b).map eI)):=aJ (fun X Y hp bZ h'=>by
 obtain⟨o,d,a,b,n⟩:=X;obtain⟨o',d',a',b',n'⟩:=Y;simp only[cJ] at h';obtain⟨rfl,rfl,rfl,rfl,rfl⟩:=h';rfl) (o,d,a,b,n) trivial
theorem afM:cI 40 Ze:=aE IT rfl rfl fun (o,d,a,b,n) _=>let ⟨_,hw,hr⟩:=afL o d a b n;(rc IT hr (fun _=>[]) rfl rfl rfl (by kernel_rfl) ⟨uT,trivial⟩ trivial).eK hw
theorem Zg (has:Bool) (n:Int):mG has n=((n==0) || (has&&(decide (0 < n)&&decide (n < 8)))):=by
 unfold mG;cases has
 ·simp
 ·by_cases h:n=0
  ·subst h;decide
  ·have e:(n==0)=false:=by simp[h]
   have e1:decide (0≤n)=decide (0 < n):=decide_eq_decide.2 (by omega);have e2:decide (n≤7)=decide (n < 8):=decide_eq_decide.2 (by omega);simp[e,e1,e2]
theorem h43:Q 43=some f43:=by kernel_rfl
theorem afN (has:Bool) (n:Int) (A:NP):ak (env 18 19 D0 [] [] A) hN (5) f43 [.bool has,J n]=some (.bool (mG has n)):=by
 rw[Zg];cases h1:(n==0)
 ·cases has
  ·simp only[ak,ai,f43];simp only[go_sem,h1];try rfl
  ·cases h2:decide (0 < n)
   ·simp only[ak,ai,f43];simp only[go_sem,h1,h2];try rfl
   ·cases h3:decide (n < 8)
    ·simp only[ak,ai,f43];simp only[go_sem,h1,h2,h3];try rfl
    ·simp only[ak,ai,f43];simp only[go_sem,h1,h2,h3];try rfl
 ·simp only[ak,ai,f43];simp only[go_sem,h1];try rfl
noncomputable def c43:=bk (α:=Bool × Int) (fun _=>True) (fun (has,n)=>[.bool has,J n]) (fun (has,n)=> .bool (mG has n))
theorem yc (has:Bool) (n:Int):c43 [.bool has,J n]=some (.bool (mG has n)):=aJ (fun X Y hp bZ h'=>by
 obtain⟨has,n⟩:=X;obtain⟨akj,n'⟩:=Y;simp only[cJ] at h';obtain⟨rfl,rfl⟩:=h';rfl) (has,n) trivial
theorem afO:cI 43 c43:=aE h43 rfl rfl fun (has,n) _=>rc h43 (fun A=>afN has n A) (fun _=>[]) rfl rfl rfl (by kernel_rfl) trivial trivial
theorem Gv {n:Int} (h:n ≠ 8∧n ≠ 16∧n ≠ 32∧n ≠ 64∧n ≠ -8∧n ≠ -16∧n ≠ -32∧n ≠ -64):cn n=none:=by
 have e1:iQ 1 false=8:=rfl;have e2:iQ 2 false=16:=rfl;have e4:iQ 4 false=32:=rfl;have e8:iQ 8 false=64:=rfl;have d1:iQ 1 true = -8:=rfl;have d2:iQ 2 true = -16:=rfl;have d4:iQ 4 true = -32:=rfl;have d8:iQ 8 true = -64:=rfl;unfold cn;dsimp only;generalize decide (n < 0)=g;cases g;all_goals
  simp only[e1,e2,e4,e8,d1,d2,d4,d8,beq_iff_eq];rw[if_neg (by omega),if_neg (by omega),if_neg (by omega),if_neg (by omega)]
theorem lX:IntKind.i64.wrap 1=1∧IntKind.i64.wrap 2=2∧IntKind.i64.wrap 4=4∧IntKind.i64.wrap 8=8∧IntKind.i64.wrap 16=16∧IntKind.i64.wrap 32=32∧IntKind.i64.wrap 64=64:=⟨rfl,rfl,rfl,rfl,rfl,rfl,rfl⟩
theorem h74:Q 74=some f74:=by kernel_rfl
theorem afP (n:Int) (A:NP):ak (env 23 8253 D0 [] [] A) hN (5) f74 [J n]=some (bc (cn n)):=by
 by_cases g0:n=8
 ·subst g0;rw[show cn (8)=some (1,false) from rfl];simp only[ak,ai,f74,bc];simp only[go_sem,lX,Int.tdiv];try rfl
 by_cases g1:n=16
 ·subst g1;rw[show cn (16)=some (2,false) from rfl];simp only[ak,ai,f74,bc];simp only[go_sem,lX,Int.tdiv];try rfl
 by_cases g2:n=32
 ·subst g2;rw[show cn (32)=some (4,false) from rfl];simp only[ak,ai,f74,bc];simp only[go_sem,lX,Int.tdiv];try rfl
 by_cases g3:n=64
 ·subst g3;rw[show cn (64)=some (8,false) from rfl];simp only[ak,ai,f74,bc];simp only[go_sem,lX,Int.tdiv];try rfl
 by_cases g4:n = -8
 ·subst g4;rw[show cn (-8)=some (1,true) from rfl];simp only[ak,ai,f74,bc];simp only[go_sem,lX,Int.tdiv];try rfl
 by_cases g5:n = -16
 ·subst g5;rw[show cn (-16)=some (2,true) from rfl];simp only[ak,ai,f74,bc];simp only[go_sem,lX,Int.tdiv];try rfl
 by_cases g6:n = -32
 ·subst g6;rw[show cn (-32)=some (4,true) from rfl];simp only[ak,ai,f74,bc];simp only[go_sem,lX,Int.tdiv];try rfl
 by_cases g7:n = -64
 ·subst g7;rw[show cn (-64)=some (8,true) from rfl];simp only[ak,ai,f74,bc];simp only[go_sem,lX,Int.tdiv];try rfl
 rw[Gv ⟨g0,g1,g2,g3,g4,g5,g6,g7⟩];have h0:(n==8)=false:=by simpa using g0
 have h1:(n==16)=false:=by simpa using g1
 have h2:(n==32)=false:=by simpa using g2
 have h3:(n==64)=false:=by simpa using g3
 have h4:(n== -8)=false:=by simpa using g4
 have h5:(n== -16)=false:=by simpa using g5
 have h6:(n== -32)=false:=by simpa using g6
 have h7:(n== -64)=false:=by simpa using g7
 simp only[ak,ai,f74,bc];simp only[go_sem,h0,h1,h2,h3,h4,h5,h6,h7];try rfl
noncomputable def c74:=bk (α:=Int) (fun _=>True) (fun n=>[J n]) (fun n=>bc (cn n))
theorem cG (n:Int):c74 [J n]=some (bc (cn n)):=aJ (fun n n' hp bZ h'=>by
 simp only[cJ] at h';obtain rfl:=h';rfl) (n) trivial
theorem UA:cI 74 c74:=aE h74 rfl rfl fun n _=>rc h74 (fun A=>afP n A) (fun _=>[]) rfl rfl rfl (by kernel_rfl) trivial trivial
end Go.Proofs.Tryz
end
