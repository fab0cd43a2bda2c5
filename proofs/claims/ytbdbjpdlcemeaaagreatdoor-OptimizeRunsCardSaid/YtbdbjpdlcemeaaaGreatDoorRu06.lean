/- A part of a proof. -/
import Derived.Test.YtbdbjpdlcemeaaaGreatDoorRu05
set_option linter.unusedSimpArgs false
set_option linter.unusedVariables false
section
set_option maxHeartbeats 4000000
set_option maxRecDepth 20000
namespace Go.Proofs.Tryz
open Go Go.Abs
variable (N : List bp) (V : List Int) (I : List ByteArray) (U : List aP) (ao : List (List aB)) (aj : List Bool) (au : List Int)
theorem aeZ:Q 139=some f139:=by kernel_rfl
theorem YK (b:Bool) (A:NP):ak (env 4 13 D0 [] [] A) hN (5) f139 [.bool b]=some (J (if b=true then 1 else 0)):=by
 cases b;all_goals
  simp only[ak,ai,f139];simp only[go_sem];try rfl
noncomputable def YL:=bk (α:=Bool) (fun _=>True) (fun b=>[.bool b]) (fun b=>J (if b=true then 1 else 0))
theorem cV (b:Bool):YL [.bool b]=some (J (if b=true then 1 else 0)):=aJ (fun b b' hp bZ h'=>by
 simp only[cJ] at h';obtain rfl:=h';rfl) (b) trivial
theorem YM:cI 139 YL:=aE aeZ rfl rfl fun b _=>rc aeZ (fun A=>YK b A) (fun _=>[]) rfl rfl rfl (by kernel_rfl) trivial trivial
theorem uR {b:Int} (h:bM b) (hb:b ≠ 0):IntKind.u64.wrap b ≠ 0:=by
 have e:IntKind.u64.wrap b=b % 18446744073709551616:=by simp[IntKind.wrap,IntKind.bits,IntKind.signed]
 rw[e];unfold bM at h;omega
def rT (o a b:Int):Int:=
 if (o==8)=true then IntKind.i64.wrap (IntKind.u64.wrap ((IntKind.u64.wrap a).tdiv (IntKind.u64.wrap b))) else if (o==10)=true then IntKind.i64.wrap ((IntKind.u64.wrap a).tmod (IntKind.u64.wrap b))
 else if (o==7)=true then IntKind.i64.wrap (a.tdiv b) else a.tmod b
theorem ae0:Q 137=some f137:=by kernel_rfl
theorem YN (o a b:Int) (hp:bM b∧b ≠ 0) (A:NP):ak (env 32 16843207 D0 [] [] A) hN (5) f137 [J o,J a,J b]=some (J (rT o a b)):=by
 obtain⟨hr,hb⟩:=hp;have hu:=uR hr hb;cases h8:(o==8)
 rotate_left
 ·simp only[rT,h8,BL];simp only[ak,ai,f137];simp only[go_sem,h8,hb,hu];try rfl
 cases dR:(o==10)
 rotate_left
 ·simp only[rT,h8,dR,BL];simp only[ak,ai,f137];simp only[go_sem,h8,dR,hb,hu];try rfl
 cases h7:(o==7)
 rotate_left
 ·simp only[rT,h8,dR,h7,BL];simp only[ak,ai,f137];simp only[go_sem,h8,dR,h7,hb,hu];try rfl
 simp only[rT,h8,dR,h7,BL];simp only[ak,ai,f137];simp only[go_sem,h8,dR,h7,hb,hu];try rfl
noncomputable def YO:=bk (α:=Int × Int × Int) (fun (o,a,b)=>bM b∧b ≠ 0) (fun (o,a,b)=>[J o,J a,J b]) (fun (o,a,b)=>J (rT o a b))
theorem dA (o a b:Int) (hp:bM b∧b ≠ 0):YO [J o,J a,J b]=some (J (rT o a b)):=aJ (fun X Y hp bZ h'=>by
 obtain⟨o,a,b⟩:=X;obtain⟨o',a',b'⟩:=Y;simp only[cJ] at h';obtain⟨rfl,rfl,rfl⟩:=h';rfl) (o,a,b) hp
theorem YP:cI 137 YO:=aE ae0 rfl rfl fun (o,a,b) hp=>rc ae0 (fun A=>YN o a b hp A) (fun _=>[]) rfl rfl rfl (by kernel_rfl) trivial trivial
theorem ae1 (b:Int):¬ (bV .and .i64 b 63 < 0):=by
 have e:bV .and .i64 b 63=IntKind.i64.wrap ((BitVec.ofInt 64 b &&& BitVec.ofInt 64 63).toNat:Int):=rfl;have h:(BitVec.ofInt 64 b &&& BitVec.ofInt 64 63).toNat≤63:=by
  rw[BitVec.toNat_and];exact Nat.le_trans Nat.and_le_right (by decide)
 rw[e,wrap_i64 (by omega) (by omega)];omega
def eo (o a b:Int):Int × Int:=
 if (o==4)=true then (IntKind.i64.wrap (a+b),0) else if (o==5)=true then (IntKind.i64.wrap (a - b),0) else if (o==6)=true then (IntKind.i64.wrap (a * b),0)
 else if (o==7)=true then (if (b==0)=true then (0,12) else (rT o a b,0)) else if (o==8)=true then (if (b==0)=true then (0,12) else (rT o a b,0))
 else if (o==9)=true then (if (b==0)=true then (0,12) else (rT o a b,0)) else if (o==10)=true then (if (b==0)=true then (0,12) else (rT o a b,0))
 else if (o==11)=true then (bV .and .i64 a b,0) else if (o==12)=true then (bV .or .i64 a b,0) else if (o==13)=true then (bV .xor .i64 a b,0)
 else if (o==14)=true then (yL .i64 a (bV .and .i64 b 63),0) else if (o==15)=true then (IntKind.i64.wrap (su .u64 (IntKind.u64.wrap a) (bV .and .i64 b 63)),0) else if (o==16)=true then (su .i64 a (bV .and .i64 b 63),0)
 else if (o==17)=true then (IntKind.i64.wrap (-a),0) else if (o==18)=true then (bV .xor .i64 (-1) a,0)
 else if (o==19)=true then (match cn b with | none=>(0,10) | some (s,g)=>(if dx s g=true then iz s g a else 0,if dx s g=true then 0 else 10))
 else if (o==20)=true then (if (decide (a < b))=true then 1 else 0,0) else if (o==21)=true then (if (decide (IntKind.u64.wrap a < IntKind.u64.wrap b))=true then 1 else 0,0) else if (o==22)=true then (if (a==b)=true then 1 else 0,0)
 else (0,11)
theorem ae2:Q 114=some f114:=by kernel_rfl
theorem YQ (o a b:Int) (hp:bM b) (A:NP):ak (env 114 325806322073573473293080933240775 D0 [(137,YO),(109,R0),(138,Yl),(139,YL)] [] A) hN (5) f114 [J o,J a,J b]=some (.cE [J (eo o a b).1,J (eo o a b).2]):=by
 have so:=ae1 b;have ni:IntKind.i64.signed=true:=rfl;cases h4:(o==4)
 rotate_left
 ·simp only[eo,h4,BL];simp only[ak,ai,f114];simp only[go_sem,dA,bR,cU,cV,h4,so,ni];try rfl
 cases h5:(o==5)
 rotate_left
 ·simp only[eo,h4,h5,BL];simp only[ak,ai,f114];simp only[go_sem,dA,bR,cU,cV,h4,h5,so,ni];try rfl
 cases h6:(o==6)
 rotate_left
 ·simp only[eo,h4,h5,h6,BL];simp only[ak,ai,f114];simp only[go_sem,dA,bR,cU,cV,h4,h5,h6,so,ni];try rfl
 cases h7:(o==7)
 rotate_left
 ·simp only[eo,h4,h5,h6,h7,BL];simp only[ak,ai,f114];cases hb:(b==0)
  ·have Gl:=dA o a b ⟨hp,by simpa using hb⟩;simp only[BL];simp only[go_sem,Gl,hb,bR,cU,cV,h4,h5,h6,h7,so,ni];try rfl
  ·simp only[BL];simp only[go_sem,hb,bR,cU,cV,h4,h5,h6,h7,so,ni];try rfl
  try rfl
 cases h8:(o==8)
 rotate_left
 ·simp only[eo,h4,h5,h6,h7,h8,BL];simp only[ak,ai,f114];cases hb:(b==0)
  ·have Gl:=dA o a b ⟨hp,by simpa using hb⟩;simp only[BL];simp only[go_sem,Gl,hb,bR,cU,cV,h4,h5,h6,h7,h8,so,ni];try rfl
  ·simp only[BL];simp only[go_sem,hb,bR,cU,cV,h4,h5,h6,h7,h8,so,ni];try rfl
  try rfl
 cases h9:(o==9)
 rotate_left
 ·simp only[eo,h4,h5,h6,h7,h8,h9,BL];simp only[ak,ai,f114];cases hb:(b==0)
  ·have Gl:=dA o a b ⟨hp,by simpa using hb⟩;simp only[BL];simp only[go_sem,Gl,hb,bR,cU,cV,h4,h5,h6,h7,h8,h9,so,ni];try rfl
  ·simp only[BL];simp only[go_sem,hb,bR,cU,cV,h4,h5,h6,h7,h8,h9,so,ni];try rfl
  try rfl
 cases dR:(o==10)
 rotate_left
 ·simp only[eo,h4,h5,h6,h7,h8,h9,dR,BL];simp only[ak,ai,f114];cases hb:(b==0)
  ·have Gl:=dA o a b ⟨hp,by simpa using hb⟩;simp only[BL];simp only[go_sem,Gl,hb,bR,cU,cV,h4,h5,h6,h7,h8,h9,dR,so,ni];try rfl
  ·simp only[BL];simp only[go_sem,hb,bR,cU,cV,h4,h5,h6,h7,h8,h9,dR,so,ni];try rfl
  try rfl
 cases cT:(o==11)
 rotate_left
 ·simp only[eo,h4,h5,h6,h7,h8,h9,dR,cT,BL];simp only[ak,ai,f114];simp only[go_sem,dA,bR,cU,cV,h4,h5,h6,h7,h8,h9,dR,cT,so,ni];try rfl
 cases mX:(o==12)
 rotate_left
 ·simp only[eo,h4,h5,h6,h7,h8,h9,dR,cT,mX,BL];simp only[ak,ai,f114];simp only[go_sem,dA,bR,cU,cV,h4,h5,h6,h7,h8,h9,dR,cT,mX,so,ni];try rfl
 cases ij:(o==13)
 rotate_left
 ·simp only[eo,h4,h5,h6,h7,h8,h9,dR,cT,mX,ij,BL];simp only[ak,ai,f114];simp only[go_sem,dA,bR,cU,cV,h4,h5,h6,h7,h8,h9,dR,cT,mX,ij,so,ni];try rfl
 cases mf:(o==14)
 rotate_left
 ·simp only[eo,h4,h5,h6,h7,h8,h9,dR,cT,mX,ij,mf,BL];simp only[ak,ai,f114];simp only[go_sem,dA,bR,cU,cV,h4,h5,h6,h7,h8,h9,dR,cT,mX,ij,mf,so,ni];try rfl
 cases nj:(o==15)
 rotate_left
 ·simp only[eo,h4,h5,h6,h7,h8,h9,dR,cT,mX,ij,mf,nj,BL];simp only[ak,ai,f114];simp only[go_sem,dA,bR,cU,cV,h4,h5,h6,h7,h8,h9,dR,cT,mX,ij,mf,nj,so,ni];try rfl
 cases mg:(o==16)
 rotate_left
 ·simp only[eo,h4,h5,h6,h7,h8,h9,dR,cT,mX,ij,mf,nj,mg,BL];simp only[ak,ai,f114];simp only[go_sem,dA,bR,cU,cV,h4,h5,h6,h7,h8,h9,dR,cT,mX,ij,mf,nj,mg,so,ni];try rfl
 cases im:(o==17)
 rotate_left
 ·simp only[eo,h4,h5,h6,h7,h8,h9,dR,cT,mX,ij,mf,nj,mg,im,BL];simp only[ak,ai,f114];simp only[go_sem,dA,bR,cU,cV,h4,h5,h6,h7,h8,h9,dR,cT,mX,ij,mf,nj,mg,im,so,ni];try rfl
 cases kA:(o==18)
 rotate_left
 ·simp only[eo,h4,h5,h6,h7,h8,h9,dR,cT,mX,ij,mf,nj,mg,im,kA,BL];simp only[ak,ai,f114];simp only[go_sem,dA,bR,cU,cV,h4,h5,h6,h7,h8,h9,dR,cT,mX,ij,mf,nj,mg,im,kA,so,ni];try rfl
 cases bU:(o==19)
 rotate_left
 ·simp only[eo,h4,h5,h6,h7,h8,h9,dR,cT,mX,ij,mf,nj,mg,im,kA,bU,BL];simp only[ak,ai,f114];have mh:=bR b;cases hi:cn b with
  | none=>
    rw[hi] at mh;simp only[bc] at mh;simp only[go_sem,dA,mh,cU,cV,h4,h5,h6,h7,h8,h9,dR,cT,mX,ij,mf,nj,mg,im,kA,bU,so,ni];try rfl
  | some p=>
    obtain⟨p1,p2⟩:=p;rw[hi] at mh;simp only[bc] at mh;simp only[go_sem,dA,mh,cU,cV,h4,h5,h6,h7,h8,h9,dR,cT,mX,ij,mf,nj,mg,im,kA,bU,so,ni];try rfl
  try rfl
 cases nH:(o==20)
 rotate_left
 ·simp only[eo,h4,h5,h6,h7,h8,h9,dR,cT,mX,ij,mf,nj,mg,im,kA,bU,nH,BL];simp only[ak,ai,f114];simp only[go_sem,dA,bR,cU,cV,h4,h5,h6,h7,h8,h9,dR,cT,mX,ij,mf,nj,mg,im,kA,bU,nH,so,ni];try rfl
 cases rU:(o==21)
 rotate_left
 ·simp only[eo,h4,h5,h6,h7,h8,h9,dR,cT,mX,ij,mf,nj,mg,im,kA,bU,nH,rU,BL];simp only[ak,ai,f114];simp only[go_sem,dA,bR,cU,cV,h4,h5,h6,h7,h8,h9,dR,cT,mX,ij,mf,nj,mg,im,kA,bU,nH,rU,so,ni];try rfl
 cases vo:(o==22)
 rotate_left
 ·simp only[eo,h4,h5,h6,h7,h8,h9,dR,cT,mX,ij,mf,nj,mg,im,kA,bU,nH,rU,vo,BL];simp only[ak,ai,f114];simp only[go_sem,dA,bR,cU,cV,h4,h5,h6,h7,h8,h9,dR,cT,mX,ij,mf,nj,mg,im,kA,bU,nH,rU,vo,so,ni];try rfl
 simp only[eo,h4,h5,h6,h7,h8,h9,dR,cT,mX,ij,mf,nj,mg,im,kA,bU,nH,rU,vo,BL];simp only[ak,ai,f114];simp only[go_sem,dA,bR,cU,cV,h4,h5,h6,h7,h8,h9,dR,cT,mX,ij,mf,nj,mg,im,kA,bU,nH,rU,vo,so,ni];try rfl
noncomputable def YR:=bk (α:=Int × Int × Int) (fun (o,a,b)=>bM b) (fun (o,a,b)=>[J o,J a,J b]) (fun (o,a,b)=> .cE [J (eo o a b).1,J (eo o a b).2])
theorem oN (o a b:Int) (hp:bM b):YR [J o,J a,J b]=some (.cE [J (eo o a b).1,J (eo o a b).2]):=aJ (fun X Y hp bZ h'=>by
 obtain⟨o,a,b⟩:=X;obtain⟨o',a',b'⟩:=Y;simp only[cJ] at h';obtain⟨rfl,rfl,rfl⟩:=h';rfl) (o,a,b) hp
theorem YS:cI 114 YR:=aE ae2 rfl rfl fun (o,a,b) hp=>rc ae2 (fun A=>YQ o a b hp A) (fun _=>[]) rfl rfl rfl (by kernel_rfl) ⟨YP,N1,Ym,YM,trivial⟩ trivial
def oh (N:List bp) (V:List Int) (I:List ByteArray) (U:List aP) (q:Int) (o:bp) (a b:Int) (known:Bool):Option aL:=
 if known=true then (if ((eo o.op a b).2==0)=true then cQ N V I U q o.d (eo o.op a b).1 else none) else none
def nB (N:List bp) (V:List Int) (I:List ByteArray) (U:List aP) (ao:List (List aB)) (aj:List Bool) (q:Int):Option aL:=
 let o:=N.getD q.toNat bD
 if aj.getD q.toNat false=true then
  if (U.any fun r=>r.at_==q)=true then none
  else
   let a:=cP ao q o.a
   let b:=cP ao q o.b
   if (o.op==25)=true then (if (a.sort==1)=true then some ⟨N.set q.toNat ⟨24,0,0,0,if (!(a.n==0))=true then q+1 else o.n⟩,V,I,U⟩ else none)
   else if (o.op==19)=true then oh N V I U q o a.n o.n (a.sort==1)
   else if (o.op==17)=true then oh N V I U q o a.n 0 (a.sort==1) else if (o.op==18)=true then oh N V I U q o a.n 0 (a.sort==1)
   else if ((decide (4≤o.op)&&decide (o.op≤16)) || [20,21,22].any fun x=>o.op==x)=true then oh N V I U q o a.n b.n (a.sort==1&&b.sort==1) else none
 else none
theorem h89:Q 89=some f89:=by kernel_rfl
theorem ae3 (q:Int) (hp:XW N V I U ao aj au∧0≤q∧q.toNat < N.length) :∃ r,wk r (aS (nB N V I U ao aj q))∧∀ A,ak (env 129 664938516448553399581497564931850227 D0 [(86,c86),(47,c47),(113,JV),(114,YR),(112,Gf),(115,R5)] [] A) hN (5) f89 [(wv N V I U ao aj au),J q]=some r:=by
 obtain⟨hw,h0,aR⟩:=hp;have aO:q < (N.length:Int):=by omega
 have cB:=hw.rl;have aw:=aD (d:=bD) aR;have cO:=aD (d:=false) (show q.toNat < aj.length by omega);have mO:=Gb N V I U q hw.lim.2.2.2;have Gm:=hw.op _ aR;have hxn:bM (N.getD q.toNat bD).n:=hw.vE _ (gK aR);have eL:IntKind.i64.wrap (q+1)=q+1:=wrap_i64 (by have:=hw.lim.1;omega) (by have:=hw.lim.1;omega);simp only[nB];generalize N.getD q.toNat bD=x at *;obtain⟨⟨cv,ep⟩,⟨dJ,eu⟩,-⟩:=Gm;have hfa:=hw.fact aR ep;have Ux:=hw.fact aR eu;have ea:=BR N V I U ao aj au q x.a ⟨by have:=hw.bl;omega,h0,cv,by rw[hw.b8 _ aR];exact ep⟩;have eb:=BR N V I U ao aj au q x.b ⟨by have:=hw.bl;omega,h0,dJ,by rw[hw.b8 _ aR];exact eu⟩;have eF:=vD [20,21,22] x.op (by decide);simp only[List.map_cons,List.map_nil,eI] at eF;generalize cP ao q x.a=fa at *
 generalize cP ao q x.b=fb at *;generalize aj.getD q.toNat false=rg at *;generalize (U.any fun r=>r.at_==q)=rr at *;cases rg
 ·simp only[BL];apply bu
  ·intro A;simp only[ak,ai,f89];simp only[go_sem,aw,cO,h0,aO,mO,ea,eb,eF,cB];rfl
  ·simp[WK,aS,ax]
 cases rr;rotate_left
 ·simp only[BL];apply bu
  ·intro A;simp only[ak,ai,f89];simp only[go_sem,aw,cO,h0,aO,mO,ea,eb,eF,cB];rfl
  ·simp[WK,aS,ax]
 simp only[BL];cases dU:(x.op==25)
 rotate_left
 ·cases hk:(fa.sort==1)
  ·simp only[BL];apply bu
   ·intro A;simp only[ak,ai,f89];simp only[go_sem,dU,hk,aw,cO,h0,aO,mO,ea,eb,eF,cB];rfl
   ·simp[WK,aS,ax]
  ·cases hz:(fa.n==0)
   all_goals
    simp only[BL];have bN:=fun n=>oL N V I U ao aj au q 24 0 0 0 n ⟨hw.lim,h0,aR⟩
    apply bu
    ·intro A;simp only[ak,ai,f89];simp only[go_sem,dU,hk,hz,bN,eL,aw,cO,h0,aO,mO,ea,eb,eF,cB];rfl
    ·simp[WK,aS,ax]
 simp only[BL];have bN:=trivial;simp only[oh];cases bU:(x.op==19)
 rotate_left
 ·simp only[BL];cases hk:(fa.sort==1)
  ·simp only[BL];apply bu
   ·intro A;simp only[ak,ai,f89];simp only[go_sem,dU,bU,hk,aw,cO,h0,aO,mO,ea,eb,eF,cB];rfl
   ·simp[WK,aS,ax]
  ·simp only[BL];have oj:=oN x.op fa.n x.n hxn;have j8:=nh N V I U ao aj au q x.d (eo x.op fa.n x.n).1 ⟨hw.lim,⟨h0,aR⟩,hw.i200,hw.rel⟩;generalize eo x.op fa.n x.n=al at *;generalize cQ N V I U q x.d al.1=pu at *;cases hz:(al.2==0)
   ·simp only[BL];apply bu
    ·intro A;simp only[ak,ai,f89];simp only[go_sem,dU,bU,hk,hz,oj,aw,cO,h0,aO,mO,ea,eb,eF,cB];rfl
    ·simp[WK,aS,ax]
   ·simp only[BL];cases pu;all_goals
     simp only[aS,ax] at j8;apply bu
     ·intro A;simp only[ak,ai,f89];simp only[go_sem,dU,bU,hk,hz,oj,j8,aw,cO,h0,aO,mO,ea,eb,eF,cB];rfl
     ·simp[WK,aS,ax]
 simp only[BL];cases im:(x.op==17)
 rotate_left
 ·simp only[BL];cases hk:(fa.sort==1)
  ·simp only[BL];apply bu
   ·intro A;simp only[ak,ai,f89];simp only[go_sem,dU,bU,im,hk,aw,cO,h0,aO,mO,ea,eb,eF,cB];rfl
   ·simp[WK,aS,ax]
  ·simp only[BL];have oj:=oN x.op fa.n 0 (by unfold bM;omega);have j8:=nh N V I U ao aj au q x.d (eo x.op fa.n 0).1 ⟨hw.lim,⟨h0,aR⟩,hw.i200,hw.rel⟩;generalize eo x.op fa.n 0=al at *;generalize cQ N V I U q x.d al.1=pu at *;cases hz:(al.2==0)
   ·simp only[BL];apply bu
    ·intro A;simp only[ak,ai,f89];simp only[go_sem,dU,bU,im,hk,hz,oj,aw,cO,h0,aO,mO,ea,eb,eF,cB];rfl
    ·simp[WK,aS,ax]
   ·simp only[BL];cases pu;all_goals
     simp only[aS,ax] at j8;apply bu
     ·intro A;simp only[ak,ai,f89];simp only[go_sem,dU,bU,im,hk,hz,oj,j8,aw,cO,h0,aO,mO,ea,eb,eF,cB];rfl
     ·simp[WK,aS,ax]
 simp only[BL];cases kA:(x.op==18)
 rotate_left
 ·simp only[BL];cases hk:(fa.sort==1)
  ·simp only[BL];apply bu
   ·intro A;simp only[ak,ai,f89];simp only[go_sem,dU,bU,im,kA,hk,aw,cO,h0,aO,mO,ea,eb,eF,cB];rfl
   ·simp[WK,aS,ax]
  ·simp only[BL];have oj:=oN x.op fa.n 0 (by unfold bM;omega);have j8:=nh N V I U ao aj au q x.d (eo x.op fa.n 0).1 ⟨hw.lim,⟨h0,aR⟩,hw.i200,hw.rel⟩;generalize eo x.op fa.n 0=al at *;generalize cQ N V I U q x.d al.1=pu at *;cases hz:(al.2==0)
   ·simp only[BL];apply bu
    ·intro A;simp only[ak,ai,f89];simp only[go_sem,dU,bU,im,kA,hk,hz,oj,aw,cO,h0,aO,mO,ea,eb,eF,cB];rfl
    ·simp[WK,aS,ax]
   ·simp only[BL];cases pu;all_goals
     simp only[aS,ax] at j8;apply bu
     ·intro A;simp only[ak,ai,f89];simp only[go_sem,dU,bU,im,kA,hk,hz,oj,j8,aw,cO,h0,aO,mO,ea,eb,eF,cB];rfl
     ·simp[WK,aS,ax]
 simp only[BL];cases IS:(decide (4≤x.op))
 ·simp only[BL];cases hr3:([20,21,22].any fun y=>x.op==y)
  ·rw[hr3] at eF;simp only[BL];apply bu
   ·intro A;simp only[ak,ai,f89];simp only[go_sem,dU,bU,im,kA,IS,aw,cO,h0,aO,mO,ea,eb,eF,cB];rfl
   ·simp[WK,aS,ax]
  ·rw[hr3] at eF;simp only[BL];cases gV:(fa.sort==1)
   ·simp only[BL];apply bu
    ·intro A;simp only[ak,ai,f89];simp only[go_sem,dU,bU,im,kA,IS,gV,aw,cO,h0,aO,mO,ea,eb,eF,cB];rfl
    ·simp[WK,aS,ax]
   ·simp only[BL];cases hk:(fb.sort==1)
    ·simp only[BL];apply bu
     ·intro A;simp only[ak,ai,f89];simp only[go_sem,dU,bU,im,kA,IS,gV,hk,aw,cO,h0,aO,mO,ea,eb,eF,cB];rfl
     ·simp[WK,aS,ax]
    ·simp only[BL];have oj:=oN x.op fa.n fb.n Ux;have j8:=nh N V I U ao aj au q x.d (eo x.op fa.n fb.n).1 ⟨hw.lim,⟨h0,aR⟩,hw.i200,hw.rel⟩;generalize eo x.op fa.n fb.n=al at *;generalize cQ N V I U q x.d al.1=pu at *;cases hz:(al.2==0)
     ·simp only[BL];apply bu
      ·intro A;simp only[ak,ai,f89];simp only[go_sem,dU,bU,im,kA,IS,gV,hk,hz,oj,aw,cO,h0,aO,mO,ea,eb,eF,cB];rfl
      ·simp[WK,aS,ax]
     ·simp only[BL];cases pu;all_goals
       simp only[aS,ax] at j8;apply bu
       ·intro A;simp only[ak,ai,f89];simp only[go_sem,dU,bU,im,kA,IS,gV,hk,hz,oj,j8,aw,cO,h0,aO,mO,ea,eb,eF,cB];rfl
       ·simp[WK,aS,ax]
 ·cases BW:(decide (x.op≤16))
  ·simp only[BL];cases hr3:([20,21,22].any fun y=>x.op==y)
   ·rw[hr3] at eF;simp only[BL];apply bu
    ·intro A;simp only[ak,ai,f89];simp only[go_sem,dU,bU,im,kA,IS,BW,aw,cO,h0,aO,mO,ea,eb,eF,cB];rfl
    ·simp[WK,aS,ax]
   ·rw[hr3] at eF;simp only[BL];cases gV:(fa.sort==1)
    ·simp only[BL];apply bu
     ·intro A;simp only[ak,ai,f89];simp only[go_sem,dU,bU,im,kA,IS,BW,gV,aw,cO,h0,aO,mO,ea,eb,eF,cB];rfl
     ·simp[WK,aS,ax]
    ·simp only[BL];cases hk:(fb.sort==1)
     ·simp only[BL];apply bu
      ·intro A;simp only[ak,ai,f89];simp only[go_sem,dU,bU,im,kA,IS,BW,gV,hk,aw,cO,h0,aO,mO,ea,eb,eF,cB];rfl
      ·simp[WK,aS,ax]
     ·simp only[BL];have oj:=oN x.op fa.n fb.n Ux;have j8:=nh N V I U ao aj au q x.d (eo x.op fa.n fb.n).1 ⟨hw.lim,⟨h0,aR⟩,hw.i200,hw.rel⟩;generalize eo x.op fa.n fb.n=al at *;generalize cQ N V I U q x.d al.1=pu at *;cases hz:(al.2==0)
      ·simp only[BL];apply bu
       ·intro A;simp only[ak,ai,f89];simp only[go_sem,dU,bU,im,kA,IS,BW,gV,hk,hz,oj,aw,cO,h0,aO,mO,ea,eb,eF,cB];rfl
       ·simp[WK,aS,ax]
      ·simp only[BL];cases pu;all_goals
        simp only[aS,ax] at j8;apply bu
        ·intro A;simp only[ak,ai,f89];simp only[go_sem,dU,bU,im,kA,IS,BW,gV,hk,hz,oj,j8,aw,cO,h0,aO,mO,ea,eb,eF,cB];rfl
        ·simp[WK,aS,ax]
  ·simp only[BL];cases gV:(fa.sort==1)
   ·simp only[BL];apply bu
    ·intro A;simp only[ak,ai,f89];simp only[go_sem,dU,bU,im,kA,IS,BW,gV,aw,cO,h0,aO,mO,ea,eb,eF,cB];rfl
    ·simp[WK,aS,ax]
   ·simp only[BL];cases hk:(fb.sort==1)
    ·simp only[BL];apply bu
     ·intro A;simp only[ak,ai,f89];simp only[go_sem,dU,bU,im,kA,IS,BW,gV,hk,aw,cO,h0,aO,mO,ea,eb,eF,cB];rfl
     ·simp[WK,aS,ax]
    ·simp only[BL];have oj:=oN x.op fa.n fb.n Ux;have j8:=nh N V I U ao aj au q x.d (eo x.op fa.n fb.n).1 ⟨hw.lim,⟨h0,aR⟩,hw.i200,hw.rel⟩;generalize eo x.op fa.n fb.n=al at *;generalize cQ N V I U q x.d al.1=pu at *;cases hz:(al.2==0)
     ·simp only[BL];apply bu
      ·intro A;simp only[ak,ai,f89];simp only[go_sem,dU,bU,im,kA,IS,BW,gV,hk,hz,oj,aw,cO,h0,aO,mO,ea,eb,eF,cB];rfl
      ·simp[WK,aS,ax]
     ·simp only[BL];cases pu;all_goals
       simp only[aS,ax] at j8;apply bu
       ·intro A;simp only[ak,ai,f89];simp only[go_sem,dU,bU,im,kA,IS,BW,gV,hk,hz,oj,j8,aw,cO,h0,aO,mO,ea,eb,eF,cB];rfl
       ·simp[WK,aS,ax]
noncomputable def c89:=bk (α:=(List bp) × (List Int) × (List ByteArray) × (List aP) × (List (List aB)) × (List Bool) × (List Int) × Int) (fun (N,V,I,U,ao,aj,au,q)=>XW N V I U ao aj au∧0≤q∧q.toNat < N.length) (fun (N,V,I,U,ao,aj,au,q)=>[(wv N V I U ao aj au),J q]) (fun (N,V,I,U,ao,aj,au,q)=>aS (nB N V I U ao aj q))
theorem YT (q:Int) (hp:XW N V I U ao aj au∧0≤q∧q.toNat < N.length):c89 [(wv N V I U ao aj au),J q]=some (aS (nB N V I U ao aj q)):=aJ (fun X Y hp bZ h'=>by
 obtain⟨N,V,I,U,ao,aj,au,q⟩:=X;obtain⟨c7,bJ,bL,bK,gm,eW,jj,q'⟩:=Y;simp only[cJ] at h';obtain⟨rfl,rfl,rfl,rfl,rfl,rfl,rfl,rfl⟩:=h';rfl) (N,V,I,U,ao,aj,au,q) hp
theorem ae5:cI 89 c89:=aE h89 rfl rfl fun (N,V,I,U,ao,aj,au,q) hp=>let ⟨_,hw,hr⟩:=ae3 N V I U ao aj au q hp;(rc h89 hr (fun _=>[]) rfl rfl rfl (by kernel_rfl) ⟨Uo,Up,BQ,YS,x9,Ob,trivial⟩ trivial).eK hw
theorem iS (p:Nat→Bool):∀ (n s m:Nat),(∀ j,s≤j→j < s+n→p j=false)→n≤m→bS p s m=bS p (s+n) (m - n)
 | 0,s,m,_,_=>rfl
 | n+1,s,m,h,hm=>by
   obtain⟨m',rfl⟩:∃ m',m=m'+1:=⟨m - 1,by omega⟩
   rw[bS,if_neg (by rw[h s (Nat.le_refl _) (by omega)];simp),iS p n (s+1) m' (fun j h1 h2=>h j (by omega) (by omega)) (by omega)];rw[show s+1+n=s+(n+1) by omega,show m'+1 - (n+1)=m' - n by omega]
theorem uS {p:Nat→Bool} {s m:Nat} (h:p s=true) (hm:0 < m):bS p s m=s:=by
 obtain⟨m',rfl⟩:∃ m',m=m'+1:=⟨m - 1,by omega⟩
 rw[bS,if_pos h]
theorem jF {α:Type} (p:α→Bool):∀ (l:List α) (i:Nat),(bf p l i = -1∧∀ (j:Nat) (x:α),l[j]? = some x→p x=false)∨
 ∃ k,k < l.length∧bf p l i=((i+k:Nat):Int)∧(∀ (j:Nat) (x:α),j < k→l[j]? = some x→p x=false)∧∃ x,l[k]? = some x∧p x=true
 | [],i=> .inl ⟨rfl,by simp⟩
 | y::r,i=>by
   unfold bf;cases hy:p y
   ·simp only[BL];rcases jF p r (i+1) with ⟨h1,h2⟩|⟨k,h1,h2,h3,h4⟩
    ·refine .inl ⟨h1,fun j x hx=>?_⟩;cases j with
     | zero=>simp at hx;subst hx;exact hy
     | succ j=>exact h2 j x (by simpa using hx)
    ·refine .inr ⟨k+1,by simp;omega,by rw[h2];congr 1;omega,fun j x hj hx=>?_,by simpa using h4⟩;cases j with
     | zero=>simp at hx;subst hx;exact hy
     | succ j=>exact h3 j x (by omega) (by simpa using hx)
   ·simp only[BL];exact .inr ⟨0,by simp,by simp,fun j x hj=>by omega,y,by simp,hy⟩
def oZ (N:List bp) (V:List Int) (U:List aP) (v:Int) (k:Nat):Bool:=V.getD k 0==v&& !(U.any (fixF N k))
def iT (p:Nat→Bool) (i:Nat) (s:Int):Int:=if s = -1 then -1 else if bS p s.toNat (i - s.toNat) < i then (bS p s.toNat (i - s.toNat):Int) else -1
theorem BX {V:List Int} {i s j:Nat} (hi:i≤V.length):((V.take i).drop (s+1))[j]? = if s+1+j < i then some (V.getD (s+1+j) 0) else none:=by
 rw[List.getElem?_drop,List.getElem?_take];split
 ·rename_i h;rw[aD (d:=0) (by omega)]
 ·rfl
theorem JZ {N:List bp} {V:List Int} {U:List aP} {v:Int} {i s:Nat} (hi:i≤V.length) (hs:s < i) (hf:U.any (fixF N s)=true) (h:bf (fun x=>v==x) ((V.take i).drop (s+1)) 0 = -1) :
 bS (oZ N V U v) s (i - s)=i:=by
 rcases jF (fun x=>v==x) ((V.take i).drop (s+1)) 0 with ⟨_,h2⟩|⟨k,_,h2,_⟩
 ·rw[iS _ (i - s) s (i - s) (fun j h3 h4=>?_) (Nat.le_refl _)]
  ·rw[Nat.sub_self,bS];omega
  ·by_cases hj:j=s
   ·subst hj;simp[oZ,hf]
   ·have:=h2 (j - (s+1)) (V.getD j 0) (by rw[BX hi,if_pos (by omega),show s+1+(j - (s+1))=j by omega]);simp only[beq_eq_false_iff_ne,ne_eq] at this;simp only[oZ,Bool.and_eq_false_iff,beq_eq_false_iff_ne,ne_eq];exact .inl fun e=>this e.symm
 ·rw[h2] at h;omega
theorem J0 {N:List bp} {V:List Int} {U:List aP} {v:Int} {i s:Nat} (hi:i≤V.length) (hs:s < i) (hf:U.any (fixF N s)=true) (h:bf (fun x=>v==x) ((V.take i).drop (s+1)) 0 ≠ -1) :
 ∃ k:Nat,bf (fun x=>v==x) ((V.take i).drop (s+1)) 0=(k:Int)∧s+1+k < i∧V.getD (s+1+k) 0=v∧bS (oZ N V U v) s (i - s)=bS (oZ N V U v) (s+1+k) (i - (s+1+k)):=by
 rcases jF (fun x=>v==x) ((V.take i).drop (s+1)) 0 with ⟨h2,_⟩|⟨k,h1,h2,h3,x,h4,h5⟩
 ·exact absurd h2 h
 ·rw[BX hi] at h4;split at h4
  ·rename_i hk;injection h4 with h4
   refine⟨k,by rw[h2];simp,hk,by simp at h5;rw[h4,h5],?_⟩;rw[iS _ (1+k) s (i - s) (fun j h6 h7=>?_) (by omega)]
   ·congr 1 <;> omega
   ·by_cases hj:j=s
    ·subst hj;simp[oZ,hf]
    ·have:=h3 (j - (s+1)) (V.getD j 0) (by omega) (by rw[BX hi,if_pos (by omega),show s+1+(j - (s+1))=j by omega]);simp only[beq_eq_false_iff_ne,ne_eq] at this;simp only[oZ,Bool.and_eq_false_iff,beq_eq_false_iff_ne,ne_eq];exact .inl fun e=>this e.symm
  ·cases h4
theorem Gn {N:List bp} {V:List Int} {U:List aP} {v:Int} {i:Nat} (hi:i≤V.length) :
 iT (oZ N V U v) i (bf (fun x=>x==v) (V.take i) 0)=iT (oZ N V U v) i 0∧(bf (fun x=>x==v) (V.take i) 0 = -1∨∃ s:Nat,bf (fun x=>x==v) (V.take i) 0=s∧s < i∧V.getD s 0=v):=by
 have hz:iT (oZ N V U v) i 0=if bS (oZ N V U v) 0 i < i then (bS (oZ N V U v) 0 i:Int) else -1:=by
  unfold iT;rw[if_neg (by omega)];rfl
 have aw:∀ j,j < i→(V.take i)[j]? = some (V.getD j 0):=fun j hj=>by
  rw[List.getElem?_take,if_pos hj,aD (d:=0) (by omega)]
 rcases jF (fun x=>x==v) (V.take i) 0 with ⟨h1,h2⟩|⟨k,h1,h2,h3,x,h4,h5⟩
 ·refine⟨?_,.inl h1⟩;rw[h1,hz];have:bS (oZ N V U v) 0 i=i:=by
   rw[iS _ i 0 i (fun j _ h4=>?_) (Nat.le_refl _)]
   ·rw[Nat.sub_self,bS];omega
   ·have:=h2 j _ (aw j (by omega));simp only[oZ,Bool.and_eq_false_iff];exact .inl this
  rw[this,if_neg (by omega)];rfl
 ·have hk:k < i:=by rw[List.length_take] at h1;omega
  rw[aw k hk] at h4;injection h4 with h4
  refine⟨?_,.inr ⟨k,by rw[h2];simp,hk,by simp at h5;rw[h4,h5]⟩⟩;rw[h2,hz];unfold iT;rw[if_neg (by omega)];have:bS (oZ N V U v) 0 i=bS (oZ N V U v) k (i - k):=by
   rw[iS _ k 0 i (fun j _ h6=>?_) (by omega)]
   ·congr 1;omega
   ·have:=h3 j _ (by omega) (aw j (by omega));simp only[oZ,Bool.and_eq_false_iff];exact .inl this
  rw[this];simp
def fg (op i same:Int) (o:bp):bp:=if (o.op==op)=true then (if (o.n==i)=true then ⟨o.op,o.d,o.a,o.b,same⟩ else if (decide (i < o.n))=true then ⟨o.op,o.d,o.a,o.b,o.n - 1⟩ else o) else o
def AK (N:List bp) (V:List Int) (U:List aP) (q:Int):Int:=if (U.any (fixF N q))=true then -1 else iT (oZ N V U (V.getD q.toNat 0)) q.toNat 0
def AL (I:List ByteArray) (i:Int):Int:=bf (fun x=>(I.getD i.toNat ⟨#[]⟩).toList==x.toList) (I.take i.toNat) 0
def nC (N:List bp) (V:List Int) (I:List ByteArray) (U:List aP) (q:Int):Option aL:=
 if (decide (q < (V.length:Int)))=true then
  (if ((N.any fun o=>o.op==1&&o.n==q)&&decide (AK N V U q < 0))=true then none else some ⟨N.map (fg 1 q (AK N V U q)),V.eraseIdx q.toNat,I,U⟩)
 else
  (if ((N.any fun o=>o.op==2&&o.n==q - V.length)&&decide (AL I (q - V.length) < 0))=true then none else some ⟨N.map (fg 2 (q - V.length) (AL I (q - V.length))),V,I.eraseIdx (q - V.length).toNat,U⟩)
theorem h96:Q 96=some f96:=by kernel_rfl
def D96:Nat→Option (List DH × List Nat):=fun i=>match i with | 12=>some ([⟨[7],[],[]⟩,⟨[7],[],[]⟩,⟨[7],[],[]⟩,⟨[7],[],[]⟩,⟨[7],[],[]⟩,⟨[],[7],[]⟩,⟨[],[],[]⟩],[]) | _=>none
theorem dn:D96 12=some ([⟨[7],[],[]⟩,⟨[7],[],[]⟩,⟨[7],[],[]⟩,⟨[7],[],[]⟩,⟨[7],[],[]⟩,⟨[],[7],[]⟩,⟨[],[],[]⟩],[]):=rfl
theorem fk:D96 6=none:=rfl
theorem dp:D96 13=none:=rfl
def J1:Nat→Hint:=fun i=>if i=5 then ({ tm:=[4,5,6,7,8,9],ob:=[4,6,7,8,3018000,3018001,3018002,3018003],fin:=some ([4,5,6,7,8,9],[4,6,7,8,3018000,3018001,3018002,3018003]) }:Hint) else if i=18 then ({ tm:=[4,5,6,7,8,9,85,86,87],ob:=[4,6,7,8,3018000,3018001,3018002,3018003],fin:=some ([4,5,6,7,8,9],[4,6,7,8,3018000,3018001,3018002,3018003]) }:Hint) else { tm:=[],ob:=[] }
theorem fG:J1 5=({ tm:=[4,5,6,7,8,9],ob:=[4,6,7,8,3018000,3018001,3018002,3018003],fin:=some ([4,5,6,7,8,9],[4,6,7,8,3018000,3018001,3018002,3018003]) }:Hint):=by simp[J1]
theorem dy:J1 18=({ tm:=[4,5,6,7,8,9,85,86,87],ob:=[4,6,7,8,3018000,3018001,3018002,3018003],fin:=some ([4,5,6,7,8,9],[4,6,7,8,3018000,3018001,3018002,3018003]) }:Hint):=by simp[J1]
theorem om (q:Int) (h0:0≤q) (vp:q.toNat < V.length) (qk:V.length≤100000) (cB:U.length≤100000) (hr:∀ r ∈ U,0≤r.at_∧r.at_.toNat < N.length) (A:NP) (k:Nat):∀ (m:Nat) (s:Int) (σ:St),(s = -1∨∃ sn:Nat,s=sn∧sn < q.toNat∧V.getD sn 0=V.getD q.toNat 0∧q.toNat - sn≤m)→
 σ.cA (J1 5)=⟨[(4,pb 4 27),(5,.bool false),(6,pb 6 27),(7,pb 7 3),(8,pb 8 3),(9,J s)],[(4,⟨.box 27,true,[n4]⟩),(6,⟨.box 27,true,[.st 27 [.own 3018000 80 0 N.length,.own 3018001 2 0 V.length,.own 3018002 9 0 I.length,.own 3018003 90 0 U.length]]⟩),(7,⟨.box 3,true,[J 1]⟩),(8,⟨.box 3,true,[J q]⟩),(3018000,⟨.row 80,false,(N).map dD⟩),(3018001,⟨.row 2,false,V.map eI⟩),(3018002,⟨.row 9,false,I.map eS⟩),(3018003,⟨.row 90,false,U.map b_⟩)]⟩→
 post (J1 5) (aG ty (a9 (env 139 10633986344983520064974317284547903475 D96 [(121,NF),(123,Gc),(124,NG),(125,NH),(126,NM)] [(46,NS),(128,N5),(129,N6)] A) J1 k (sub (f96.body.getD .skip) [1,1,1,0,1,0,1,0,0,0])) (J1 5) (m+1) σ)=some (.exit 0,⟨[(4,pb 4 27),(5,.bool false),(6,pb 6 27),(7,pb 7 3),(8,pb 8 3),(9,J (iT (oZ N V U (V.getD q.toNat 0)) q.toNat s))],[(4,⟨.box 27,true,[n4]⟩),(6,⟨.box 27,true,[.st 27 [.own 3018000 80 0 N.length,.own 3018001 2 0 V.length,.own 3018002 9 0 I.length,.own 3018003 90 0 U.length]]⟩),(7,⟨.box 3,true,[J 1]⟩),(8,⟨.box 3,true,[J q]⟩),(3018000,⟨.row 80,false,(N).map dD⟩),(3018001,⟨.row 2,false,V.map eI⟩),(3018002,⟨.row 9,false,I.map eS⟩),(3018003,⟨.row 90,false,U.map b_⟩)]⟩):=by
 simp only[f96,sub,Option.getD_some,fG];have Oc:=aD (d:=(0:Int)) vp;have yH:q < (V.length:Int):=by omega
 have Od:q.toNat≤V.length:=by omega
 intro m
 induction m with
 | zero=>
   intro s σ hs hσ;rcases hs with rfl|⟨sn,rfl,h1,h2,h3⟩
   ·rw[aG,hσ];simp only[go_sem,fk,dn,dp,BU];simp[post,St.fin,aQ,aA,iT]
   ·omega
 | succ m ih=>
   intro s σ hs hσ;rcases hs with rfl|⟨sn,rfl,h1,h2,h3⟩
   ·rw[aG,hσ];simp only[go_sem,fk,dn,dp,BU];simp[post,St.fin,aQ,aA,iT]
   have rV:decide (0≤(sn:Int))=true:=by simp
   have d_:(sn:Int) ≠ -1:=by omega
   have oY:=BO N V I U sn ⟨cB,hr⟩;have hw:IntKind.i64.wrap ((sn:Int)+1)=((sn+1:Nat):Int):=a_ (by omega);rw[aG,hσ];cases hf:U.any (fixF N sn)
   ·rw[hf] at oY;have hR:iT (oZ N V U (V.getD q.toNat 0)) q.toNat (sn:Int)=sn:=by
     unfold iT;rw[if_neg d_,Int.toNat_natCast,uS (by unfold oZ;rw[hf,h2];simp) (by omega),if_pos h1]
    rw[hR];simp only[go_sem,fk,dn,dp,rV,oY];simp[post,St.fin,aQ,aA]
   ·rw[hf] at oY;have CZ:sn+1≤q.toNat:=h1;have YU:(0:Int)≤(sn:Int)+1:=by omega
    have YV:(0:Int)≤((sn+1:Nat):Int):=by omega
    have Gp:=RA ((V.take q.toNat).drop (sn+1)) (V.getD q.toNat 0) (by simp;omega);have hdr:(((V.map eI).drop (sn+1)).take (q.toNat - (sn+1)))=((V.take q.toNat).drop (sn+1)).map eI:=by
     rw[List.map_drop,List.map_take,List.drop_take]
    have YW:sn+1+(q.toNat - (sn+1))≤V.length:=by omega
    have hz1:(sn+1=0)=False:=by simp
    have Uc:∀ s',(bf (fun x=>V.getD q.toNat 0==x) ((V.take q.toNat).drop (sn+1)) 0=s')→True:=fun _ _=>trivial
    have vd:=JZ (N:=N) (U:=U) (v:=V.getD q.toNat 0) Od h1 hf;have Oe:=J0 (N:=N) (U:=U) (v:=V.getD q.toNat 0) Od h1 hf;by_cases hk:bf (fun x=>V.getD q.toNat 0==x) ((V.take q.toNat).drop (sn+1)) 0 = -1
    ·have hR:iT (oZ N V U (V.getD q.toNat 0)) q.toNat (sn:Int) = -1:=by
      unfold iT;rw[if_neg d_,Int.toNat_natCast,vd hk,if_neg (by omega)]
     rw[hk] at Gp;rw[hR];by_cases aR:sn+1 < q.toNat
     ·simp only[go_sem,fk,dn,dp,rV,oY,Gp,hw,YU,YV,CZ,hdr,YW,hz1,aR,h0,yH,Od,Oc];simp[post,St.fin,aQ,aA]
     ·have heq:(V.take q.toNat).drop (sn+1)=[]:=by rw[List.drop_eq_nil_iff,List.length_take];omega
      rw[heq] at Gp;simp only[List.map_nil] at Gp;simp only[go_sem,fk,dn,dp,rV,oY,Gp,hw,YU,YV,CZ,hdr,YW,hz1,aR,h0,yH,Od,Oc];simp[post,St.fin,aQ,aA]
    ·obtain⟨k,AJ,BE,hk3,hk4⟩:=Oe hk;have aR:sn+1 < q.toNat:=by omega
     have hR:iT (oZ N V U (V.getD q.toNat 0)) q.toNat (sn:Int)=iT (oZ N V U (V.getD q.toNat 0)) q.toNat ((sn+1+k:Nat):Int):=by
      unfold iT;have akE:((sn+1+k:Nat):Int) ≠ -1:=by omega
      rw[if_neg d_,if_neg akE,Int.toNat_natCast,Int.toNat_natCast,hk4]
     rw[AJ] at Gp;rw[hR];have yF:decide ((k:Int) < 0)=false:=by simp
     have eX:IntKind.i64.wrap ((k:Int)+1)=(k:Int)+1:=wrap_i64 (by omega) (by omega);have hw3:IntKind.i64.wrap ((sn:Int)+((k:Int)+1))=(sn:Int)+1+(k:Int):=by rw[wrap_i64 (by omega) (by omega)];omega
     simp only[go_sem,fk,dn,dp,rV,oY,Gp,hw,YU,YV,CZ,hdr,YW,hz1,aR,h0,yH,Od,Oc,yF,eX,hw3];have mj:((sn+1+k:Nat):Int)=(sn:Int)+1+(k:Int):=by omega
     rw[mj];exact ih _ _ (.inr ⟨sn+1+k,mj.symm,BE,hk3,by omega⟩) (by simp only[go_sem])
theorem iU (p i s:Int) (K2:0≤i) (hn:∀ o ∈ N,bM o.n) (dO:N.length≤100000) (A:NP) (k:Nat):∀ (m j:Nat) (σ:St),j+m=N.length→
 σ.cA (J1 18)=⟨[(4,pb 4 27),(5,.bool false),(6,pb 6 27),(7,pb 7 3),(8,pb 8 3),(9,J s),(85,.own 3018000 80 0 N.length),(86,J N.length),(87,J j)],[(4,⟨.box 27,true,[n4]⟩),(6,⟨.box 27,true,[.st 27 [.own 3018000 80 0 N.length,.own 3018001 2 0 V.length,.own 3018002 9 0 I.length,.own 3018003 90 0 U.length]]⟩),(7,⟨.box 3,true,[J p]⟩),(8,⟨.box 3,true,[J i]⟩),(3018000,⟨.row 80,false,(rowAt (fg p i s) N j).map dD⟩),(3018001,⟨.row 2,false,V.map eI⟩),(3018002,⟨.row 9,false,I.map eS⟩),(3018003,⟨.row 90,false,U.map b_⟩)]⟩→
 post (J1 18) (aG ty (a9 (env 139 10633986344983520064974317284547903475 D96 [(121,NF),(123,Gc),(124,NG),(125,NH),(126,NM)] [(46,NS),(128,N5),(129,N6)] A) J1 k (sub (f96.body.getD .skip) [1,1,1,1,1,1,0,1,0,0])) (J1 18) (m+1) σ)=some (.exit 2,⟨[(4,pb 4 27),(5,.bool false),(6,pb 6 27),(7,pb 7 3),(8,pb 8 3),(9,J s)],[(4,⟨.box 27,true,[n4]⟩),(6,⟨.box 27,true,[.st 27 [.own 3018000 80 0 N.length,.own 3018001 2 0 V.length,.own 3018002 9 0 I.length,.own 3018003 90 0 U.length]]⟩),(7,⟨.box 3,true,[J p]⟩),(8,⟨.box 3,true,[J i]⟩),(3018000,⟨.row 80,false,(N.map (fg p i s)).map dD⟩),(3018001,⟨.row 2,false,V.map eI⟩),(3018002,⟨.row 9,false,I.map eS⟩),(3018003,⟨.row 90,false,U.map b_⟩)]⟩):=by
 simp only[f96,sub,Option.getD_some,dy];intro m
 induction m with
 | zero=>
   intro j σ hj hσ;have h1:¬ ((j:Int) < (N.length:Int)):=by omega
   have hlen:=gL (fg p i s) N j;rw[aG,hσ];simp only[go_sem,fk,dn,dp,h1,hlen];simp[post,St.fin,aQ,aA,oM (fg p i s) N j (by omega)]
 | succ m ih=>
   intro j σ hj hσ;have h1:(j:Int) < (N.length:Int):=by omega
   have aR:j < N.length:=by omega
   have cY:(0:Int)≤(j:Int):=Int.natCast_nonneg j;have aw:=mE (fg p i s) N j aR;have hlen:=gL (fg p i s) N j;have hw:IntKind.i64.wrap ((j:Int)+1)=((j+1:Nat):Int):=a_ (by omega);have tB:=hn _ (List.getElem_mem aR);have Uw:=lB (fg p i s) N j aR;have vi:=ng (fg p i s) N j aR;have bH:=cD dD (rowAt (fg p i s) N j) j (fg p i s N[j]);rw[Uw] at bH;rw[aG,hσ];generalize N[j]=x at *;unfold bM at tB;have hg:fg p i s x=if (x.op==p)=true then (if (x.n==i)=true then ⟨x.op,x.d,x.a,x.b,s⟩ else if (decide (i < x.n))=true then ⟨x.op,x.d,x.a,x.b,x.n - 1⟩ else x) else x:=rfl
   cases ha:(x.op==p) <;> cases hb:(x.n==i) <;> cases hc:decide (i < x.n);all_goals
    have Ug:=hc;simp only[decide_eq_true_eq,decide_eq_false_iff_not] at Ug;simp only[ha,hb,hc,BL] at hg;first
    | (have hs:=vi hg
       have p_:=trivial;simp only[go_sem,fk,dn,dp,h1,hlen,cY,hw,aw,ha,hb,hc];exact ih (j+1) _ (by omega) (by rw[← hs];simp only[go_sem]))
    | (rw[hg] at bH
       simp only[dD] at bH;first
       | (have p_:IntKind.i64.wrap (x.n - 1)=x.n - 1:=wrap_i64 (by omega) (by omega)
          simp only[go_sem,fk,dn,dp,h1,hlen,cY,hw,aw,ha,hb,hc,bH,p_];exact ih (j+1) _ (by omega) (by simp only[go_sem]))
       | (simp only[go_sem,fk,dn,dp,h1,hlen,cY,hw,aw,ha,hb,hc,bH]
          exact ih (j+1) _ (by omega) (by simp only[go_sem])))
theorem ae7 (q:Int) (hp:XW N V I U ao aj au∧0≤q∧q.toNat < V.length+I.length) :∃ r,wk r (aS (nC N V I U q))∧∀ A,ak (env 139 10633986344983520064974317284547903475 D96 [(121,NF),(123,Gc),(124,NG),(125,NH),(126,NM)] [(46,NS),(128,N5),(129,N6)] A) (J1) (100010) f96 [(wv N V I U ao aj au),J q]=some r:=by
 obtain⟨hw,h0,aR⟩:=hp;have rS:=x7 N V I U hw.lim;have AM:V.length≤V.length:=Nat.le_refl _;unfold nC;cases hq:decide (q < (V.length:Int))
 ·simp only[BL];have vp:(V.length:Int)≤q:=by simpa using hq
  have vm:IntKind.i64.wrap (q - (V.length:Int))=q - (V.length:Int):=wrap_i64 (by have:=hw.lim;omega) (by have:=hw.lim;omega);have K2:0≤q - (V.length:Int):=by omega
  have qk:(q - (V.length:Int)).toNat < I.length:=by omega
  obtain⟨i,hi⟩:∃ i,q - (V.length:Int)=i:=⟨_,rfl⟩
  rw[hi] at K2 qk vm;have vm:IntKind.i64.wrap (q - (V.length:Int))=i:=by rw[hi];exact vm
  simp only[hi];have aO:i < (I.length:Int):=by omega
  have de:i.toNat≤I.length:=by omega
  have YX:(i.toNat=I.length)=False:=by simp;omega
  have kz:IntKind.i64.wrap (i+1)=i+1:=wrap_i64 (by omega) (by have:=hw.lim;omega);have IQ:(I.map eS).take i.toNat=(I.take i.toNat).map eS:=by rw[List.map_take]
  have o0:=aD (d:=(⟨#[]⟩:ByteArray)) qk;have R6:=RE (I.take i.toNat) (I.getD i.toNat ⟨#[]⟩) (by have:=hw.lim;rw[List.length_take];omega);have hsS:AL I i=bf (fun x=>(I.getD i.toNat ⟨#[]⟩).toList==x.toList) (I.take i.toNat) 0:=rfl;rw[← hsS] at R6;have fp:dV [.ro false 3 (J 2),.ro false 3 (J i)]:=⟨rfl,rfl,fun k ob hk=>by obtain⟨j,rfl⟩:∃ j,k=j+3:=⟨k - 3,by omega⟩;rfl⟩
  have BY:=IG N 127 [.ro false 3 (J 2),.ro false 3 (J i)] (fun o=>o.op==2&&o.n==i) ⟨fun r _=>jh r.op r.d r.a r.b r.n 2 i,fp,rfl,hw.lim.1⟩;have ae8:=BU I i false ⟨K2,qk,hw.lim.2.2.1⟩;have CX:I.length - 1=(I.eraseIdx i.toNat).length:=by rw[List.length_eraseIdx_of_lt qk]
  generalize (N.any fun o=>o.op==2&&o.n==i)=nm at *;generalize AL I i=sm at *;cases nm
  ·cases ni:decide (sm < 0);all_goals
    simp only[BL];apply bu
    ·intro A;have mF:=iU N V I U 2 i sm K2 hw.vE hw.lim.1 A 100010 N.length 0;simp only[f96,sub,Option.getD_some,fG,dy] at mF;simp only[ak,ai,f96];simp only[go_sem,fk,dn,dp,hq,vm,K2,de,YX,IQ,o0,R6,BY,ni,rS,aO,AM,List.drop_zero,fG,dy];rw[aY (mF _ (by omega) (by simp only[go_sem,gw])) (by have:=hw.lim.1;omega)];simp only[go_sem,fk,dn,dp,ae8,kz,CX,rS,aO,AM,List.drop_zero,fG,dy];rfl
    ·simp[WK,aS,ax]
  ·cases ni:decide (sm < 0)
   ·simp only[BL];apply bu
    ·intro A;have mF:=iU N V I U 2 i sm K2 hw.vE hw.lim.1 A 100010 N.length 0;simp only[f96,sub,Option.getD_some,fG,dy] at mF;simp only[ak,ai,f96];simp only[go_sem,fk,dn,dp,hq,vm,K2,de,YX,IQ,o0,R6,BY,ni,rS,aO,AM,List.drop_zero,fG,dy];rw[aY (mF _ (by omega) (by simp only[go_sem,gw])) (by have:=hw.lim.1;omega)];simp only[go_sem,fk,dn,dp,ae8,kz,CX,rS,aO,AM,List.drop_zero,fG,dy];rfl
    ·simp[WK,aS,ax]
   ·simp only[BL];apply bu
    ·intro A;have mF:=iU N V I U 2 i sm K2 hw.vE hw.lim.1 A 100010 N.length 0;simp only[f96,sub,Option.getD_some,fG,dy] at mF;simp only[ak,ai,f96];simp only[go_sem,fk,dn,dp,hq,vm,K2,de,YX,IQ,o0,R6,BY,ni,rS,aO,AM,List.drop_zero,fG,dy];rfl
    ·simp[WK,aS,ax]
 have aO:q < (V.length:Int):=by simpa using hq
 have Gq:q.toNat < V.length:=by omega
 have vp:q.toNat≤V.length:=by omega
 have kz:IntKind.i64.wrap (q+1)=q+1:=wrap_i64 (by omega) (by have:=hw.lim;omega);have Of:(q.toNat=V.length)=False:=by simp;omega
 have IQ:(V.map eI).take q.toNat=(V.take q.toNat).map eI:=by rw[List.map_take]
 have hc:dV [.ro false 27 ((cd N V I U)),.ro false 3 (J q)]:=⟨rfl,rfl,fun k ob hk=>by obtain⟨j,rfl⟩:∃ j,k=j+3:=⟨k - 3,by omega⟩;rfl⟩
 have Og:=Rw (V.take q.toNat) 122 [.ro false 27 ((cd N V I U)),.ro false 3 (J q)] (fun n=>n==V.getD q.toNat 0) ⟨fun r _=>jP r N V I U q ⟨h0,by omega⟩,hc,rfl,by have:=hw.lim;rw[List.length_take];omega⟩;have oY:=BO N V I U q ⟨hw.lim.2.2.2,hw.rel⟩;have fp:dV [.ro false 3 (J 1),.ro false 3 (J q)]:=⟨rfl,rfl,fun k ob hk=>by obtain⟨j,rfl⟩:∃ j,k=j+3:=⟨k - 3,by omega⟩;rfl⟩
 have BY:=IG N 127 [.ro false 3 (J 1),.ro false 3 (J q)] (fun o=>o.op==1&&o.n==q) ⟨fun r _=>jh r.op r.d r.a r.b r.n 1 q,fp,rfl,hw.lim.1⟩;have hss:=Gn (N:=N) (U:=U) (v:=V.getD q.toNat 0) vp;have fL:(bf (fun n=>n==V.getD q.toNat 0) (V.take q.toNat) 0 = -1∨∃ sn:Nat,bf (fun n=>n==V.getD q.toNat 0) (V.take q.toNat) 0=sn∧sn < q.toNat∧V.getD sn 0=V.getD q.toNat 0∧q.toNat - sn≤q.toNat):=by
  rcases hss.2 with h|⟨sn,h1,h2,h3⟩
  ·exact .inl h
  ·exact .inr ⟨sn,h1,h2,h3,by omega⟩
 have YY:=R2 V q false ⟨h0,Gq,hw.lim.2.1⟩;have CX:V.length - 1=(V.eraseIdx q.toNat).length:=by rw[List.length_eraseIdx_of_lt Gq]
 have hsI:AK N V U q=if (U.any (fixF N q))=true then -1 else iT (oZ N V U (V.getD q.toNat 0)) q.toNat 0:=rfl
 generalize FD:(N.any fun o=>o.op==1&&o.n==q)=nm at *;cases hfx:U.any (fixF N q)
 ·rw[hfx] at oY;rw[hfx] at hsI;simp only[BL] at hsI;rw[hsI];generalize iT (oZ N V U (V.getD q.toNat 0)) q.toNat 0=sm at *;cases nm
  ·cases ni:decide (sm < 0);all_goals
    simp only[BL];apply bu
    ·intro A;have AN:=om N V I U q h0 Gq hw.lim.2.1 hw.lim.2.2.2 hw.rel A 100010 q.toNat (bf (fun n=>n==V.getD q.toNat 0) (V.take q.toNat) 0);have mF:=iU N V I U 1 q sm h0 hw.vE hw.lim.1 A 100010 N.length 0;simp only[f96,sub,Option.getD_some,fG,dy] at AN mF;simp only[ak,ai,f96];simp only[go_sem,fk,dn,dp,hq,vp,Of,IQ,Og,rS,h0,aO,AM,List.drop_zero,fG,dy];rw[aY (AN _ fL (by simp only[go_sem])) (by have:=hw.lim.2.1;omega)];rw[hss.1];simp only[go_sem,fk,dn,dp,oY,BY,ni,rS,h0,aO,AM,List.drop_zero,fG,dy];rw[aY (mF _ (by omega) (by simp only[go_sem,gw])) (by have:=hw.lim.1;omega)];simp only[go_sem,fk,dn,dp,YY,kz,CX,rS,h0,aO,AM,List.drop_zero,fG,dy];rfl
    ·simp[WK,aS,ax]
  ·cases ni:decide (sm < 0)
   ·simp only[BL];apply bu
    ·intro A;have AN:=om N V I U q h0 Gq hw.lim.2.1 hw.lim.2.2.2 hw.rel A 100010 q.toNat (bf (fun n=>n==V.getD q.toNat 0) (V.take q.toNat) 0);have mF:=iU N V I U 1 q sm h0 hw.vE hw.lim.1 A 100010 N.length 0;simp only[f96,sub,Option.getD_some,fG,dy] at AN mF;simp only[ak,ai,f96];simp only[go_sem,fk,dn,dp,hq,vp,Of,IQ,Og,rS,h0,aO,AM,List.drop_zero,fG,dy];rw[aY (AN _ fL (by simp only[go_sem])) (by have:=hw.lim.2.1;omega)];rw[hss.1];simp only[go_sem,fk,dn,dp,oY,BY,ni,rS,h0,aO,AM,List.drop_zero,fG,dy];rw[aY (mF _ (by omega) (by simp only[go_sem,gw])) (by have:=hw.lim.1;omega)];simp only[go_sem,fk,dn,dp,YY,kz,CX,rS,h0,aO,AM,List.drop_zero,fG,dy];rfl
    ·simp[WK,aS,ax]
   ·simp only[BL];apply bu
    ·intro A;have AN:=om N V I U q h0 Gq hw.lim.2.1 hw.lim.2.2.2 hw.rel A 100010 q.toNat (bf (fun n=>n==V.getD q.toNat 0) (V.take q.toNat) 0);have mF:=iU N V I U 1 q sm h0 hw.vE hw.lim.1 A 100010 N.length 0;simp only[f96,sub,Option.getD_some,fG,dy] at AN mF;simp only[ak,ai,f96];simp only[go_sem,fk,dn,dp,hq,vp,Of,IQ,Og,rS,h0,aO,AM,List.drop_zero,fG,dy];rw[aY (AN _ fL (by simp only[go_sem])) (by have:=hw.lim.2.1;omega)];rw[hss.1];simp only[go_sem,fk,dn,dp,oY,BY,ni,rS,h0,aO,AM,List.drop_zero,fG,dy];rfl
    ·simp[WK,aS,ax]
 ·rw[hfx] at oY;rw[hfx] at hsI;simp only[BL] at hsI;rw[hsI];have ni:decide ((-1:Int) < 0)=true:=rfl;cases nm
  ·simp only[BL];apply bu
   ·intro A;have AN:=om N V I U q h0 Gq hw.lim.2.1 hw.lim.2.2.2 hw.rel A 100010 q.toNat (bf (fun n=>n==V.getD q.toNat 0) (V.take q.toNat) 0);have mF:=iU N V I U 1 q (-1) h0 hw.vE hw.lim.1 A 100010 N.length 0;simp only[f96,sub,Option.getD_some,fG,dy] at AN mF;simp only[ak,ai,f96];simp only[go_sem,fk,dn,dp,hq,vp,Of,IQ,Og,rS,h0,aO,AM,List.drop_zero,fG,dy];rw[aY (AN _ fL (by simp only[go_sem])) (by have:=hw.lim.2.1;omega)];rw[hss.1];simp only[go_sem,fk,dn,dp,oY,BY,ni,Int.reduceLT,rS,h0,aO,AM,List.drop_zero,fG,dy];rw[aY (mF _ (by omega) (by simp only[go_sem,gw])) (by have:=hw.lim.1;omega)];simp only[go_sem,fk,dn,dp,YY,kz,CX,rS,h0,aO,AM,List.drop_zero,fG,dy];rfl
   ·simp[WK,aS,ax]
  ·simp only[ni,BL];apply bu
   ·intro A;have AN:=om N V I U q h0 Gq hw.lim.2.1 hw.lim.2.2.2 hw.rel A 100010 q.toNat (bf (fun n=>n==V.getD q.toNat 0) (V.take q.toNat) 0);have mF:=iU N V I U 1 q (-1) h0 hw.vE hw.lim.1 A 100010 N.length 0;simp only[f96,sub,Option.getD_some,fG,dy] at AN mF;simp only[ak,ai,f96];simp only[go_sem,fk,dn,dp,hq,vp,Of,IQ,Og,rS,h0,aO,AM,List.drop_zero,fG,dy];rw[aY (AN _ fL (by simp only[go_sem])) (by have:=hw.lim.2.1;omega)];rw[hss.1];simp only[go_sem,fk,dn,dp,oY,BY,ni,Int.reduceLT,rS,h0,aO,AM,List.drop_zero,fG,dy];rfl
   ·simp[WK,aS,ax]
noncomputable def c96:=bk (α:=(List bp) × (List Int) × (List ByteArray) × (List aP) × (List (List aB)) × (List Bool) × (List Int) × Int) (fun (N,V,I,U,ao,aj,au,q)=>XW N V I U ao aj au∧0≤q∧q.toNat < V.length+I.length) (fun (N,V,I,U,ao,aj,au,q)=>[(wv N V I U ao aj au),J q]) (fun (N,V,I,U,ao,aj,au,q)=>aS (nC N V I U q))
theorem YZ (q:Int) (hp:XW N V I U ao aj au∧0≤q∧q.toNat < V.length+I.length):c96 [(wv N V I U ao aj au),J q]=some (aS (nC N V I U q)):=aJ (fun X Y hp bZ h'=>by
 obtain⟨N,V,I,U,ao,aj,au,q⟩:=X;obtain⟨c7,bJ,bL,bK,gm,eW,jj,q'⟩:=Y;simp only[cJ] at h';obtain⟨rfl,rfl,rfl,rfl,rfl,rfl,rfl,rfl⟩:=h';rfl) (N,V,I,U,ao,aj,au,q) hp
theorem ae9:cI 96 c96:=aE h96 rfl rfl fun (N,V,I,U,ao,aj,au,q) hp=>let ⟨_,hw,hr⟩:=ae7 N V I U ao aj au q hp;(rc h96 hr (fun i=>match i with | 6=>[0,1,0,4,0,31,0,64,0,448,960,2047,4095] | 12=>[0,0,2,6,15,0,63] | 13=>[0,1,0,7,0,16,0,112,240,511,1023] | _=>[]) rfl rfl rfl (by kernel_rfl) ⟨Xe,NN,Xj,Xo,XC,trivial⟩ ⟨Eo,Yy,YB,trivial⟩).eK hw
end Go.Proofs.Tryz
end
