/- A part of a proof. -/
import Derived.Test.YtbdbjpdlcemeaaaGreatDoorRu05
set_option linter.unusedSimpArgs false
set_option linter.unusedVariables false
section
set_option maxHeartbeats 4000000
set_option maxRecDepth 20000
namespace Go.Proofs.Tryz
open Go Go.Abs
variable (N : List bp) (V : List Int) (I : List ByteArray) (U : List aP) (ao : List (List aB)) (aj : List Bool) (au : List Int)
theorem fS {α:Type} (x:α):fc x 7=[x,x,x,x,x,x,x]:=rfl
def ew (is:Bool) (a v o:Int) (l:List Int):Bool:=is&&(a==v&&l.any fun x=>o==x)
theorem afd:Q 119=some f119:=by kernel_rfl
theorem Y2 (v:Int) (xs:List Int) (is:Bool) (a o d y b n:Int) (hp:xs.length≤100000) (A:NP):ak (env 20 159 D0 [(113,JV)] [] A) hN (5) f119 [J v,.sl 3 gF (xs.map eI),.ro false 4 (.bool is),.ro false 2 (J a),.ro false 80 (.st 80 [J o,J d,J y,J b,J n])]=some (.bool (ew is a v o xs)):=by
 have eF:=vD xs o hp;unfold ew;cases is
 ·have ha:=trivial;simp only[BL];simp only[ak,ai,f119];simp only[go_sem,eF,ha];try rfl
 cases ha:(a==v)
 ·simp only[BL];simp only[ak,ai,f119];simp only[go_sem,eF,ha];try rfl
 ·simp only[BL];simp only[ak,ai,f119];simp only[go_sem,eF,ha];try rfl
noncomputable def Y3:=bk (α:=Int × (List Int) × Bool × Int × Int × Int × Int × Int × Int) (fun (v,xs,is,a,o,d,y,b,n)=>xs.length≤100000) (fun (v,xs,is,a,o,d,y,b,n)=>[J v,.sl 3 gF (xs.map eI),.ro false 4 (.bool is),.ro false 2 (J a),.ro false 80 (.st 80 [J o,J d,J y,J b,J n])]) (fun (v,xs,is,a,o,d,y,b,n)=> .bool (ew is a v o xs))
theorem vG (v:Int) (xs:List Int) (is:Bool) (a o d y b n:Int) (hp:xs.length≤100000):Y3 [J v,.sl 3 gF (xs.map eI),.ro false 4 (.bool is),.ro false 2 (J a),.ro false 80 (.st 80 [J o,J d,J y,J b,J n])]=some (.bool (ew is a v o xs)):=aJ (fun X Y hp bZ h'=>by
 obtain⟨v,xs,is,a,o,d,y,b,n⟩:=X;obtain⟨v',BN,is',a',o',d',y',b',n'⟩:=Y;simp only[cJ] at h';obtain⟨rfl,rfl,rfl,rfl,rfl,rfl,rfl,rfl,rfl⟩:=h';rfl) (v,xs,is,a,o,d,y,b,n) hp
theorem Y4:cI 119 Y3:=aE afd rfl rfl fun (v,xs,is,a,o,d,y,b,n) hp=>rc afd (fun A=>Y2 v xs is a o d y b n hp A) (fun _=>[]) rfl rfl rfl (by kernel_rfl) ⟨BQ,trivial⟩ trivial
theorem afe:Q 120=some f120:=by kernel_rfl
theorem Y5 (v:Int) (xs:List Int) (is:Bool) (a o d y b n:Int) (hp:xs.length≤100000) (A:NP):ak (env 20 159 D0 [(113,JV)] [] A) hN (5) f120 [J v,.sl 3 gF (xs.map eI),.ro false 4 (.bool is),.ro false 2 (J a),.ro false 80 (.st 80 [J o,J d,J y,J b,J n])]=some (.bool (ew is a v o xs)):=by
 have eF:=vD xs o hp;unfold ew;cases is
 ·have ha:=trivial;simp only[BL];simp only[ak,ai,f120];simp only[go_sem,eF,ha];try rfl
 cases ha:(a==v)
 ·simp only[BL];simp only[ak,ai,f120];simp only[go_sem,eF,ha];try rfl
 ·simp only[BL];simp only[ak,ai,f120];simp only[go_sem,eF,ha];try rfl
noncomputable def Y6:=bk (α:=Int × (List Int) × Bool × Int × Int × Int × Int × Int × Int) (fun (v,xs,is,a,o,d,y,b,n)=>xs.length≤100000) (fun (v,xs,is,a,o,d,y,b,n)=>[J v,.sl 3 gF (xs.map eI),.ro false 4 (.bool is),.ro false 2 (J a),.ro false 80 (.st 80 [J o,J d,J y,J b,J n])]) (fun (v,xs,is,a,o,d,y,b,n)=> .bool (ew is a v o xs))
theorem rW (v:Int) (xs:List Int) (is:Bool) (a o d y b n:Int) (hp:xs.length≤100000):Y6 [J v,.sl 3 gF (xs.map eI),.ro false 4 (.bool is),.ro false 2 (J a),.ro false 80 (.st 80 [J o,J d,J y,J b,J n])]=some (.bool (ew is a v o xs)):=aJ (fun X Y hp bZ h'=>by
 obtain⟨v,xs,is,a,o,d,y,b,n⟩:=X;obtain⟨v',BN,is',a',o',d',y',b',n'⟩:=Y;simp only[cJ] at h';obtain⟨rfl,rfl,rfl,rfl,rfl,rfl,rfl,rfl,rfl⟩:=h';rfl) (v,xs,is,a,o,d,y,b,n) hp
theorem Y7:cI 120 Y6:=aE afe rfl rfl fun (v,xs,is,a,o,d,y,b,n) hp=>rc afe (fun A=>Y5 v xs is a o d y b n hp A) (fun _=>[]) rfl rfl rfl (by kernel_rfl) ⟨BQ,trivial⟩ trivial
def g_ (N:List bp) (V:List Int) (I:List ByteArray) (U:List aP) (q d a:Int):Option aL:=some ⟨N.set q.toNat ⟨3,d,a,0,0⟩,V,I,U⟩
def kp (N:List bp) (V:List Int) (I:List ByteArray) (U:List aP) (ao:List (List aB)) (aj:List Bool) (q:Int):Option aL:=
 let o:=N.getD q.toNat bD
 if aj.getD q.toNat false=true then
  if (decide (o.op < 4))=true then none else if (decide (16 < o.op))=true then none
  else
   let fa:=cP ao q o.a
   let fb:=cP ao q o.b
   let first:=ew (fa.sort==1) fa.n
   let second:=ew (fb.sort==1) fb.n
   if second 0 o.op [4,5,12,13,14,15,16]=true then g_ N V I U q o.d o.a else if second 1 o.op [6,7,8]=true then g_ N V I U q o.d o.a else if second (-1) o.op [11]=true then g_ N V I U q o.d o.a
   else if first 0 o.op [4,12,13]=true then g_ N V I U q o.d o.b else if first 1 o.op [6]=true then g_ N V I U q o.d o.b else if first (-1) o.op [11]=true then g_ N V I U q o.d o.b
   else if first 0 o.op [6,11]=true then cQ N V I U q o.d 0 else if second 0 o.op [6,11]=true then cQ N V I U q o.d 0 else if second 1 o.op [9,10]=true then cQ N V I U q o.d 0
   else if (o.a==o.b)=true then (if ([5,13].any fun x=>o.op==x)=true then cQ N V I U q o.d 0 else none) else none
 else none
theorem h95:Q 95=some f95:=by kernel_rfl
theorem aff (q:Int) (hp:XW N V I U ao aj au∧0≤q∧q.toNat < N.length) :∃ r,wk r (aS (kp N V I U ao aj q))∧∀ A,ak (env 127 316912952288800484682499104755 D0 [(47,c47),(112,Gf),(113,JV),(115,R5),(119,Y3),(120,Y6)] [] A) hN (5) f95 [(wv N V I U ao aj au),J q]=some r:=by
 obtain⟨hw,h0,aR⟩:=hp;have aO:q < (N.length:Int):=by omega
 have cB:=hw.rl;have aw:=aD (d:=bD) aR;have cO:=aD (d:=false) (show q.toNat < aj.length by omega);have Gm:=hw.op _ aR;simp only[kp];generalize N.getD q.toNat bD=x at *;obtain⟨⟨cv,ep⟩,⟨dJ,eu⟩,-⟩:=Gm;have ea:=BR N V I U ao aj au q x.a ⟨by have:=hw.bl;omega,h0,cv,by rw[hw.b8 _ aR];exact ep⟩;have eb:=BR N V I U ao aj au q x.b ⟨by have:=hw.bl;omega,h0,dJ,by rw[hw.b8 _ aR];exact eu⟩;have eA:=oL N V I U ao aj au q 3 x.d x.a 0 0 ⟨hw.lim,h0,aR⟩;have eBv:=oL N V I U ao aj au q 3 x.d x.b 0 0 ⟨hw.lim,h0,aR⟩;have j8:=nh N V I U ao aj au q x.d 0 ⟨hw.lim,⟨h0,aR⟩,hw.i200,hw.rel⟩;have eF:=vD [5,13] x.op (by decide);generalize cP ao q x.a=fa at *;generalize cP ao q x.b=fb at *
 generalize aj.getD q.toNat false=rg at *;generalize cQ N V I U q x.d 0=pu at *;have Fv:=rW 0 [4,5,12,13,14,15,16] (fb.sort==1) fb.n x.op x.d x.a x.b x.n (by decide);have J2:=rW 1 [6,7,8] (fb.sort==1) fb.n x.op x.d x.a x.b x.n (by decide);have Oh:=rW (-1) [11] (fb.sort==1) fb.n x.op x.d x.a x.b x.n (by decide);have Qi:=vG 0 [4,12,13] (fa.sort==1) fa.n x.op x.d x.a x.b x.n (by decide);have R7:=vG 1 [6] (fa.sort==1) fa.n x.op x.d x.a x.b x.n (by decide);have Uy:=vG (-1) [11] (fa.sort==1) fa.n x.op x.d x.a x.b x.n (by decide);have Y8:=vG 0 [6,11] (fa.sort==1) fa.n x.op x.d x.a x.b x.n (by decide);have et0:=rW 0 [6,11] (fb.sort==1) fb.n x.op x.d x.a x.b x.n (by decide);have et1:=rW 1 [9,10] (fb.sort==1) fb.n x.op x.d x.a x.b x.n (by decide);generalize ew (fb.sort==1) fb.n 0 x.op [4,5,12,13,14,15,16]=s0 at *
 generalize ew (fb.sort==1) fb.n 1 x.op [6,7,8]=s1 at *;generalize ew (fb.sort==1) fb.n (-1) x.op [11]=sm at *;generalize ew (fa.sort==1) fa.n 0 x.op [4,12,13]=f0 at *;generalize ew (fa.sort==1) fa.n 1 x.op [6]=f1 at *;generalize ew (fa.sort==1) fa.n (-1) x.op [11]=fm at *;generalize ew (fa.sort==1) fa.n 0 x.op [6,11]=g0 at *;generalize ew (fb.sort==1) fb.n 0 x.op [6,11]=t0 at *;generalize ew (fb.sort==1) fb.n 1 x.op [9,10]=t1 at *;simp only[List.map_cons,List.map_nil,eI] at Fv J2 Oh Qi R7 Uy Y8 et0 et1 eF;cases rg
 ·simp only[BL];apply bu
  ·intro A;simp only[ak,ai,f95];simp only[go_sem,aw,cO,h0,aO,ea,eb,cB,fS];rfl
  ·simp[WK,aS,ax]
 simp only[BL];cases h4:(decide (x.op < 4))
 rotate_left
 ·simp only[BL];apply bu
  ·intro A;simp only[ak,ai,f95];simp only[go_sem,h4,aw,cO,h0,aO,ea,eb,cB,fS];rfl
  ·simp[WK,aS,ax]
 cases mg:(decide (16 < x.op))
 rotate_left
 ·simp only[BL];apply bu
  ·intro A;simp only[ak,ai,f95];simp only[go_sem,h4,mg,aw,cO,h0,aO,ea,eb,cB,fS];rfl
  ·simp[WK,aS,ax]
 simp only[BL];cases s0;rotate_left
 ·simp only[BL];simp only[g_];apply bu
  ·intro A;simp only[ak,ai,f95];simp only[go_sem,h4,mg,Fv,aw,cO,h0,aO,ea,eb,cB,fS,eA];rfl
  ·simp[WK,aS,ax]
 simp only[BL];cases s1;rotate_left
 ·simp only[BL];simp only[g_];apply bu
  ·intro A;simp only[ak,ai,f95];simp only[go_sem,h4,mg,Fv,J2,aw,cO,h0,aO,ea,eb,cB,fS,eA];rfl
  ·simp[WK,aS,ax]
 simp only[BL];cases sm;rotate_left
 ·simp only[BL];simp only[g_];apply bu
  ·intro A;simp only[ak,ai,f95];simp only[go_sem,h4,mg,Fv,J2,Oh,aw,cO,h0,aO,ea,eb,cB,fS,eA];rfl
  ·simp[WK,aS,ax]
 simp only[BL];cases f0;rotate_left
 ·simp only[BL];simp only[g_];apply bu
  ·intro A;simp only[ak,ai,f95];simp only[go_sem,h4,mg,Fv,J2,Oh,Qi,aw,cO,h0,aO,ea,eb,cB,fS,eBv];rfl
  ·simp[WK,aS,ax]
 simp only[BL];cases f1;rotate_left
 ·simp only[BL];simp only[g_];apply bu
  ·intro A;simp only[ak,ai,f95];simp only[go_sem,h4,mg,Fv,J2,Oh,Qi,R7,aw,cO,h0,aO,ea,eb,cB,fS,eBv];rfl
  ·simp[WK,aS,ax]
 simp only[BL];cases fm;rotate_left
 ·simp only[BL];simp only[g_];apply bu
  ·intro A;simp only[ak,ai,f95];simp only[go_sem,h4,mg,Fv,J2,Oh,Qi,R7,Uy,aw,cO,h0,aO,ea,eb,cB,fS,eBv];rfl
  ·simp[WK,aS,ax]
 simp only[BL];cases g0;rotate_left
 ·simp only[BL];cases pu;all_goals
   simp only[aS,ax] at j8;apply bu
   ·intro A;simp only[ak,ai,f95];simp only[go_sem,h4,mg,Fv,J2,Oh,Qi,R7,Uy,Y8,aw,cO,h0,aO,ea,eb,cB,fS,j8];rfl
   ·simp[WK,aS,ax]
 simp only[BL];cases t0;rotate_left
 ·simp only[BL];cases pu;all_goals
   simp only[aS,ax] at j8;apply bu
   ·intro A;simp only[ak,ai,f95];simp only[go_sem,h4,mg,Fv,J2,Oh,Qi,R7,Uy,Y8,et0,aw,cO,h0,aO,ea,eb,cB,fS,j8];rfl
   ·simp[WK,aS,ax]
 simp only[BL];cases t1;rotate_left
 ·simp only[BL];cases pu;all_goals
   simp only[aS,ax] at j8;apply bu
   ·intro A;simp only[ak,ai,f95];simp only[go_sem,h4,mg,Fv,J2,Oh,Qi,R7,Uy,Y8,et0,et1,aw,cO,h0,aO,ea,eb,cB,fS,j8];rfl
   ·simp[WK,aS,ax]
 simp only[BL];cases hab:(x.a==x.b)
 ·simp only[BL];apply bu
  ·intro A;simp only[ak,ai,f95];simp only[go_sem,h4,mg,Fv,J2,Oh,Qi,R7,Uy,Y8,et0,et1,hab,aw,cO,h0,aO,ea,eb,cB,fS];rfl
  ·simp[WK,aS,ax]
 cases h5:([5,13].any fun y=>x.op==y)
 ·rw[h5] at eF;simp only[BL];apply bu
  ·intro A;simp only[ak,ai,f95];simp only[go_sem,h4,mg,Fv,J2,Oh,Qi,R7,Uy,Y8,et0,et1,hab,eF,aw,cO,h0,aO,ea,eb,cB,fS];rfl
  ·simp[WK,aS,ax]
 ·rw[h5] at eF;simp only[BL];cases pu;all_goals
   simp only[aS,ax] at j8;apply bu
   ·intro A;simp only[ak,ai,f95];simp only[go_sem,h4,mg,Fv,J2,Oh,Qi,R7,Uy,Y8,et0,et1,hab,eF,aw,cO,h0,aO,ea,eb,cB,fS,j8];rfl
   ·simp[WK,aS,ax]
noncomputable def c95:=bk (α:=(List bp) × (List Int) × (List ByteArray) × (List aP) × (List (List aB)) × (List Bool) × (List Int) × Int) (fun (N,V,I,U,ao,aj,au,q)=>XW N V I U ao aj au∧0≤q∧q.toNat < N.length) (fun (N,V,I,U,ao,aj,au,q)=>[(wv N V I U ao aj au),J q]) (fun (N,V,I,U,ao,aj,au,q)=>aS (kp N V I U ao aj q))
theorem Y9 (q:Int) (hp:XW N V I U ao aj au∧0≤q∧q.toNat < N.length):c95 [(wv N V I U ao aj au),J q]=some (aS (kp N V I U ao aj q)):=aJ (fun X Y hp bZ h'=>by
 obtain⟨N,V,I,U,ao,aj,au,q⟩:=X;obtain⟨c7,bJ,bL,bK,gm,eW,jj,q'⟩:=Y;simp only[cJ] at h';obtain⟨rfl,rfl,rfl,rfl,rfl,rfl,rfl,rfl⟩:=h';rfl) (N,V,I,U,ao,aj,au,q) hp
theorem afh:cI 95 c95:=aE h95 rfl rfl fun (N,V,I,U,ao,aj,au,q) hp=>let ⟨_,hw,hr⟩:=aff N V I U ao aj au q hp;(rc h95 hr (fun _=>[]) rfl rfl rfl (by kernel_rfl) ⟨Up,x9,BQ,Ob,Y4,Y7,trivial⟩ trivial).eK hw
end Go.Proofs.Tryz
end
