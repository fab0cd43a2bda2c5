/- A part of a proof. -/
import Derived.Test.YtbdbjpdlcemeaaaGreatDoorRu10
import Derived.Test.YtbdbjpdlcemeaaaGreatDoorRu11
import Derived.Test.YtbdbjpdlcemeaaaGreatDoorRu13
set_option linter.unusedSimpArgs false
set_option linter.unusedVariables false
section
set_option maxHeartbeats 4000000
set_option maxRecDepth 20000
namespace Go.Proofs.Tryz
open Go Go.Abs
variable (N : List bp) (V : List Int) (I : List ByteArray) (U : List aP) (ao : List (List aB)) (aj : List Bool) (au : List Int)
def aV (f:aB):AV:= .st 71 [J f.sort,J f.n]
def aC (b:Bool) (f:List aB):AV:= .st 74 [.bool b,.ar 72 (f.map aV)]
theorem SA (a b:List aB):(a.map aV=b.map aV)=(a=b):=by
 apply propext;constructor
 ·intro h;refine List.map_inj_right (fun x y cN=>?_) |>.1 h
  cases x;cases y;simp only[aV,AV.st.injEq,List.cons.injEq,AV.int.injEq,and_true,true_and] at cN;obtain⟨rfl,rfl⟩:=cN;rfl
 ·rintro rfl;rfl
theorem db (b b':Bool) (f f':List aB):(aC b f=aC b' f')=(b=b'∧f=f'):=by
 simp only[aC,AV.st.injEq,List.cons.injEq,AV.bool.injEq,AV.ar.injEq,SA,and_true,true_and]
theorem ag_:Q 100=some f100:=by kernel_rfl
def GL:Nat→Hint:=fun i=>if i=2 then ({ tm:=[1,2,5],ob:=[2],fin:=some ([1,2,4],[2]) }:Hint) else { tm:=[],ob:=[] }
theorem Cp:GL 2=({ tm:=[1,2,5],ob:=[2],fin:=some ([1,2,4],[2]) }:Hint):=by simp[GL]
theorem Kt (q:Int) (cB:U.length≤100000) (A:NP) (k:Nat):∀ (m i:Nat) (σ:St),i+m=U.length→
 σ.cA (GL 2)=⟨[(1,J q),(2,pb 2 27),(5,J i)],[(2,(bC N V I U))]⟩→
 post (GL 2) (aG ty (a9 (env 21 1049655 D0 [] [] A) GL k (sub (f100.body.getD .skip) [1,0,1,0,0])) (GL 2) (m+1) σ)=some (if ((U.drop i).any fun r=>r.at_==q)=true then (.ret,⟨[(1,J q),(2,pb 2 27),(4,.bool true)],[(2,(bC N V I U))]⟩) else (.exit 0,⟨[(1,J q),(2,pb 2 27)],[(2,(bC N V I U))]⟩)):=by
 simp only[f100,sub,Option.getD_some,Cp];intro m
 induction m with
 | zero=>
   intro i σ hi hσ;have h1:¬ ((i:Int) < ((U.length:Nat):Int)):=by omega
   have h8:U.drop i=[]:=List.drop_of_length_le (by omega);rw[aG,hσ];simp only[go_sem,h1];simp[post,St.fin,aQ,aA,h8]
 | succ m ih=>
   intro i σ hi hσ;have h1:(i:Int) < ((U.length:Nat):Int):=by omega
   have aR:i < U.length:=by omega
   have cY:(0:Int)≤(i:Int):=Int.natCast_nonneg i;have hw:IntKind.i64.wrap ((i:Int)+1)=((i+1:Nat):Int):=a_ (by omega);have aw:=aD (d:=(⟨0,0,⟨#[]⟩,⟨#[]⟩⟩:aP)) aR;have hd:U.drop i=U[i]'aR::U.drop (i+1):=List.drop_eq_getElem_cons aR;rw[show U.getD i ⟨0,0,⟨#[]⟩,⟨#[]⟩⟩=U[i]'aR by simp[List.getD,List.getElem?_eq_getElem aR]] at aw;rw[aG,hσ];rw[hd,List.any_cons];generalize U[i]=x at *;cases hv:(x.at_==q)
   all_goals
    simp only[go_sem,h1,cY,hw,aw,hv];try simp only[BL]
    first
    | (simp[post,St.fin,aQ,aA];done)
    | exact ih (i+1) _ (by omega) (by simp only[go_sem])
theorem ZJ (q:Int) (hp:U.length≤100000) (A:NP):ak (env 21 1049655 D0 [] [] A) (GL) (100010) f100 [(cd N V I U),J q]=some (.bool (U.any fun r=>r.at_==q)):=by
 have hl:=Kt N V I U q hp A 100010 U.length 0;simp only[f100,sub,Option.getD_some,Cp,List.drop_zero] at hl;simp only[ak,ai,f100];simp only[go_sem,Cp];rw[aY (hl _ (by simp) (by simp only[go_sem])) (by omega)];cases h:(U.any fun r=>r.at_==q)
 all_goals
  simp only[BL];simp only[go_sem,Cp];try rfl
noncomputable def SB:=bk (α:=(List bp) × (List Int) × (List ByteArray) × (List aP) × Int) (fun (N,V,I,U,q)=>U.length≤100000) (fun (N,V,I,U,q)=>[(cd N V I U),J q]) (fun (N,V,I,U,q)=> .bool (U.any fun r=>r.at_==q))
theorem I7 (q:Int) (hp:U.length≤100000):SB [(cd N V I U),J q]=some (.bool (U.any fun r=>r.at_==q)):=aJ (fun X Y hp bZ h'=>by
 obtain⟨N,V,I,U,q⟩:=X;obtain⟨c7,bJ,bL,bK,q'⟩:=Y;simp only[db,cJ] at h';obtain⟨rfl,rfl,rfl,rfl,rfl⟩:=h';rfl) (N,V,I,U,q) hp
theorem O1:cI 100 SB:=aE ag_ rfl rfl fun (N,V,I,U,q) hp=>rc ag_ (fun A=>ZJ N V I U q hp A) (fun _=>[]) rfl rfl rfl (by kernel_rfl) trivial trivial
def ze (N:List bp) (V:List Int) (U:List aP) (f:List aB) (q:Int):aB:=
 let o:=N.getD q.toNat bD
 let a:=f.getD o.a.toNat ⟨0,0⟩
 let r:=U.any fun r=>r.at_==q
 if (o.op==1)=true then (if r=true then ⟨0,0⟩ else ⟨1,V.getD o.n.toNat 0⟩)
 else if (o.op==3)=true then ⟨(gu a.sort a.n o.d o.a).1,(gu a.sort a.n o.d o.a).2⟩
 else if (o.op==19)=true then ⟨3,o.n⟩ else if (o.op==27)=true then ⟨3,o.n⟩
 else if (o.op==26)=true then (if r=true then ⟨0,0⟩ else ⟨3,o.n⟩)
 else if (o.op==20)=true then ⟨3,8⟩ else if (o.op==21)=true then ⟨3,8⟩ else if (o.op==22)=true then ⟨3,8⟩
 else if (o.op==23)=true then ⟨3,-8⟩ else ⟨0,0⟩
theorem EN (N:List bp) (V:List Int) (U:List aP) (f:List aB) (q:Int) :
 eY N V U f q=if (a7 (N.getD q.toNat bD).op).d=true then (f.map (kr (N.getD q.toNat bD).d)).set (N.getD q.toNat bD).d.toNat (ze N V U f q) else f:=by
 unfold eY ze;dsimp only;generalize N.getD q.toNat bD=o;generalize f.getD o.a.toNat ⟨0,0⟩=a;generalize (U.any fun r=>r.at_==q)=r;generalize f.map (kr o.d)=f3;have ap:∀ (c:Prop) [Decidable c] (x y:aB),f3.set o.d.toNat (if c then x else y)=if c then f3.set o.d.toNat x else f3.set o.d.toNat y:=fun c _ x y=>by split <;> rfl
 simp only[List.set_set,ap]
def EO (s n d a:Int):aB:=if (s==1)=true then ⟨s,n⟩ else if (s==2)=true then (if (n==d)=true then ⟨0,0⟩ else ⟨s,n⟩) else if (a==d)=true then ⟨s,n⟩ else ⟨2,a⟩
theorem UP (s n d a:Int):(⟨(gu s n d a).1,(gu s n d a).2⟩:aB)=EO s n d a:=by
 unfold gu EO;simp only[beq_iff_eq];by_cases h1:s=1
 ·simp[h1]
 ·by_cases h2:s=2
  ·by_cases h3:n=d <;> simp[h2,h3]
  ·by_cases h3:a=d <;> simp[h1,h2,h3]
theorem h80:Q 80=some f80:=by kernel_rfl
theorem aha (q:Int) (b:Bool) (f:List aB) (hp:(LM N V I U)∧0≤q∧q.toNat < N.length∧f.length=8∧(let o:=N.getD q.toNat bD;(0≤o.a∧o.a.toNat < 8)∧(0≤o.d∧o.d.toNat < 8)∧((o.op==1)=true→0≤o.n∧o.n.toNat < V.length))) (A:NP):ak (env 83 624570455466158179058159 D0 [(100,SB)] [] A) hN (9) f80 [(cd N V I U),J q,aC b f]=some (aV (ze N V U f q)):=by
 obtain⟨hl,h0,aR,EB,⟨cv,gV⟩,⟨yJ,rV⟩,hn⟩:=hp;have aw:=aD (d:=bD) aR;have ju:=I7 N V I U q hl.2.2.2;simp only[ze];generalize N.getD q.toNat bD=x at *;have oo:x.a < (8:Int):=by omega
 have cq:=aD (d:=(⟨0,0⟩:aB)) (show x.a.toNat < f.length by omega);have Ka:x.a.toNat < 8:=gV;generalize f.getD x.a.toNat ⟨0,0⟩=a at *;rw[UP];generalize (U.any fun r=>r.at_==q)=r at *;cases h1:(x.op==1)
 ·cases h3:(x.op==3)
  ·cases bU:(x.op==19)
   ·cases e_:(x.op==27)
    ·cases fi:(x.op==26)
     ·cases nH:(x.op==20)
      ·cases rU:(x.op==21)
       ·cases vo:(x.op==22)
        ·cases Sf:(x.op==23)
         ·simp only[aV,h1,h3,bU,e_,fi,nH,rU,vo,Sf,BL];simp only[ak,ai,f80];simp only[go_sem,h1,h3,bU,e_,fi,nH,rU,vo,Sf,ju,aw,h0,aC,aV];try rfl
         ·simp only[aV,h1,h3,bU,e_,fi,nH,rU,vo,Sf,BL];simp only[ak,ai,f80];simp only[go_sem,h1,h3,bU,e_,fi,nH,rU,vo,Sf,ju,aw,h0,aC,aV];try rfl
        ·simp only[aV,h1,h3,bU,e_,fi,nH,rU,vo,BL];simp only[ak,ai,f80];simp only[go_sem,h1,h3,bU,e_,fi,nH,rU,vo,ju,aw,h0,aC,aV];try rfl
       ·simp only[aV,h1,h3,bU,e_,fi,nH,rU,BL];simp only[ak,ai,f80];simp only[go_sem,h1,h3,bU,e_,fi,nH,rU,ju,aw,h0,aC,aV];try rfl
      ·simp only[aV,h1,h3,bU,e_,fi,nH,BL];simp only[ak,ai,f80];simp only[go_sem,h1,h3,bU,e_,fi,nH,ju,aw,h0,aC,aV];try rfl
     ·cases r
      ·simp only[aV,h1,h3,bU,e_,fi,BL];simp only[ak,ai,f80];simp only[go_sem,h1,h3,bU,e_,fi,ju,aw,h0,aC,aV];try rfl
      ·simp only[aV,h1,h3,bU,e_,fi,BL];simp only[ak,ai,f80];simp only[go_sem,h1,h3,bU,e_,fi,ju,aw,h0,aC,aV];try rfl
    ·simp only[aV,h1,h3,bU,e_,BL];simp only[ak,ai,f80];simp only[go_sem,h1,h3,bU,e_,ju,aw,h0,aC,aV];try rfl
   ·simp only[aV,h1,h3,bU,BL];simp only[ak,ai,f80];simp only[go_sem,h1,h3,bU,ju,aw,h0,aC,aV];try rfl
  ·cases k1:(a.sort==1)
   ·cases k2:(a.sort==2)
    ·cases k4:(x.a==x.d)
     ·simp only[EO,aV,h1,h3,k1,k2,k4,BL];simp only[ak,ai,f80];simp only[go_sem,h1,h3,k1,k2,k4,ju,aw,h0,aC,aV,cv,oo,cq,EB,Ka];try rfl
     ·simp only[EO,aV,h1,h3,k1,k2,k4,BL];simp only[ak,ai,f80];simp only[go_sem,h1,h3,k1,k2,k4,ju,aw,h0,aC,aV,cv,oo,cq,EB,Ka];try rfl
    ·cases k3:(a.n==x.d)
     ·simp only[EO,aV,h1,h3,k1,k2,k3,BL];simp only[ak,ai,f80];simp only[go_sem,h1,h3,k1,k2,k3,ju,aw,h0,aC,aV,cv,oo,cq,EB,Ka];try rfl
     ·simp only[EO,aV,h1,h3,k1,k2,k3,BL];simp only[ak,ai,f80];simp only[go_sem,h1,h3,k1,k2,k3,ju,aw,h0,aC,aV,cv,oo,cq,EB,Ka];try rfl
   ·simp only[EO,aV,h1,h3,k1,BL];simp only[ak,ai,f80];simp only[go_sem,h1,h3,k1,ju,aw,h0,aC,aV,cv,oo,cq,EB,Ka];try rfl
 ·cases r
  ·obtain⟨kH,tB⟩:=hn h1;have CI:=aD (d:=(0:Int)) tB;simp only[aV,h1,BL];simp only[ak,ai,f80];simp only[go_sem,h1,ju,aw,h0,aC,aV,kH,CI];try rfl
  ·simp only[aV,h1,BL];simp only[ak,ai,f80];simp only[go_sem,h1,ju,aw,h0,aC,aV];try rfl
noncomputable def c80:=bk (α:=(List bp) × (List Int) × (List ByteArray) × (List aP) × Int × Bool × (List aB)) (fun (N,V,I,U,q,b,f)=>(LM N V I U)∧0≤q∧q.toNat < N.length∧f.length=8∧(let o:=N.getD q.toNat bD;(0≤o.a∧o.a.toNat < 8)∧(0≤o.d∧o.d.toNat < 8)∧((o.op==1)=true→0≤o.n∧o.n.toNat < V.length))) (fun (N,V,I,U,q,b,f)=>[(cd N V I U),J q,aC b f]) (fun (N,V,I,U,q,b,f)=>aV (ze N V U f q))
theorem O2 (q:Int) (b:Bool) (f:List aB) (hp:(LM N V I U)∧0≤q∧q.toNat < N.length∧f.length=8∧(let o:=N.getD q.toNat bD;(0≤o.a∧o.a.toNat < 8)∧(0≤o.d∧o.d.toNat < 8)∧((o.op==1)=true→0≤o.n∧o.n.toNat < V.length))):c80 [(cd N V I U),J q,aC b f]=some (aV (ze N V U f q)):=aJ (fun X Y hp bZ h'=>by
 obtain⟨N,V,I,U,q,b,f⟩:=X;obtain⟨c7,bJ,bL,bK,q',b',f'⟩:=Y;simp only[db,cJ] at h';obtain⟨rfl,rfl,rfl,rfl,rfl,rfl,rfl⟩:=h';rfl) (N,V,I,U,q,b,f) hp
theorem ahb:cI 80 c80:=aE h80 rfl rfl fun (N,V,I,U,q,b,f) hp=>rc h80 (fun A=>aha N V I U q b f hp A) (fun _=>[]) rfl rfl rfl (by kernel_rfl) ⟨O1,trivial⟩ trivial
theorem h49:Q 49=some f49:=by kernel_rfl
def ZK:Nat→Hint:=fun i=>if i=6 then ({ tm:=[5,6,7,9,10],ob:=[5,6,9],fin:=some ([5,6,7,9],[5,6,9]) }:Hint) else { tm:=[],ob:=[] }
theorem EP:ZK 6=({ tm:=[5,6,7,9,10],ob:=[5,6,9],fin:=some ([5,6,7,9],[5,6,9]) }:Hint):=by simp[ZK]
theorem O3 (b:Bool) (d:Int) (f:List aB) (hf:f.length=8) (o6 o9:Abs.Obj) (A:NP) (k:Nat):∀ (m i:Nat) (σ:St),i+m=8→
 σ.cA (ZK 6)=⟨[(5,pb 5 74),(6,pb 6 74),(7,J d),(9,pb 9 71),(10,J i)],[(5,⟨.box 74,true,[aC b (lN d f (i))]⟩),(6,o6),(9,o9)]⟩→
 post (ZK 6) (aG ty (a9 (env 55 35184642623471 D0 [(39,Sa),(80,c80)] [] A) ZK k (sub (f49.body.getD .skip) [1,1,1,1,0,1,0,0])) (ZK 6) (m+1) σ)=some (.exit 0,⟨[(5,pb 5 74),(6,pb 6 74),(7,J d),(9,pb 9 71)],[(5,⟨.box 74,true,[aC b (lN d f (8))]⟩),(6,o6),(9,o9)]⟩):=by
 simp only[f49,sub,Option.getD_some,EP];intro m
 induction m with
 | zero=>
   intro i σ hi hσ;have h1:¬ ((i:Int) < 8):=by omega
   have h8:lN d f i=lN d f 8:=by rw[show i=8 by omega]
   rw[aG,hσ];simp only[go_sem,h1];simp[post,St.fin,aQ,aA,h8]
 | succ m ih=>
   intro i σ hi hσ;have h1:(i:Int) < 8:=by omega
   have aR:i < f.length:=by omega
   have cY:(0:Int)≤(i:Int):=Int.natCast_nonneg i;have hw:IntKind.i64.wrap ((i:Int)+1)=((i+1:Nat):Int):=a_ (by omega);have aw:=rY d f i aR;have fL:=sX d f i aR;have B4:=AP d f i aR;have bH:=cD aV (lN d f i) i ⟨0,0⟩;rw[aG,hσ];generalize f[i]=x at *;simp only[kr] at fL B4;simp only[aV] at bH;cases g1:(x.sort==2) <;> cases g2:(x.n==d)
   all_goals
    rw[g1,g2] at fL B4;simp only[forall_const,BL] at fL B4;simp only[go_sem,Gu,O2,h1,cY,aw,hw,g1,g2,aC,aV,bH];exact ih (i+1) _ (by omega) (by simp only[go_sem,fL,← B4,aC])
theorem ahc (q:Int) (b:Bool) (f:List aB) (hp:(LM N V I U)∧0≤q∧q.toNat < N.length∧f.length=8∧(let o:=N.getD q.toNat bD;(0≤o.a∧o.a.toNat < 8)∧(0≤o.d∧o.d.toNat < 8)∧((o.op==1)=true→0≤o.n∧o.n.toNat < V.length))) (A:NP):ak (env 55 35184642623471 D0 [(39,Sa),(80,c80)] [] A) (ZK) (10) f49 [(cd N V I U),J q,aC b f]=some (aC b (eY N V U f q)):=by
 obtain⟨hl,h0,aR,EB,ha,⟨yJ,rV⟩,hn⟩:=id hp;have aw:=aD (d:=bD) aR;have e80:=O2 N V I U q b f hp;simp only[aC,aV] at e80;rw[EN];generalize ze N V U f q=res at *;clear hp ha hn;generalize N.getD q.toNat bD=x at *;have A0:=Gu x.op x.d x.a x.b x.n;have sZ:x.d < (8:Int):=by omega
 cases hd:(a7 x.op).d
 ·rw[hd] at A0;simp only[BL] at A0 ⊢;simp only[ak,ai,f49];simp only[go_sem,A0,e80,aw,h0,hd,EP,aC];try rfl
 rw[hd] at A0;simp only[BL] at A0 ⊢;have U_:=EA x.d f 8 (by omega);have Zm:lN x.d f 0=f:=rfl;have vH:(f.map (kr x.d))[x.d.toNat]? = some ((f.map (kr x.d)).getD x.d.toNat ⟨0,0⟩):=aD (by simp;omega);have bH:=cD aV (f.map (kr x.d)) x.d.toNat res;simp only[aV] at bH;simp only[ak,ai,f49];simp only[go_sem,A0,e80,aw,h0,hd,EP,aC,aV,EB];have hl:=O3 b x.d f EB ⟨.box 74,true,[.st 74 [.bool false,.ar 72 [zR,zR,zR,zR,zR,zR,zR,zR]]]⟩ ⟨.box 71,true,[.st 71 [J res.sort,J res.n]]⟩ A 10 8 0;simp only[f49,sub,Option.getD_some,EP] at hl;rw[aY (hl _ (by simp) (by simp only[go_sem,Zm,aC,aV])) (by omega)];rw[U_];simp only[go_sem,A0,e80,aw,h0,hd,EP,aC,aV,EB,yJ,sZ,rV,vH,bH];try rfl
noncomputable def c49:=bk (α:=(List bp) × (List Int) × (List ByteArray) × (List aP) × Int × Bool × (List aB)) (fun (N,V,I,U,q,b,f)=>(LM N V I U)∧0≤q∧q.toNat < N.length∧f.length=8∧(let o:=N.getD q.toNat bD;(0≤o.a∧o.a.toNat < 8)∧(0≤o.d∧o.d.toNat < 8)∧((o.op==1)=true→0≤o.n∧o.n.toNat < V.length))) (fun (N,V,I,U,q,b,f)=>[(cd N V I U),J q,aC b f]) (fun (N,V,I,U,q,b,f)=>aC b (eY N V U f q))
theorem ZL (q:Int) (b:Bool) (f:List aB) (hp:(LM N V I U)∧0≤q∧q.toNat < N.length∧f.length=8∧(let o:=N.getD q.toNat bD;(0≤o.a∧o.a.toNat < 8)∧(0≤o.d∧o.d.toNat < 8)∧((o.op==1)=true→0≤o.n∧o.n.toNat < V.length))):c49 [(cd N V I U),J q,aC b f]=some (aC b (eY N V U f q)):=aJ (fun X Y hp bZ h'=>by
 obtain⟨N,V,I,U,q,b,f⟩:=X;obtain⟨c7,bJ,bL,bK,q',b',f'⟩:=Y;simp only[db,cJ] at h';obtain⟨rfl,rfl,rfl,rfl,rfl,rfl,rfl⟩:=h';rfl) (N,V,I,U,q,b,f) hp
theorem ahe:cI 49 c49:=aE h49 rfl rfl fun (N,V,I,U,q,b,f) hp=>rc h49 (fun A=>ahc N V I U q b f hp A) (fun _=>[]) rfl rfl rfl (by kernel_rfl) ⟨Uz,ahb,trivial⟩ trivial
def ER (b:Bool) (f:List aB) (b':Bool) (f':List aB):AV:=if b=true then aC true (js f f') else aC b' f'
theorem h51:Q 51=some f51:=by kernel_rfl
def ZM:Nat→Hint:=fun i=>if i=4 then ({ tm:=[2,3,4,5],ob:=[2,3,4],fin:=some ([2,3,4],[2,3,4]) }:Hint) else { tm:=[],ob:=[] }
theorem ES:ZM 4=({ tm:=[2,3,4,5],ob:=[2,3,4],fin:=some ([2,3,4],[2,3,4]) }:Hint):=by simp[ZM]
theorem O4 (c e:Bool) (b out:List aB) (hb:b.length=8) (ho:out.length=8) (o4:Abs.Obj) (A:NP) (k:Nat):∀ (m i:Nat) (σ:St),i+m=8→
 σ.cA (ZM 4)=⟨[(2,pb 2 74),(3,pb 3 74),(4,pb 4 74),(5,J i)],[(2,⟨.box 74,true,[aC c (jH b out (i))]⟩),(3,⟨.box 74,true,[aC e out]⟩),(4,o4)]⟩→
 post (ZM 4) (aG ty (a9 (env 28 4196671 D0 [] [] A) ZM k (sub (f51.body.getD .skip) [1,1,0,1,0,0])) (ZM 4) (m+1) σ)=some (.exit 0,⟨[(2,pb 2 74),(3,pb 3 74),(4,pb 4 74)],[(2,⟨.box 74,true,[aC c (jH b out (8))]⟩),(3,⟨.box 74,true,[aC e out]⟩),(4,o4)]⟩):=by
 simp only[f51,sub,Option.getD_some,ES];intro m
 induction m with
 | zero=>
   intro i σ hi hσ;have h1:¬ ((i:Int) < 8):=by omega
   have h8:jH b out i=jH b out 8:=by rw[show i=8 by omega]
   rw[aG,hσ];simp only[go_sem,h1];simp[post,St.fin,aQ,aA,h8]
 | succ m ih=>
   intro i σ hi hσ;have h1:(i:Int) < 8:=by omega
   have aR:i < b.length:=by omega
   have yj:i < out.length:=by omega
   have cY:(0:Int)≤(i:Int):=Int.natCast_nonneg i;have hw:IntKind.i64.wrap ((i:Int)+1)=((i+1:Nat):Int):=a_ (by omega);have aw:=r6 b out i aR yj;have B5:out[i]? = some (out[i]'yj):=List.getElem?_eq_getElem yj;have fL:=s6 b out i aR yj;have B4:=AS b out i aR yj;have bH:=cD aV (jH b out i) i z0;rw[aG,hσ];generalize b[i]=x at *;generalize out[i]=y at *;simp only[uV] at fL B4;simp only[z0,aV] at bH;cases hg:(x.sort==y.sort&&x.n==y.n)
   all_goals
    rw[hg] at fL B4;simp only[forall_const,z0,BL] at fL B4;simp only[go_sem,h1,cY,aw,B5,hw,hg,aC,aV,bH];exact ih (i+1) _ (by omega) (by simp only[go_sem,fL,← B4,aC])
theorem ahf (b:Bool) (f:List aB) (e:Bool) (g:List aB) (hp:f.length=8∧g.length=8) (A:NP):ak (env 28 4196671 D0 [] [] A) (ZM) (10) f51 [aC b f,aC e g]=some (ER b f e g):=by
 obtain⟨EB,hg8⟩:=hp;have U_:=EE f g EB hg8 8 (by omega);have Zm:jH f g 0=f:=rfl;unfold ER;cases b
 ·simp only[BL];simp only[ak,ai,f51];simp only[go_sem,aC,ES];try rfl
 simp only[BL];simp only[ak,ai,f51];simp only[go_sem,aC,ES];have hl:=O4 true e f g EB hg8 ⟨.box 74,true,[.st 74 [.bool false,.ar 72 [zR,zR,zR,zR,zR,zR,zR,zR]]]⟩ A 10 8 0;simp only[f51,sub,Option.getD_some,ES] at hl;rw[aY (hl _ (by simp) (by simp only[go_sem,Zm,aC,aV])) (by omega)];rw[U_];simp only[go_sem,aC,ES];try rfl
noncomputable def c51:=bk (α:=Bool × (List aB) × Bool × (List aB)) (fun (b,f,e,g)=>f.length=8∧g.length=8) (fun (b,f,e,g)=>[aC b f,aC e g]) (fun (b,f,e,g)=>ER b f e g)
theorem ZN (b:Bool) (f:List aB) (e:Bool) (g:List aB) (hp:f.length=8∧g.length=8):c51 [aC b f,aC e g]=some (ER b f e g):=aJ (fun X Y hp bZ h'=>by
 obtain⟨b,f,e,g⟩:=X;obtain⟨b',f',e',g'⟩:=Y;simp only[db,cJ] at h';obtain⟨rfl,rfl,rfl,rfl⟩:=h';rfl) (b,f,e,g) hp
theorem ahh:cI 51 c51:=aE h51 rfl rfl fun (b,f,e,g) hp=>rc h51 (fun A=>ahf b f e g hp A) (fun i=>match i with | 6=>[0,0,3,7,0,0,48,112,255] | _=>[]) rfl rfl rfl (by kernel_rfl) trivial trivial
def vt (s:List (List aB) × List Bool):List AV:=List.zipWith aC s.2 s.1
theorem vJ {n:Nat} {s:List (List aB) × List Bool} (h:Shape n s):(vt s).length=n:=by simp[vt,h.1,h.2.1]
theorem Cq {n:Nat} {s:List (List aB) × List Bool} (h:Shape n s) {i:Nat} (hi:i < n):(vt s)[i]? = some (aC (s.2.getD i false) (s.1.getD i [])):=by
 have h1:i < s.1.length:=by rw[h.1];exact hi
 have h2:i < s.2.length:=by rw[h.2.1];exact hi
 simp[vt,List.getElem?_zipWith,List.getElem?_eq_getElem h1,List.getElem?_eq_getElem h2,List.getD]
theorem Cr (s:List (List aB) × List Bool) (i:Nat) (b:Bool) (f:List aB):(vt s).set i (aC b f)=vt (s.1.set i f,s.2.set i b):=by
 apply List.ext_getElem?;intro j;simp only[vt,List.getElem?_set,List.getElem?_zipWith,List.length_zipWith];by_cases hj:i=j
 ·subst hj;by_cases h1:i < s.1.length
  ·by_cases h2:i < s.2.length
   ·have h3:i < min s.2.length s.1.length:=by omega
    simp[h1,h2];omega
   ·have h3:¬ (i < min s.2.length s.1.length):=by omega
    simp[h1,h2];omega
  ·have h3:¬ (i < min s.2.length s.1.length):=by omega
   simp only[h1,h3,ite_true,ite_false,BL];cases s.2[i]? <;> simp
 ·simp[hj]
theorem O5 {n:Nat} {s:List (List aB) × List Bool} (h:Shape n s) (out:List aB) (k:Int) (hk:k.toNat < n) :
 ((vt s).set k.toNat (if s.2.getD k.toNat false=true then aC true (js (s.1.getD k.toNat []) out) else aC true out))=vt (lF out s k):=by
 unfold lF;split
 ·rename_i hr;rw[Cr,r7 s.2 k.toNat true (by rw[aD (d:=false) (by rw[h.2.1];exact hk),hr])]
 ·rw[Cr]
def stZ:AV:= .st 74 [.bool false,.ar 72 [zR,zR,zR,zR,zR,zR,zR,zR]]
theorem Ku (n:Nat) (hn:0 < n):(List.replicate n stZ).set 0 (.st 74 [.bool true,.ar 72 [zR,zR,zR,zR,zR,zR,zR,zR]])=vt (gz n):=by
 have e:List.replicate n stZ=vt (List.replicate n (List.replicate 8 z0),List.replicate n false):=by
  simp only[vt,List.zipWith_replicate,Nat.min_self];rfl
 rw[e,show (.st 74 [.bool true,.ar 72 [zR,zR,zR,zR,zR,zR,zR,zR]]:AV)=aC true (List.replicate 8 z0) from rfl,Cr];congr 1
 refine Prod.ext ?_ rfl;exact r7 _ _ _ (by rw[List.getElem?_replicate,if_pos hn])
theorem yd:Q 29=some f29:=by kernel_rfl
def D29:Nat→Option (List DH × List Nat):=fun i=>match i with | 7=>some ([⟨[5],[],[5]⟩,⟨[5],[],[5]⟩,⟨[5],[],[5]⟩,⟨[5],[],[5]⟩,⟨[5],[],[5]⟩,⟨[5],[],[5]⟩,⟨[5],[],[5]⟩,⟨[],[5],[]⟩,⟨[],[],[]⟩],[5]) | _=>none
theorem A1:D29 7=some ([⟨[5],[],[5]⟩,⟨[5],[],[5]⟩,⟨[5],[],[5]⟩,⟨[5],[],[5]⟩,⟨[5],[],[5]⟩,⟨[5],[],[5]⟩,⟨[5],[],[5]⟩,⟨[],[5],[]⟩,⟨[],[],[]⟩],[5]):=rfl
theorem ta:D29 12=none:=rfl
def Kv:Nat→Hint:=fun i=>if i=4 then ({ tm:=[1,3,4],ob:=[1,11],fin:=some ([1,3],[1,11]) }:Hint) else if i=10 then ({ tm:=[1,3,4,5,6,7],ob:=[1,5,11],fin:=some ([1,3,4],[1,11]) }:Hint) else { tm:=[],ob:=[] }
theorem I8:Kv 4=({ tm:=[1,3,4],ob:=[1,11],fin:=some ([1,3],[1,11]) }:Hint):=by simp[Kv]
theorem Cs:Kv 10=({ tm:=[1,3,4,5,6,7],ob:=[1,5,11],fin:=some ([1,3,4],[1,11]) }:Hint):=by simp[Kv]
theorem Kw (hl:LM N V I U) (q:Int) (out:List aB) (ks:List Int) (vA:ks.length≤2) (yk:∀ q ∈ ks,0≤q∧q.toNat < N.length) (ho:out.length=8) (A:NP) (k:Nat):∀ (m j:Nat) (s:List (List aB) × List Bool) (σ:St),Shape N.length s→j+m=ks.length→
 σ.cA (Kv 10)=⟨[(1,pb 1 27),(3,.own 11 74 0 N.length),(4,J q),(5,pb 5 74),(6,.sl 3 gT (ks.map eI)),(7,J j)],[(1,(bC N V I U)),(5,⟨.box 74,true,[aC true out]⟩),(11,⟨.row 74,true,vt s⟩)]⟩→
 post (Kv 10) (aG ty (a9 (env 60 2199157997823 D29 [(49,c49),(50,Qj),(51,c51)] [] A) Kv k (sub (f29.body.getD .skip) [1,1,1,0,1,0,0,1,0,0,1,1,1,1,0,0])) (Kv 10) (m+1) σ)=some (.exit 2,⟨[(1,pb 1 27),(3,.own 11 74 0 N.length),(4,J q)],[(1,(bC N V I U)),(11,⟨.row 74,true,vt ((ks.drop j).foldl (lF out) s)⟩)]⟩):=by
 simp only[f29,sub,Option.getD_some,Cs];intro m
 induction m with
 | zero=>
   intro j s σ ke hj hσ;have h1:¬ ((j:Int) < (ks.length:Int)):=by omega
   have h8:ks.drop j=[]:=List.drop_of_length_le (by omega);rw[aG,hσ];simp only[go_sem,h1];simp[post,St.fin,aQ,aA,h8]
 | succ m ih=>
   intro j s σ ke hj hσ;have h1:(j:Int) < (ks.length:Int):=by omega
   have aR:j < ks.length:=by omega
   have cY:(0:Int)≤(j:Int):=Int.natCast_nonneg j;have hw:IntKind.i64.wrap ((j:Int)+1)=((j+1:Nat):Int):=a_ (by omega);have EG:ks[j]? = some (ks[j]'aR):=List.getElem?_eq_getElem aR;have hd:ks.drop j=ks[j]'aR::ks.drop (j+1):=List.drop_eq_getElem_cons aR;obtain⟨jB,vp⟩:=yk _ (List.getElem_mem aR);rw[aG,hσ,hd,List.foldl_cons];generalize ks[j]=k1 at *;have yH:k1 < (N.length:Int):=by omega
   have qo:=vJ ke;have o0:=Cq ke vp;have dt:=ke.get vp;have B6:=oq ke ho k1 vp;have fL:=O5 ke out k1 vp;have e51:=ZN (s.2.getD k1.toNat false) (s.1.getD k1.toNat []) true out ⟨dt,ho⟩;simp only[ER] at e51;generalize lF out s k1=s2 at *;generalize s.2.getD k1.toNat false=r at *;generalize s.1.getD k1.toNat []=f at *;cases r;all_goals
    simp only[aC,BL] at e51 fL o0;simp only[go_sem,A1,ta,h1,cY,yH,jB,EG,o0,qo,hw,e51,fL,aC];exact ih (j+1) s2 _ B6 (by omega) (by simp only[go_sem,aC])
theorem O6 (hp:((LM N V I U)∧(LS U))∧aU N V I U=true) (A:NP) (k:Nat) (Zo:100≤k):∀ (m i:Nat) (s:List (List aB) × List Bool) (σ:St),Shape N.length s→i+m=N.length→
 σ.cA (Kv 4)=⟨[(1,pb 1 27),(3,.own 11 74 0 N.length),(4,J i)],[(1,(bC N V I U)),(11,⟨.row 74,true,vt s⟩)]⟩→
 post (Kv 4) (aG ty (a9 (env 60 2199157997823 D29 [(49,c49),(50,Qj),(51,c51)] [] A) Kv k (sub (f29.body.getD .skip) [1,1,1,0,1,0,0])) (Kv 4) (m+1) σ)=some (.exit 0,⟨[(1,pb 1 27),(3,.own 11 74 0 N.length)],[(1,(bC N V I U)),(11,⟨.row 74,true,vt (dT N V U m i s)⟩)]⟩):=by
 simp only[f29,sub,Option.getD_some,I8];have hg:=dQ hp.2;have dO:=hp.1.1;intro m
 induction m with
 | zero=>
   intro i s σ ke hi hσ;have h1:¬ ((i:Int) < (N.length:Int)):=by omega
   rw[aG,hσ];simp only[go_sem,h1];simp[post,St.fin,aQ,aA,dT]
 | succ m ih=>
   intro i s σ ke hi hσ;have h1:(i:Int) < (N.length:Int):=by omega
   have aR:i < N.length:=by omega
   have cY:(0:Int)≤(i:Int):=Int.natCast_nonneg i;have hw:IntKind.i64.wrap ((i:Int)+1)=((i+1:Nat):Int):=a_ (by omega);have qo:=vJ ke;have o0:=Cq ke aR;have dt:=ke.get aR;have gU:=jr (hg.right i aR);have e49:=ZL N V I U i true (s.1.getD i []) ⟨dO,cY,by simpa using aR,dt,gU.a,gU.d,fun h=>fits_int gU.fit h⟩;have UQ:=Oq N V I U i ⟨dO,cY,by simpa using aR⟩;have yE:=rZ hg i aR;rw[aG,hσ];simp only[dT,qc];cases hr:s.2.getD i false
   ·rw[hr] at o0;simp only[aC,BL] at o0 ⊢;simp only[go_sem,A1,ta,h1,cY,o0,qo,hw,aC];exact ih (i+1) _ _ ke (by omega) (by simp only[go_sem])
   ·rw[hr] at o0;simp only[BL];have hbo:=qd (N:=N) (V:=V) (U:=U) (q:=(i:Int)) dt;have vA:(eG N i).length≤2:=by
     unfold eG;dsimp only;split
     ·simp
     split
     ·simp
     split
     ·split <;> simp
     simp
    have yk:∀ q ∈ eG N i,0≤q∧q.toNat < N.length:=fun q hq=>by have:=yE q hq;omega
    generalize eY N V U (s.1.getD i []) i=out at *;generalize eG N i=ks at *;have hl:=Kw N V I U dO i out ks vA yk hbo A k ks.length 0 s;simp only[f29,sub,Option.getD_some,Cs,List.drop_zero] at hl;have hsf:=nn hbo ks _ ke fun q hq=>(yk q hq).2
    simp only[aC] at o0 e49;simp only[go_sem,A1,ta,h1,cY,o0,qo,hw,e49,UQ,Cs,aC];rw[aY (hl _ ke (by simp) (by simp only[go_sem,aC])) (by omega)];simp only[go_sem,A1,ta,h1,cY,o0,qo,hw,e49,UQ,Cs,aC];exact ih (i+1) _ _ hsf (by omega) (by simp only[go_sem])
theorem ahj (hp:((LM N V I U)∧(LS U))∧aU N V I U=true) :∃ r,wk r (.sl 74 gT (vt (bz N V U)))∧∀ A,ak (env 60 2199157997823 D29 [(49,c49),(50,Qj),(51,c51)] [] A) (Kv) (600) f29 [(cd N V I U)]=some r:=by
 have hg:=dQ hp.2;have gq:=hg.pos;have hlen:=hg.len;have AU:(0:Int) < (N.length:Int):=by omega
 have iM:((N.length:Int) * 136≤140737488355328)=True:=by simp;omega
 have fL:=Ku N.length gq;have hgz:(List.replicate N.length stZ)[0]? = some stZ:=by rw[List.getElem?_replicate,if_pos (by omega)]
 have hlz:(List.replicate N.length stZ).length=N.length:=by simp
 have Fa:=fun A=>O6 N V I U hp A 600 (by omega) N.length 0 (gz N.length)
 simp only[f29,sub,Option.getD_some,I8] at Fa;have ke:=np (V:=V) (U:=U) hg;have qo:=vJ ke;simp only[stZ] at fL hgz hlz;apply bu
 ·intro A;simp only[ak,ai,f29];simp only[go_sem,A1,ta,iM,AU,fL,hgz,hlz,qo,I8,nq,List.length_replicate];rw[aY (Fa A _ (GB _) (by simp) (by simp only[go_sem])) (by omega)];rw[show dT N V U N.length 0 (gz N.length)=bz N V U from rfl];simp only[go_sem,A1,ta,iM,AU,fL,hgz,hlz,qo,I8,nq,List.length_replicate];rfl
 ·simp[WK,aS,ax]
noncomputable def c29:=bk (α:=(List bp) × (List Int) × (List ByteArray) × (List aP)) (fun (N,V,I,U)=>((LM N V I U)∧(LS U))∧aU N V I U=true) (fun (N,V,I,U)=>[(cd N V I U)]) (fun (N,V,I,U)=> .sl 74 gT (vt (bz N V U)))
theorem ZO (hp:((LM N V I U)∧(LS U))∧aU N V I U=true):c29 [(cd N V I U)]=some (.sl 74 gT (vt (bz N V U))):=aJ (fun X Y hp bZ h'=>by
 obtain⟨N,V,I,U⟩:=X;obtain⟨c7,bJ,bL,bK⟩:=Y;simp only[db,cJ] at h';obtain⟨rfl,rfl,rfl,rfl⟩:=h';rfl) (N,V,I,U) hp
theorem ahl:cI 29 c29:=aE yd rfl rfl fun (N,V,I,U) hp=>let ⟨_,hw,hr⟩:=ahj N V I U hp;(rc yd hr (fun i=>match i with | 7=>[0,0,0,0,12,28,63,0,255] | 12=>[0,0,0,6,14,0,0,0,192,448,992,2016,0,8160,16383,32767] | _=>[]) rfl rfl rfl (by kernel_rfl) ⟨ahe,UC,ahh,trivial⟩ trivial).eK hw
theorem GM {R:List AV} {m:Nat} (h:m < R.length) (Y:AV):(R.set m Y)[m]? = some Y:=by rw[List.getElem?_set];simp[h]
theorem ZP {R:List AV} {m k:Nat} (h:k ≠ m) (Y:AV):(R.set m Y)[k]? = R[k]?:=by rw[List.getElem?_set];simp[Ne.symm h]
theorem SC:kB 0 = .ar 50 [.bool false,.bool false,.bool false,.bool false,.bool false,.bool false,.bool false,.bool false]:=rfl
theorem kY {al:List Int} {k:Nat} (h:k < al.length):(al.map kB)[k]? = some (.ar 50 (eC fun i=>dz (al.getD k 0) (i:Nat))):=by
 rw[List.getElem?_map,aD (d:=(0:Int)) h];rfl
theorem h30:Q 30=some f30:=by kernel_rfl
def vu:Nat→Hint:=fun i=>if i=3 then ({ tm:=[1,3,4],ob:=[1,15],fin:=some ([1,3],[1,15]) }:Hint) else if i=7 then ({ tm:=[1,3,4,5,6],ob:=[1,15],fin:=some ([1,3,4],[1,15]) }:Hint) else if i=10 then ({ tm:=[1,3,4,5,6,7],ob:=[1,15],fin:=some ([1,3,4,5,6],[1,15]) }:Hint) else if i=18 then ({ tm:=[1,3,4,10,11],ob:=[1,15],fin:=some ([1,3,4],[1,15]) }:Hint) else { tm:=[],ob:=[] }
theorem I9:vu 3=({ tm:=[1,3,4],ob:=[1,15],fin:=some ([1,3],[1,15]) }:Hint):=by simp[vu]
theorem yu:vu 7=({ tm:=[1,3,4,5,6],ob:=[1,15],fin:=some ([1,3,4],[1,15]) }:Hint):=by simp[vu]
theorem Ct:vu 10=({ tm:=[1,3,4,5,6,7],ob:=[1,15],fin:=some ([1,3,4,5,6],[1,15]) }:Hint):=by simp[vu]
theorem ow:vu 18=({ tm:=[1,3,4,10,11],ob:=[1,15],fin:=some ([1,3,4],[1,15]) }:Hint):=by simp[vu]
theorem Kx (v1:AV) (o1:Abs.Obj) (R:List AV) (n m:Nat) (hR:R.length=n) (hm:m < n) (ks:List Int) (j:Nat) (hj:j < ks.length) (q s x:Int) (EG:ks[j]? = some q) (jB:0≤q) (vp:q.toNat < n) (d_:q.toNat ≠ m) (hRk:R[q.toNat]? = some (.ar 50 (eC (fun i=>dz x (i:Nat))))) (A:NP) (k:Nat):∀ (c i:Nat) (σ:St),i+c=8→
 σ.cA (vu 10)=⟨[(1,v1),(3,.own 15 50 0 n),(4,J m),(5,.sl 3 gT (ks.map eI)),(6,J j),(7,J i)],[(1,o1),(15,⟨.row 50,true,R.set m (.ar 50 (eC (qf s x i)))⟩)]⟩→
 post (vu 10) (aG ty (a9 (env 95 9671701704822231006187519 D0 [(39,Sa),(40,Ze),(50,Qj)] [] A) vu k (sub (f30.body.getD .skip) [1,1,0,1,0,0,1,0,0,1,0,1,0,0,1,0,0,1,0,0])) (vu 10) (c+1) σ)=some (.exit 4,⟨[(1,v1),(3,.own 15 50 0 n),(4,J m),(5,.sl 3 gT (ks.map eI)),(6,J j)],[(1,o1),(15,⟨.row 50,true,R.set m (.ar 50 (eC (qf s x 8)))⟩)]⟩):=by
 simp only[f30,sub,Option.getD_some,Ct];intro m'
 induction m' with
 | zero=>
   intro i σ hi hσ;have h1:¬ ((i:Int) < 8):=by omega
   have h8:i=8:=by omega
   subst h8;rw[aG,hσ];simp only[go_sem,h1];simp[post,St.fin,aQ,aA]
 | succ m' ih=>
   intro i σ hi hσ;have h1:(i:Int) < 8:=by omega
   have hi8:i < 8:=by omega
   have cY:(0:Int)≤(i:Int):=Int.natCast_nonneg i;have hnj:(0:Int)≤(j:Int):=Int.natCast_nonneg j;have FD:(0:Int)≤(m:Int):=Int.natCast_nonneg m;have yZ:(m:Int) < (n:Int):=by omega
   have yH:q < (n:Int):=by omega
   have hji:(j:Int) < (ks.length:Int):=by omega
   have hw:IntKind.i64.wrap ((i:Int)+1)=((i+1:Nat):Int):=a_ (by omega);have SD:∀ Y,(R.set m Y)[m]? = some Y:=GM (by omega);have Oc:∀ Y,(R.set m Y)[q.toNat]? = _:=fun Y=>(ZP d_ Y).trans hRk
   have RK:=f_ (qf s x i) hi8;have hg2:=f_ (fun i=>dz x (i:Nat)) hi8;have fL:=OK s x i;have IU:=iW (qf s x i);have hlx:=iW (fun i=>dz x (i:Nat));rw[Zr] at RK;rw[aG,hσ];generalize qf s x i=g at *;obtain⟨g',wg⟩:∃ g',qf s x (i+1)=g':=⟨_,rfl⟩
   rw[wg] at fL;cases ha:dz s i <;> cases hb:dz x i;all_goals
    simp only[ha,hb,BL] at RK hg2 fL;simp only[go_sem,h1,cY,hnj,FD,yZ,yH,hji,jB,EG,SD,Oc,RK,hg2,fL,IU,hlx,hw,hR,List.set_set,ha,hb];exact ih (i+1) _ (by omega) (by simp only[go_sem,wg])
theorem O7 (v1:AV) (o1:Abs.Obj) (al:List Int) (n m:Nat) (hR:al.length=n) (hm:m < n) (hU:∀ a ∈ al,U8 a) (ks:List Int) (vA:ks.length≤2) (yk:∀ q ∈ ks,0≤q∧q.toNat < n∧q.toNat ≠ m) (A:NP) (k:Nat) (Zo:9≤k):∀ (c j:Nat) (s:Int) (σ:St),U8 s→j+c=ks.length→
 σ.cA (vu 7)=⟨[(1,v1),(3,.own 15 50 0 n),(4,J m),(5,.sl 3 gT (ks.map eI)),(6,J j)],[(1,o1),(15,⟨.row 50,true,(al.map kB).set m (.ar 50 (eC (fun i=>dz s (i:Nat))))⟩)]⟩→
 post (vu 7) (aG ty (a9 (env 95 9671701704822231006187519 D0 [(39,Sa),(40,Ze),(50,Qj)] [] A) vu k (sub (f30.body.getD .skip) [1,1,0,1,0,0,1,0,0,1,0,1,0,0])) (vu 7) (c+1) σ)=some (.exit 2,⟨[(1,v1),(3,.own 15 50 0 n),(4,J m)],[(1,o1),(15,⟨.row 50,true,(al.map kB).set m (.ar 50 (eC (fun i=>dz ((ks.drop j).foldl (Qk al) s) (i:Nat))))⟩)]⟩):=by
 simp only[f30,sub,Option.getD_some,yu];intro c
 induction c with
 | zero=>
   intro j s σ hs hj hσ;have h1:¬ ((j:Int) < (ks.length:Int)):=by omega
   have h8:ks.drop j=[]:=List.drop_of_length_le (by omega);rw[aG,hσ];simp only[go_sem,h1];simp[post,St.fin,aQ,aA,h8]
 | succ c ih=>
   intro j s σ hs hj hσ;have h1:(j:Int) < (ks.length:Int):=by omega
   have aR:j < ks.length:=by omega
   have cY:(0:Int)≤(j:Int):=Int.natCast_nonneg j;have hw:IntKind.i64.wrap ((j:Int)+1)=((j+1:Nat):Int):=a_ (by omega);have EG:ks[j]? = some (ks[j]'aR):=List.getElem?_eq_getElem aR;have hd:ks.drop j=ks[j]'aR::ks.drop (j+1):=List.drop_eq_getElem_cons aR;obtain⟨jB,vp,d_⟩:=yk _ (List.getElem_mem aR);rw[aG,hσ,hd,List.foldl_cons];generalize ks[j]=q at *;have hxm:=List.mem_of_getElem? (aD (d:=(0:Int)) (show q.toNat < al.length by omega));have hx:=hU _ hxm;have hl:=Kx v1 o1 (al.map kB) n m (by simpa using hR) hm ks j aR q s (al.getD q.toNat 0) EG jB vp d_ (kY (by omega)) A k 8 0;rw[OL,Si hs hx] at hl;simp only[f30,sub,Option.getD_some,Ct] at hl;simp only[Qk];have Oe:=agi hs hx;generalize bV .or .u8 s (al.getD q.toNat 0)=s2 at *;simp only[go_sem,h1,cY,hw,EG,Ct]
   rw[aY (hl _ (by simp) (by simp only[go_sem])) (by omega)];simp only[go_sem,h1,cY,hw,EG,Ct];exact ih (j+1) s2 _ Oe (by omega) (by simp only[go_sem])
theorem Ky (v1:AV) (o1:Abs.Obj) (R:List AV) (n m:Nat) (hR:R.length=n) (hm:m < n) (ks:List Int) (vA:ks.length≤2) (yk:∀ q ∈ ks,0≤q∧q.toNat < 8) (A:NP) (k:Nat):∀ (c j:Nat) (s:Int) (σ:St),U8 s→j+c=ks.length→
 σ.cA (vu 18)=⟨[(1,v1),(3,.own 15 50 0 n),(4,J m),(10,.sl 3 gT (ks.map eI)),(11,J j)],[(1,o1),(15,⟨.row 50,true,R.set m (.ar 50 (eC (fun i=>dz s (i:Nat))))⟩)]⟩→
 post (vu 18) (aG ty (a9 (env 95 9671701704822231006187519 D0 [(39,Sa),(40,Ze),(50,Qj)] [] A) vu k (sub (f30.body.getD .skip) [1,1,0,1,0,0,1,0,0,1,1,1,1,1,1,0,0])) (vu 18) (c+1) σ)=some (.exit 6,⟨[(1,v1),(3,.own 15 50 0 n),(4,J m)],[(1,o1),(15,⟨.row 50,true,R.set m (.ar 50 (eC (fun i=>dz ((ks.drop j).foldl lA s) (i:Nat))))⟩)]⟩):=by
 simp only[f30,sub,Option.getD_some,ow];intro c
 induction c with
 | zero=>
   intro j s σ hs hj hσ;have h1:¬ ((j:Int) < (ks.length:Int)):=by omega
   have h8:ks.drop j=[]:=List.drop_of_length_le (by omega);rw[aG,hσ];simp only[go_sem,h1];simp[post,St.fin,aQ,aA,h8]
 | succ c ih=>
   intro j s σ hs hj hσ;have h1:(j:Int) < (ks.length:Int):=by omega
   have aR:j < ks.length:=by omega
   have cY:(0:Int)≤(j:Int):=Int.natCast_nonneg j;have FD:(0:Int)≤(m:Int):=Int.natCast_nonneg m;have yZ:(m:Int) < (n:Int):=by omega
   have hw:IntKind.i64.wrap ((j:Int)+1)=((j+1:Nat):Int):=a_ (by omega);have EG:ks[j]? = some (ks[j]'aR):=List.getElem?_eq_getElem aR;have hd:ks.drop j=ks[j]'aR::ks.drop (j+1):=List.drop_eq_getElem_cons aR;have hq:=yk _ (List.getElem_mem aR);rw[aG,hσ,hd,List.foldl_cons];generalize ks[j]=q at *;have jB:=hq.1;have hq8:q < (8:Int):=by omega
   have SD:∀ Y,(R.set m Y)[m]? = some Y:=GM (by omega);have RK:=f_ (fun i=>dz s (i:Nat)) hq.2;have fL:=Ki hs hq;have IU:=iW (fun i=>dz s (i:Nat));have Oe:=OJ hs hq;generalize lA s q=s2 at *;simp only[go_sem,h1,cY,FD,yZ,jB,hq8,EG,SD,RK,fL,IU,hw,hR,List.set_set];exact ih (j+1) s2 _ Oe (by omega) (by simp only[go_sem])
theorem O8 {al:List Int} (hU:∀ a ∈ al,U8 a):∀ {ks:List Int},(∀ q ∈ ks,q.toNat < al.length)→∀ s,U8 s→U8 (ks.foldl (Qk al) s)
 | [],_,s,hs=>hs
 | k::ks,hk,s,hs=>by
   rw[List.foldl_cons];exact O8 hU (fun q hq=>hk q (by simp[hq])) _ (agi hs (hU _ (List.mem_of_getElem? (aD (d:=(0:Int)) (hk k (by simp))))))
theorem I_:∀ {us:List Int},(∀ q ∈ us,0≤q∧q.toNat < 8)→∀ s,U8 s→U8 (us.foldl lA s)
 | [],_,s,hs=>hs
 | k::ks,hk,s,hs=>by
   rw[List.foldl_cons];exact I_ (fun q hq=>hk q (by simp[hq])) _ (OJ hs (hk k (by simp)))
theorem O9 {lo li ls:Nat} {q:Int} {o:bp} (h:Oy lo li ls q o):∀ r ∈ dW o.op o.a o.b,0≤r∧r.toNat < 8:=by
 intro r hr;unfold dW at hr;rcases List.mem_append.1 hr with hr | hr
 ·split at hr
  ·simp at hr;subst hr;exact h.a
  ·simp at hr
 ·split at hr
  ·simp at hr;subst hr;exact h.b
  ·simp at hr
theorem O_ {N:List bp} {li ls:Nat} {al:List Int} (hU:∀ a ∈ al,U8 a) {m:Nat} (h:Oy N.length li ls (m:Nat) (N.getD ((m:Nat):Int).toNat bD)) (hk:∀ q ∈ eG N m,q.toNat < al.length):U8 (yf N m al):=by
 unfold yf;dsimp only;simp only[Int.toNat_natCast] at h;have h0:=O8 hU hk 0 (by unfold U8;omega);refine I_ (O9 h) _ ?_;split
 ·exact AW h0 h.d
 ·exact h0
theorem Pa (hp:((LM N V I U)∧(LS U))∧aU N V I U=true) (A:NP) (k:Nat) (Zo:100≤k):∀ (m:Nat) (al:List Int) (σ:St),al.length=N.length→m≤N.length→(∀ a ∈ al,U8 a)→(∀ i,i < m→al.getD i 0=0)→
 σ.cA (vu 3)=⟨[(1,pb 1 27),(3,.own 15 50 0 N.length),(4,J ((m:Int) - 1))],[(1,(bC N V I U)),(15,⟨.row 50,true,al.map kB⟩)]⟩→
 post (vu 3) (aG ty (a9 (env 95 9671701704822231006187519 D0 [(39,Sa),(40,Ze),(50,Qj)] [] A) vu k (sub (f30.body.getD .skip) [1,1,0,1,0,0])) (vu 3) (m+1) σ)=some (.exit 0,⟨[(1,pb 1 27),(3,.own 15 50 0 N.length)],[(1,(bC N V I U)),(15,⟨.row 50,true,(ku N m al).map kB⟩)]⟩):=by
 simp only[f30,sub,Option.getD_some,I9];have hg:=dQ hp.2;have dO:=hp.1.1;intro m
 induction m with
 | zero=>
   intro al σ sk hm hU hz hσ;have h1:decide ((0:Int)≤ -1)=false:=by decide
   rw[aG,hσ];simp only[go_sem,h1];simp[post,St.fin,aQ,aA,ku]
 | succ m ih=>
   intro al σ sk hm hU hz hσ;have hm1:((m+1:Nat):Int) - 1=(m:Int):=by omega
   rw[hm1] at hσ;have h1:decide ((0:Int)≤(m:Int))=true:=by simp
   have aR:m < N.length:=by omega
   have cY:(0:Int)≤(m:Int):=Int.natCast_nonneg m;have yZ:(m:Int) < (N.length:Int):=by omega
   have hw:IntKind.i64.wrap ((m:Int) - 1)=(m:Int) - 1:=wrap_i64 (by omega) (by omega);have gU:=jr (hg.right m aR);have UQ:=Oq N V I U m ⟨dO,cY,by simpa using aR⟩;have yE:=rZ hg m aR;have B5:=aD (d:=bD) aR;rw[aG,hσ];have hU0:U8 0:=by unfold U8;omega
   have hz0:=hz m (by omega);have hgz:=kY (show m < al.length by omega);rw[hz0] at hgz;have wu:=r7 _ _ _ hgz;have vA:(eG N m).length≤2:=by
    unfold eG;dsimp only;split
    ·simp
    split
    ·simp
    split
    ·split <;> simp
    simp
   have yk:∀ q ∈ eG N m,0≤q∧q.toNat < N.length∧q.toNat ≠ m:=fun q hq=>by have:=yE q hq;omega
   have Oe:=O_ hU gU (fun q hq=>by have:=yk q hq;omega);simp only[ku];have hla:yf N m al=(dW (N.getD m bD).op (N.getD m bD).a (N.getD m bD).b).foldl lA (if (a7 (N.getD m bD).op).d=true then fE ((eG N m).foldl (Qk al) 0) (N.getD m bD).d else (eG N m).foldl (Qk al) 0):=rfl;rw[hla] at Oe ⊢;simp only[Int.toNat_natCast] at gU;have pL:=O8 hU (show ∀ q ∈ eG N m,q.toNat < al.length from fun q hq=>by have:=yk q hq;omega) 0 hU0;generalize N.getD m bD=x at *;have Bm:(dW x.op x.a x.b).length≤2:=by
    unfold dW;split <;> split <;> simp
   have Qf:=O9 gU;have A0:=Gu x.op x.d x.a x.b x.n;have e40:=Zf x.op x.d x.a x.b x.n;generalize eG N m=ks at *;generalize dW x.op x.a x.b=us at *;have hl:=O7 (.ptr 1 (.box 27) []) (bC N V I U) al N.length m sk aR hU ks vA yk A k (by omega) ks.length 0 0;have vg:=fun s=>Ky (.ptr 1 (.box 27) []) (bC N V I U) (al.map kB) N.length m (by simpa using sk) aR us Bm Qf A k us.length 0 s
   simp only[f30,sub,Option.getD_some,yu,ow,List.drop_zero] at hl vg;have vi:∀ v,(List.map kB al).set m (.ar 50 (eC fun i=>dz v (i:Nat)))=List.map kB (al.set m v):=fun v=>cD kB al m v
   simp only[go_sem,h1,cY,yZ,hw,UQ,A0,e40,B5,yu,ow];rw[aY (hl _ hU0 (by simp) (by simp only[go_sem,wu])) (by omega)];simp only[go_sem,h1,cY,yZ,hw,UQ,A0,e40,B5,yu,ow];generalize ks.foldl (Qk al) 0=s0 at *;have as8:∀ v,∀ i,i < m→(al.set m v).getD i 0=0:=fun v i hi=>by
    have:=hz i (by omega);simp only[List.getD,List.getElem?_set] at this ⊢;rw[if_neg (by omega)];exact this
   have hUs:∀ v,U8 v→∀ a ∈ al.set m v,U8 a:=fun v hv a ha=>by
    rcases List.mem_or_eq_of_mem_set ha with h|rfl
    ·exact hU a h
    ·exact hv
   cases hd:(a7 x.op).d
   ·rw[hd] at A0;simp only[hd,BL] at A0 Oe ⊢;simp only[go_sem,h1,cY,yZ,hw,UQ,A0,e40,B5,yu,ow];rw[aY (vg s0 _ pL (by simp) (by simp only[go_sem,wu])) (by omega)];simp only[go_sem,h1,cY,yZ,hw,UQ,A0,e40,B5,yu,ow];exact ih _ _ (by simpa using sk) (by omega) (hUs _ Oe) (as8 _) (by simp only[go_sem,vi])
   ·rw[hd] at A0;simp only[hd,BL] at A0 Oe ⊢;have Qa:=gU.d.1;have hx8:x.d < (8:Int):=by have:=gU.d;omega
    have SD:∀ Y,((List.map kB al).set m Y)[m]? = some Y:=GM (by simp;omega);have RK:=f_ (fun i=>dz s0 (i:Nat)) gU.d.2;have fL:=Ca pL gU.d;have IU:=iW (fun i=>dz s0 (i:Nat));have hUw:=AW pL gU.d;generalize fE s0 x.d=s1 at *;simp only[go_sem,h1,cY,yZ,hw,A0,e40,B5,ow,Qa,hx8,SD,RK,fL,IU,sk,List.set_set];rw[aY (vg s1 _ hUw (by simp) (by simp only[go_sem,wu])) (by omega)];simp only[go_sem,h1,cY,yZ,hw,UQ,A0,e40,B5,yu,ow];exact ih _ _ (by simpa using sk) (by omega) (hUs _ Oe) (as8 _) (by simp only[go_sem,vi])
theorem ahm (hp:((LM N V I U)∧(LS U))∧aU N V I U=true) :∃ r,wk r (.sl 50 gT ((cz N).map kB))∧∀ A,ak (env 95 9671701704822231006187519 D0 [(39,Sa),(40,Ze),(50,Qj)] [] A) (vu) (600) f30 [(cd N V I U)]=some r:=by
 have hg:=dQ hp.2;have gq:=hg.pos;have hlen:=hg.len;have iM:((N.length:Int) * 8≤140737488355328)=True:=by simp;omega
 have lJ:IntKind.i64.wrap ((N.length:Int) - 1)=(N.length:Int) - 1:=wrap_i64 (by omega) (by omega);have ahn:(List.replicate N.length (.ar 50 [.bool false,.bool false,.bool false,.bool false,.bool false,.bool false,.bool false,.bool false]):List AV)=(List.replicate N.length (0:Int)).map kB:=by rw[← SC];simp
 have Oa:=fun A=>Pa N V I U hp A 600 (by omega) N.length (List.replicate N.length 0)
 simp only[f30,sub,Option.getD_some,I9] at Oa;have qo:=jI N;apply bu
 ·intro A;simp only[ak,ai,f30];simp only[go_sem,iM,lJ,ahn,qo,I9,nq];rw[aY (Oa A _ (by simp) (Nat.le_refl _) (fun a ha=>by simp at ha;rw[ha.2];unfold U8;omega) (fun i hi=>by simp[List.getD,hi]) (by simp only[go_sem])) (by omega)];rw[show ku N N.length (List.replicate N.length 0)=cz N from rfl];simp only[go_sem,iM,lJ,ahn,qo,I9,nq];rfl
 ·simp[WK,aS,ax]
noncomputable def c30:=bk (α:=(List bp) × (List Int) × (List ByteArray) × (List aP)) (fun (N,V,I,U)=>((LM N V I U)∧(LS U))∧aU N V I U=true) (fun (N,V,I,U)=>[(cd N V I U)]) (fun (N,V,I,U)=> .sl 50 gT ((cz N).map kB))
theorem ZQ (hp:((LM N V I U)∧(LS U))∧aU N V I U=true):c30 [(cd N V I U)]=some (.sl 50 gT ((cz N).map kB)):=aJ (fun X Y hp bZ h'=>by
 obtain⟨N,V,I,U⟩:=X;obtain⟨c7,bJ,bL,bK⟩:=Y;simp only[cJ] at h';obtain⟨rfl,rfl,rfl,rfl⟩:=h';rfl) (N,V,I,U) hp
theorem aho:cI 30 c30:=aE h30 rfl rfl fun (N,V,I,U) hp=>let ⟨_,hw,hr⟩:=ahm N V I U hp;(rc h30 hr (fun i=>match i with | 12=>[0,0,0,0,0,0,24,120,248,504,1016,1016,1016,7160,15352,1016,32760,131064,262136,524280,3,2097151,4194303] | 20=>[0,0,0,0,12,28,3,127,255] | _=>[]) rfl rfl rfl (by kernel_rfl) ⟨Uz,afM,UC,trivial⟩ trivial).eK hw
end Go.Proofs.Tryz
end
