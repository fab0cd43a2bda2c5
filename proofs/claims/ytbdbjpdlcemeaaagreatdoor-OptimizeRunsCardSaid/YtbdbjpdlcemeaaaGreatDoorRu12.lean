/- A part of a proof. -/
import Derived.Test.YtbdbjpdlcemeaaaGreatDoorRu11
set_option linter.unusedSimpArgs false
set_option linter.unusedVariables false
section
set_option maxHeartbeats 4000000
set_option maxRecDepth 20000
namespace Go.Proofs.Tryz
open Go Go.Abs
variable (N : List bp) (V : List Int) (I : List ByteArray) (U : List aP) (ao : List (List aB)) (aj : List Bool) (au : List Int)
def lE (N:List bp) (V:List Int) (I:List ByteArray) (U:List aP):Bool:=
 if decide ((N.length:Int) < 1)=true then false else if decide (500 < (N.length:Int))=true then false
 else if decide (200 < (V.length:Int))=true then false else if decide (200 < (I.length:Int))=true then false else if decide (500 < (U.length:Int))=true then false
 else if ((N.getD ((N.length:Int) - 1).toNat bD).op==40)=true then
  (if dE (fun i=>jl (I.getD i ⟨#[]⟩)) 0 I.length=true then (if dE (fun i=>hH N V.length I.length i) 0 N.length=true then dE (fun i=>fU N U i) 0 U.length else false) else false)
 else false
theorem Se:aU N V I U=lE N V I U:=by
 unfold aU lE;rw[show ((N.length:Int) - 1).toNat=N.length - 1 by omega];by_cases h0:(N.length:Int) < 1
 ·have e:decide (1≤(N.length:Int))=false:=decide_eq_false (by omega);simp[h0,e]
 ·have e:decide (1≤(N.length:Int))=true:=decide_eq_true (by omega);by_cases h1:500 < (N.length:Int)
  ·have e1:decide ((N.length:Int)≤500)=false:=decide_eq_false (by omega);simp[h0,h1,e1]
  ·have e1:decide ((N.length:Int)≤500)=true:=decide_eq_true (by omega);rw[e,e1];simp only[decide_eq_true_eq,h0,h1,BL];cases hx:((N.getD (N.length - 1) bD).op==40) <;> simp
theorem nH:Q 20=some f20:=by kernel_rfl
def B3:Nat→Hint:=fun i=>if i=5 then ({ tm:=[1,3,4],ob:=[1],fin:=some ([1,3,2],[1]) }:Hint) else if i=10 then ({ tm:=[1,3,5],ob:=[1],fin:=some ([1,3,2],[1]) }:Hint) else if i=17 then ({ tm:=[1,3,8],ob:=[1],fin:=some ([1,3,2],[1]) }:Hint) else { tm:=[],ob:=[] }
theorem lY:B3 5=({ tm:=[1,3,4],ob:=[1],fin:=some ([1,3,2],[1]) }:Hint):=by simp[B3]
theorem jo:B3 10=({ tm:=[1,3,5],ob:=[1],fin:=some ([1,3,2],[1]) }:Hint):=by simp[B3]
theorem jq:B3 17=({ tm:=[1,3,8],ob:=[1],fin:=some ([1,3,2],[1]) }:Hint):=by simp[B3]
theorem Ot (hp:(LM N V I U)∧(∀ s ∈ I,s.size≤9223372036854775807)∧(LS U)) (p:Nat→Bool) (yI:∀ i,i < I.length→p i=jl (I.getD i ⟨#[]⟩)) (A:NP) (k:Nat):∀ (m i:Nat) (σ:St),i+m=I.length→
 σ.cA (B3 5)=⟨[(1,pb 1 27),(3,J N.length),(4,J i)],[(1,(bC N V I U))]⟩→
 post (B3 5) (aG ty (a9 (env 117 84415388770398257493776314862141951 D0 [(41,c41),(42,CG),(43,c43),(44,c44),(45,c45)] [] A) B3 k (sub (f20.body.getD .skip) [1,1,1,0,1,0,0])) (B3 5) (m+1) σ) =
 some (if dE p i m=true then (.exit 0,⟨[(1,pb 1 27),(3,J N.length)],[(1,(bC N V I U))]⟩) else (.ret,⟨[(1,pb 1 27),(3,J N.length),(2,J 150)],[(1,(bC N V I U))]⟩)):=by
 simp only[f20,sub,Option.getD_some,lY];intro m
 induction m with
 | zero=>
   intro i σ hi hσ;have h1:¬ ((i:Int) < ((I.length:Nat):Int)):=by omega
   rw[aG,hσ];simp only[go_sem,h1];simp[post,St.fin,aQ,aA,dE]
 | succ m ih=>
   intro i σ hi hσ;have h1:(i:Int) < ((I.length:Nat):Int):=by omega
   have aR:i < I.length:=by omega
   have hl:=hp.1;have hw:IntKind.i64.wrap ((i:Int)+1)=((i+1:Nat):Int):=a_ (by omega);have aw:=aD (d:=(⟨#[]⟩:ByteArray)) aR;have pM:=yI i aR;have cY:(0:Int)≤(i:Int):=Int.natCast_nonneg i;have e41:=Gw _ (hp.2.1 _ (List.mem_of_getElem? aw));generalize I.getD i ⟨#[]⟩=s at *;rw[← pM] at e41;rw[aG,hσ];cases hq:p i;all_goals
    rw[hq] at e41
    skip
   all_goals
    simp only[go_sem,fV,yc,Gy,GA,h1,cY,aw,hw,e41];simp only[dE,hq,BL];first
    | (simp[post,St.fin,aQ,aA];done)
    | exact ih (i+1) _ (by omega) (by simp only[go_sem])
theorem J7 (hp:(LM N V I U)∧(∀ s ∈ I,s.size≤9223372036854775807)∧(LS U)) (p:Nat→Bool) (yI:∀ i,i < N.length→p i=hH N V.length I.length i) (A:NP) (k:Nat):∀ (m i:Nat) (σ:St),i+m=N.length→
 σ.cA (B3 10)=⟨[(1,pb 1 27),(3,J N.length),(5,J i)],[(1,(bC N V I U))]⟩→
 post (B3 10) (aG ty (a9 (env 117 84415388770398257493776314862141951 D0 [(41,c41),(42,CG),(43,c43),(44,c44),(45,c45)] [] A) B3 k (sub (f20.body.getD .skip) [1,1,1,1,0,1,0,0])) (B3 10) (m+1) σ) =
 some (if dE p i m=true then (.exit 2,⟨[(1,pb 1 27),(3,J N.length)],[(1,(bC N V I U))]⟩) else (.ret,⟨[(1,pb 1 27),(3,J N.length),(2,J 150)],[(1,(bC N V I U))]⟩)):=by
 simp only[f20,sub,Option.getD_some,jo];intro m
 induction m with
 | zero=>
   intro i σ hi hσ;have h1:¬ ((i:Int) < ((N.length:Nat):Int)):=by omega
   rw[aG,hσ];simp only[go_sem,h1];simp[post,St.fin,aQ,aA,dE]
 | succ m ih=>
   intro i σ hi hσ;have h1:(i:Int) < ((N.length:Nat):Int):=by omega
   have aR:i < N.length:=by omega
   have hl:=hp.1;have hw:IntKind.i64.wrap ((i:Int)+1)=((i+1:Nat):Int):=a_ (by omega);have aw:=aD (d:=bD) aR;have pM:=yI i aR;have cY:(0:Int)≤(i:Int):=Int.natCast_nonneg i;have e44:=Gy N V I U i ⟨hl,cY,by simpa using aR⟩;simp only[hH,Int.toNat_natCast] at pM e44;generalize N.getD i bD=x at *;have jv:=fV x.op;have akW:=yc (a7 x.op).d x.d;have akX:=yc (a7 x.op).a x.a;have akY:=yc (a7 x.op).b x.b;generalize mG (a7 x.op).d x.d=r1 at *;generalize mG (a7 x.op).a x.a=r2 at *;generalize mG (a7 x.op).b x.b=r3 at *;generalize ey N.length V.length I.length i x.op x.n=r4 at *;rw[aG,hσ];cases hq:p i;all_goals
    rw[hq] at pM;cases FD:((a7 x.op).name.toList==(⟨#[]⟩:ByteArray).toList)
    all_goals cases r1 <;> cases r2 <;> cases r3 <;> cases r4
    all_goals simp only[FD,BL] at pM
   all_goals first | (simp at pM;done) | skip
   all_goals
    simp only[go_sem,Gw,GA,h1,cY,aw,hw,FD,jv,akW,akX,akY,e44,bw];simp only[dE,hq,BL];first
    | (simp[post,St.fin,aQ,aA];done)
    | exact ih (i+1) _ (by omega) (by simp only[go_sem])
theorem J8 (hp:(LM N V I U)∧(∀ s ∈ I,s.size≤9223372036854775807)∧(LS U)) (p:Nat→Bool) (yI:∀ i,i < U.length→p i=fU N U i) (A:NP) (k:Nat):∀ (m i:Nat) (σ:St),i+m=U.length→
 σ.cA (B3 17)=⟨[(1,pb 1 27),(3,J N.length),(8,J i)],[(1,(bC N V I U))]⟩→
 post (B3 17) (aG ty (a9 (env 117 84415388770398257493776314862141951 D0 [(41,c41),(42,CG),(43,c43),(44,c44),(45,c45)] [] A) B3 k (sub (f20.body.getD .skip) [1,1,1,1,1,0,1,0,0])) (B3 17) (m+1) σ) =
 some (if dE p i m=true then (.exit 4,⟨[(1,pb 1 27),(3,J N.length)],[(1,(bC N V I U))]⟩) else (.ret,⟨[(1,pb 1 27),(3,J N.length),(2,J 150)],[(1,(bC N V I U))]⟩)):=by
 simp only[f20,sub,Option.getD_some,jq];intro m
 induction m with
 | zero=>
   intro i σ hi hσ;have h1:¬ ((i:Int) < ((U.length:Nat):Int)):=by omega
   rw[aG,hσ];simp only[go_sem,h1];simp[post,St.fin,aQ,aA,dE]
 | succ m ih=>
   intro i σ hi hσ;have h1:(i:Int) < ((U.length:Nat):Int):=by omega
   have aR:i < U.length:=by omega
   have hl:=hp.1;have hw:IntKind.i64.wrap ((i:Int)+1)=((i+1:Nat):Int):=a_ (by omega);have pM:=yI i aR;have e45:=GA N V I U i ⟨hl,Int.natCast_nonneg i,by simpa using aR,hp.2.2⟩;rw[← pM] at e45;rw[aG,hσ];cases hq:p i;all_goals
    rw[hq] at e45
    skip
   all_goals
    simp only[go_sem,Gw,fV,yc,Gy,h1,hw,e45];simp only[dE,hq,BL];first
    | (simp[post,St.fin,aQ,aA];done)
    | exact ih (i+1) _ (by omega) (by simp only[go_sem])
theorem af0 (hp:(LM N V I U)∧(∀ s ∈ I,s.size≤9223372036854775807)∧(LS U)) (A:NP):ak (env 117 84415388770398257493776314862141951 D0 [(41,c41),(42,CG),(43,c43),(44,c44),(45,c45)] [] A) (B3) (100010) f20 [(cd N V I U)]=some (J (cy (aU N V I U))):=by
 have hl:=hp.1;have AN:=Ot N V I U hp (fun i=>jl (I.getD i ⟨#[]⟩)) (fun _ _=>rfl) A 100010 I.length 0;have af1:=J7 N V I U hp (fun i=>hH N V.length I.length i) (fun _ _=>rfl) A 100010 N.length 0;have Ok:=J8 N V I U hp (fun i=>fU N U i) (fun _ _=>rfl) A 100010 U.length 0;simp only[f20,sub,Option.getD_some,lY,jo,jq] at AN af1 Ok;have lJ:IntKind.i64.wrap ((N.length:Int) - 1)=(N.length:Int) - 1:=wrap_i64 (by omega) (by omega);rw[Se];cases d0:decide ((N.length:Int) < 1)
 ·cases d1:decide (500 < (N.length:Int))
  ·cases d2:decide (200 < (V.length:Int))
   ·cases d3:decide (200 < (I.length:Int))
    ·cases d4:decide (500 < (U.length:Int))
     ·cases d5:((N.getD ((N.length:Int) - 1).toNat bD).op==40)
      ·have h0:0≤(N.length:Int) - 1:=by simp at d0;omega
       have aw:=aD (d:=bD) (show ((N.length:Int) - 1).toNat < N.length by simp at d0;omega);simp only[lE,cy,d0,d1,d2,d3,d4,d5,BL];simp only[ak,ai,f20];simp only[go_sem,d0,d1,d2,d3,d4,d5,lJ,lY,jo,jq,h0,aw];try rfl
      ·have h0:0≤(N.length:Int) - 1:=by simp at d0;omega
       have aw:=aD (d:=bD) (show ((N.length:Int) - 1).toNat < N.length by simp at d0;omega);simp only[ak,ai,f20];simp only[go_sem,d0,d1,d2,d3,d4,d5,lJ,lY,jo,jq,h0,aw];rw[aY (AN _ (by simp) (by simp only[go_sem])) (by omega)];cases hq5:dE (fun i=>jl (I.getD i ⟨#[]⟩)) 0 I.length
       ·simp only[lE,cy,d0,d1,d2,d3,d4,d5,hq5,BL];simp only[go_sem,d0,d1,d2,d3,d4,d5,lJ,lY,jo,jq,h0,aw];try rfl
       simp only[BL];simp only[go_sem,d0,d1,d2,d3,d4,d5,lJ,lY,jo,jq,h0,aw];rw[aY (af1 _ (by simp) (by simp only[go_sem])) (by omega)];cases af2:dE (fun i=>hH N V.length I.length i) 0 N.length
       ·simp only[lE,cy,d0,d1,d2,d3,d4,d5,hq5,af2,BL];simp only[go_sem,d0,d1,d2,d3,d4,d5,lJ,lY,jo,jq,h0,aw];try rfl
       simp only[BL];simp only[go_sem,d0,d1,d2,d3,d4,d5,lJ,lY,jo,jq,h0,aw];rw[aY (Ok _ (by simp) (by simp only[go_sem])) (by omega)];cases afB:dE (fun i=>fU N U i) 0 U.length;all_goals
        simp only[lE,cy,d0,d1,d2,d3,d4,d5,hq5,af2,afB,BL];simp only[go_sem,d0,d1,d2,d3,d4,d5,lJ,lY,jo,jq,h0,aw];try rfl
     ·simp only[lE,cy,d0,d1,d2,d3,d4,BL];simp only[ak,ai,f20];simp only[go_sem,d0,d1,d2,d3,d4,lJ,lY,jo,jq];try rfl
    ·simp only[lE,cy,d0,d1,d2,d3,BL];simp only[ak,ai,f20];simp only[go_sem,d0,d1,d2,d3,lJ,lY,jo,jq];try rfl
   ·simp only[lE,cy,d0,d1,d2,BL];simp only[ak,ai,f20];simp only[go_sem,d0,d1,d2,lJ,lY,jo,jq];try rfl
  ·simp only[lE,cy,d0,d1,BL];simp only[ak,ai,f20];simp only[go_sem,d0,d1,lJ,lY,jo,jq];try rfl
 ·simp only[lE,cy,d0,BL];simp only[ak,ai,f20];simp only[go_sem,d0,lJ,lY,jo,jq];try rfl
noncomputable def c20:=bk (α:=(List bp) × (List Int) × (List ByteArray) × (List aP)) (fun (N,V,I,U)=>(LM N V I U)∧(∀ s ∈ I,s.size≤9223372036854775807)∧(LS U)) (fun (N,V,I,U)=>[(cd N V I U)]) (fun (N,V,I,U)=>J (cy (aU N V I U)))
theorem nk (hp:(LM N V I U)∧(∀ s ∈ I,s.size≤9223372036854775807)∧(LS U)):c20 [(cd N V I U)]=some (J (cy (aU N V I U))):=aJ (fun X Y hp bZ h'=>by
 obtain⟨N,V,I,U⟩:=X;obtain⟨c7,bJ,bL,bK⟩:=Y;simp only[cJ] at h';obtain⟨rfl,rfl,rfl,rfl⟩:=h';rfl) (N,V,I,U) hp
theorem UD:cI 20 c20:=aE nH rfl rfl fun (N,V,I,U) hp=>rc nH (fun A=>af0 N V I U hp A) (fun _=>[]) rfl rfl rfl (by kernel_rfl) ⟨afR,uT,afO,afW,afZ,trivial⟩ trivial
theorem h9:Q 9=some f9:=by kernel_rfl
theorem ak0 (A:NP):ak (env 25 7 D0 [] [] A) hN (5) f9 [(cd N V I U)]=some (.bool (decide (N.length≤60)&&(decide (V.length≤60)&&(decide (I.length≤60)&&decide (U.length≤60))))):=by
 have c:∀ n:Nat,decide (n≤60)=decide ((n:Int)≤60):=fun n=>decide_eq_decide.2 (by omega)
 rw[c,c,c,c];cases h1:decide ((N.length:Int)≤60) <;> cases h2:decide ((V.length:Int)≤60) <;> cases h3:decide ((I.length:Int)≤60) <;> cases h4:decide ((U.length:Int)≤60);all_goals
  simp only[ak,ai,f9];simp only[go_sem,h1,h2,h3,h4];try rfl
noncomputable def c9:=bk (α:=(List bp) × (List Int) × (List ByteArray) × (List aP)) (fun _=>True) (fun (N,V,I,U)=>[(cd N V I U)]) (fun (N,V,I,U)=> .bool (decide (N.length≤60)&&(decide (V.length≤60)&&(decide (I.length≤60)&&decide (U.length≤60)))))
theorem af3:c9 [(cd N V I U)]=some (.bool (decide (N.length≤60)&&(decide (V.length≤60)&&(decide (I.length≤60)&&decide (U.length≤60))))):=aJ (fun X Y hp bZ h'=>by
 obtain⟨N,V,I,U⟩:=X;obtain⟨c7,bJ,bL,bK⟩:=Y;simp only[cJ] at h';obtain⟨rfl,rfl,rfl,rfl⟩:=h';rfl) (N,V,I,U) trivial
theorem ak1:cI 9 c9:=aE h9 rfl rfl fun (N,V,I,U) _=>rc h9 (fun A=>ak0 N V I U A) (fun _=>[]) rfl rfl rfl (by kernel_rfl) trivial trivial
def Ez (x y:bp):Bool:=x.op==y.op&&(x.d==y.d&&(x.a==y.a&&(x.b==y.b&&x.n==y.n)))
def uU (x y:aP):Bool:=x.kind==y.kind&&(x.at_==y.at_&&((x.str.toList==y.str.toList)&&(x.mem.toList==y.mem.toList)))
def mH (c c':aL):Bool:=
 if (c.ops.length==c'.ops.length&&(c.ints.length==c'.ints.length&&(c.strs.length==c'.strs.length&&c.U.length==c'.U.length)))=true then
  (if dE (fun i=>Ez (c.ops.getD i bD) (c'.ops.getD i bD)) 0 c.ops.length=true then (if dE (fun i=>c.ints.getD i 0==c'.ints.getD i 0) 0 c.ints.length=true then
    (if dE (fun i=>(c.strs.getD i ⟨#[]⟩).toList==(c'.strs.getD i ⟨#[]⟩).toList) 0 c.strs.length=true then dE (fun i=>uU (c.U.getD i ⟨0,0,⟨#[]⟩,⟨#[]⟩⟩) (c'.U.getD i ⟨0,0,⟨#[]⟩,⟨#[]⟩⟩)) 0 c.U.length else false) else false) else false)
 else false
theorem ij:Q 13=some f13:=by kernel_rfl
def vq:Nat→Hint:=fun i=>if i=4 then ({ tm:=[2,3,5],ob:=[2,3],fin:=some ([2,3,4],[2,3]) }:Hint) else if i=9 then ({ tm:=[2,3,6],ob:=[2,3],fin:=some ([2,3,4],[2,3]) }:Hint) else if i=14 then ({ tm:=[2,3,7],ob:=[2,3],fin:=some ([2,3,4],[2,3]) }:Hint) else if i=19 then ({ tm:=[2,3,8],ob:=[2,3],fin:=some ([2,3,4],[2,3]) }:Hint) else { tm:=[],ob:=[] }
theorem j_:vq 4=({ tm:=[2,3,5],ob:=[2,3],fin:=some ([2,3,4],[2,3]) }:Hint):=by simp[vq]
theorem ka:vq 9=({ tm:=[2,3,6],ob:=[2,3],fin:=some ([2,3,4],[2,3]) }:Hint):=by simp[vq]
theorem gx:vq 14=({ tm:=[2,3,7],ob:=[2,3],fin:=some ([2,3,4],[2,3]) }:Hint):=by simp[vq]
theorem gy:vq 19=({ tm:=[2,3,8],ob:=[2,3],fin:=some ([2,3,4],[2,3]) }:Hint):=by simp[vq]
theorem Ou (c z:aL) (hl:(LM c.ops c.ints c.strs c.U)∧(LM z.ops z.ints z.strs z.U)) (he:c.ops.length=z.ops.length) (p:Nat→Bool) (yI:∀ i,i < c.ops.length→p i=Ez (c.ops.getD i bD) (z.ops.getD i bD)) (A:NP) (k:Nat):∀ (m i:Nat) (σ:St),i+m=c.ops.length→
 σ.cA (vq 4)=⟨[(2,pb 2 27),(3,pb 3 27),(5,J i)],[(2,(bC c.ops c.ints c.strs c.U)),(3,(bC z.ops z.ints z.strs z.U))]⟩→
 post (vq 4) (aG ty (a9 (env 115 20771801973475957295638050519384575 D0 [] [] A) vq k (sub (f13.body.getD .skip) [1,1,0,1,0,0])) (vq 4) (m+1) σ) =
 some (if dE p i m=true then (.exit 0,⟨[(2,pb 2 27),(3,pb 3 27)],[(2,(bC c.ops c.ints c.strs c.U)),(3,(bC z.ops z.ints z.strs z.U))]⟩) else (.ret,⟨[(2,pb 2 27),(3,pb 3 27),(4,.bool false)],[(2,(bC c.ops c.ints c.strs c.U)),(3,(bC z.ops z.ints z.strs z.U))]⟩)):=by
 simp only[f13,sub,Option.getD_some,j_];intro m
 induction m with
 | zero=>
   intro i σ hi hσ;have h1:¬ ((i:Int) < ((c.ops.length:Nat):Int)):=by omega
   rw[aG,hσ];simp only[go_sem,h1];simp[post,St.fin,aQ,aA,dE]
 | succ m ih=>
   intro i σ hi hσ;have h1:(i:Int) < ((c.ops.length:Nat):Int):=by omega
   have aR:i < c.ops.length:=by omega
   obtain⟨⟨l1,l2,l3,l4⟩,_⟩:=hl;have hw:IntKind.i64.wrap ((i:Int)+1)=((i+1:Nat):Int):=a_ (by omega);have cY:(0:Int)≤(i:Int):=Int.natCast_nonneg i;have aw:=aD (d:=bD) aR;have dh:=aD (d:=bD) (show i < z.ops.length by omega);have pM:=yI i aR;generalize c.ops.getD i bD=x at *;generalize z.ops.getD i bD=y at *;try simp only[Ez,uU] at pM
   rw[aG,hσ];cases hq:p i;all_goals
    rw[hq] at pM;have Zj:=pM.symm
    skip
   all_goals
    simp only[go_sem,h1,cY,aw,dh,hw,Zj,hq];simp only[dE,hq,BL];first
    | (simp[post,St.fin,aQ,aA];done)
    | exact ih (i+1) _ (by omega) (by simp only[go_sem])
theorem Ov (c z:aL) (hl:(LM c.ops c.ints c.strs c.U)∧(LM z.ops z.ints z.strs z.U)) (he:c.ints.length=z.ints.length) (p:Nat→Bool) (yI:∀ i,i < c.ints.length→p i=(c.ints.getD i 0==z.ints.getD i 0)) (A:NP) (k:Nat):∀ (m i:Nat) (σ:St),i+m=c.ints.length→
 σ.cA (vq 9)=⟨[(2,pb 2 27),(3,pb 3 27),(6,J i)],[(2,(bC c.ops c.ints c.strs c.U)),(3,(bC z.ops z.ints z.strs z.U))]⟩→
 post (vq 9) (aG ty (a9 (env 115 20771801973475957295638050519384575 D0 [] [] A) vq k (sub (f13.body.getD .skip) [1,1,1,0,1,0,0])) (vq 9) (m+1) σ) =
 some (if dE p i m=true then (.exit 2,⟨[(2,pb 2 27),(3,pb 3 27)],[(2,(bC c.ops c.ints c.strs c.U)),(3,(bC z.ops z.ints z.strs z.U))]⟩) else (.ret,⟨[(2,pb 2 27),(3,pb 3 27),(4,.bool false)],[(2,(bC c.ops c.ints c.strs c.U)),(3,(bC z.ops z.ints z.strs z.U))]⟩)):=by
 simp only[f13,sub,Option.getD_some,ka];intro m
 induction m with
 | zero=>
   intro i σ hi hσ;have h1:¬ ((i:Int) < ((c.ints.length:Nat):Int)):=by omega
   rw[aG,hσ];simp only[go_sem,h1];simp[post,St.fin,aQ,aA,dE]
 | succ m ih=>
   intro i σ hi hσ;have h1:(i:Int) < ((c.ints.length:Nat):Int):=by omega
   have aR:i < c.ints.length:=by omega
   obtain⟨⟨l1,l2,l3,l4⟩,_⟩:=hl;have hw:IntKind.i64.wrap ((i:Int)+1)=((i+1:Nat):Int):=a_ (by omega);have cY:(0:Int)≤(i:Int):=Int.natCast_nonneg i;have aw:=aD (d:=(0:Int)) aR;have dh:=aD (d:=(0:Int)) (show i < z.ints.length by omega);have pM:=yI i aR;generalize c.ints.getD i (0:Int)=x at *;generalize z.ints.getD i (0:Int)=y at *;try simp only[Ez,uU] at pM
   rw[aG,hσ];cases hq:p i;all_goals
    rw[hq] at pM;have Zj:=pM.symm
    skip
   all_goals
    simp only[go_sem,h1,cY,aw,dh,hw,Zj,hq];simp only[dE,hq,BL];first
    | (simp[post,St.fin,aQ,aA];done)
    | exact ih (i+1) _ (by omega) (by simp only[go_sem])
theorem J9 (c z:aL) (hl:(LM c.ops c.ints c.strs c.U)∧(LM z.ops z.ints z.strs z.U)) (he:c.strs.length=z.strs.length) (p:Nat→Bool) (yI:∀ i,i < c.strs.length→p i=((c.strs.getD i ⟨#[]⟩).toList==(z.strs.getD i ⟨#[]⟩).toList)) (A:NP) (k:Nat):∀ (m i:Nat) (σ:St),i+m=c.strs.length→
 σ.cA (vq 14)=⟨[(2,pb 2 27),(3,pb 3 27),(7,J i)],[(2,(bC c.ops c.ints c.strs c.U)),(3,(bC z.ops z.ints z.strs z.U))]⟩→
 post (vq 14) (aG ty (a9 (env 115 20771801973475957295638050519384575 D0 [] [] A) vq k (sub (f13.body.getD .skip) [1,1,1,1,0,1,0,0])) (vq 14) (m+1) σ) =
 some (if dE p i m=true then (.exit 4,⟨[(2,pb 2 27),(3,pb 3 27)],[(2,(bC c.ops c.ints c.strs c.U)),(3,(bC z.ops z.ints z.strs z.U))]⟩) else (.ret,⟨[(2,pb 2 27),(3,pb 3 27),(4,.bool false)],[(2,(bC c.ops c.ints c.strs c.U)),(3,(bC z.ops z.ints z.strs z.U))]⟩)):=by
 simp only[f13,sub,Option.getD_some,gx];intro m
 induction m with
 | zero=>
   intro i σ hi hσ;have h1:¬ ((i:Int) < ((c.strs.length:Nat):Int)):=by omega
   rw[aG,hσ];simp only[go_sem,h1];simp[post,St.fin,aQ,aA,dE]
 | succ m ih=>
   intro i σ hi hσ;have h1:(i:Int) < ((c.strs.length:Nat):Int):=by omega
   have aR:i < c.strs.length:=by omega
   obtain⟨⟨l1,l2,l3,l4⟩,_⟩:=hl;have hw:IntKind.i64.wrap ((i:Int)+1)=((i+1:Nat):Int):=a_ (by omega);have cY:(0:Int)≤(i:Int):=Int.natCast_nonneg i;have aw:=aD (d:=(⟨#[]⟩:ByteArray)) aR;have dh:=aD (d:=(⟨#[]⟩:ByteArray)) (show i < z.strs.length by omega);have pM:=yI i aR;generalize c.strs.getD i (⟨#[]⟩:ByteArray)=x at *;generalize z.strs.getD i (⟨#[]⟩:ByteArray)=y at *;try simp only[Ez,uU] at pM
   rw[aG,hσ];cases hq:p i;all_goals
    rw[hq] at pM;have Zj:=pM.symm
    skip
   all_goals
    simp only[go_sem,h1,cY,aw,dh,hw,Zj,hq];simp only[dE,hq,BL];first
    | (simp[post,St.fin,aQ,aA];done)
    | exact ih (i+1) _ (by omega) (by simp only[go_sem])
theorem J_ (c z:aL) (hl:(LM c.ops c.ints c.strs c.U)∧(LM z.ops z.ints z.strs z.U)) (he:c.U.length=z.U.length) (p:Nat→Bool) (yI:∀ i,i < c.U.length→p i=uU (c.U.getD i ⟨0,0,⟨#[]⟩,⟨#[]⟩⟩) (z.U.getD i ⟨0,0,⟨#[]⟩,⟨#[]⟩⟩)) (A:NP) (k:Nat):∀ (m i:Nat) (σ:St),i+m=c.U.length→
 σ.cA (vq 19)=⟨[(2,pb 2 27),(3,pb 3 27),(8,J i)],[(2,(bC c.ops c.ints c.strs c.U)),(3,(bC z.ops z.ints z.strs z.U))]⟩→
 post (vq 19) (aG ty (a9 (env 115 20771801973475957295638050519384575 D0 [] [] A) vq k (sub (f13.body.getD .skip) [1,1,1,1,1,0,1,0,0])) (vq 19) (m+1) σ) =
 some (if dE p i m=true then (.exit 6,⟨[(2,pb 2 27),(3,pb 3 27)],[(2,(bC c.ops c.ints c.strs c.U)),(3,(bC z.ops z.ints z.strs z.U))]⟩) else (.ret,⟨[(2,pb 2 27),(3,pb 3 27),(4,.bool false)],[(2,(bC c.ops c.ints c.strs c.U)),(3,(bC z.ops z.ints z.strs z.U))]⟩)):=by
 simp only[f13,sub,Option.getD_some,gy];intro m
 induction m with
 | zero=>
   intro i σ hi hσ;have h1:¬ ((i:Int) < ((c.U.length:Nat):Int)):=by omega
   rw[aG,hσ];simp only[go_sem,h1];simp[post,St.fin,aQ,aA,dE]
 | succ m ih=>
   intro i σ hi hσ;have h1:(i:Int) < ((c.U.length:Nat):Int):=by omega
   have aR:i < c.U.length:=by omega
   obtain⟨⟨l1,l2,l3,l4⟩,_⟩:=hl;have hw:IntKind.i64.wrap ((i:Int)+1)=((i+1:Nat):Int):=a_ (by omega);have cY:(0:Int)≤(i:Int):=Int.natCast_nonneg i;have aw:=aD (d:=(⟨0,0,⟨#[]⟩,⟨#[]⟩⟩:aP)) aR;have dh:=aD (d:=(⟨0,0,⟨#[]⟩,⟨#[]⟩⟩:aP)) (show i < z.U.length by omega);have pM:=yI i aR;generalize c.U.getD i (⟨0,0,⟨#[]⟩,⟨#[]⟩⟩:aP)=x at *;generalize z.U.getD i (⟨0,0,⟨#[]⟩,⟨#[]⟩⟩:aP)=y at *;try simp only[Ez,uU] at pM
   rw[aG,hσ];cases hq:p i;all_goals
    rw[hq] at pM;have Zj:=pM.symm
    skip
   all_goals
    simp only[go_sem,h1,cY,aw,dh,hw,Zj,hq];simp only[dE,hq,BL];first
    | (simp[post,St.fin,aQ,aA];done)
    | exact ih (i+1) _ (by omega) (by simp only[go_sem])
theorem af4 (c z:aL) (hp:(LM c.ops c.ints c.strs c.U)∧(LM z.ops z.ints z.strs z.U)) (A:NP):ak (env 115 20771801973475957295638050519384575 D0 [] [] A) (vq) (100010) f13 [(cd c.ops c.ints c.strs c.U),(cd z.ops z.ints z.strs z.U)]=some (.bool (mH c z)):=by
 obtain⟨⟨l1,l2,l3,l4⟩,_⟩:=id hp;have cc:∀ a b:Nat,(a==b)=((a:Int)==(b:Int)):=fun a b=>by
  rw[Bool.eq_iff_iff];simp only[beq_iff_eq];omega
 cases d1:((c.ops.length:Int)==(z.ops.length:Int))
 ·simp only[mH,cc,d1,BL];simp only[ak,ai,f13];simp only[go_sem,d1,j_,ka,gx,gy];try rfl
 ·cases d2:((c.ints.length:Int)==(z.ints.length:Int))
  ·simp only[mH,cc,d1,d2,BL];simp only[ak,ai,f13];simp only[go_sem,d1,d2,j_,ka,gx,gy];try rfl
  ·cases d3:((c.strs.length:Int)==(z.strs.length:Int))
   ·simp only[mH,cc,d1,d2,d3,BL];simp only[ak,ai,f13];simp only[go_sem,d1,d2,d3,j_,ka,gx,gy];try rfl
   ·cases d4:((c.U.length:Int)==(z.U.length:Int))
    ·simp only[mH,cc,d1,d2,d3,d4,BL];simp only[ak,ai,f13];simp only[go_sem,d1,d2,d3,d4,j_,ka,gx,gy];try rfl
    ·have q1:c.ops.length=z.ops.length:=by simp only[beq_iff_eq] at d1;omega
     have q2:c.ints.length=z.ints.length:=by simp only[beq_iff_eq] at d2;omega
     have q3:c.strs.length=z.strs.length:=by simp only[beq_iff_eq] at d3;omega
     have q4:c.U.length=z.U.length:=by simp only[beq_iff_eq] at d4;omega
     simp only[ak,ai,f13];simp only[go_sem,d1,d2,d3,d4,j_,ka,gx,gy];have Fa:=Ou c z hp (by omega) (fun i=>Ez (c.ops.getD i bD) (z.ops.getD i bD)) (fun _ _=>rfl) A 100010 c.ops.length 0;simp only[f13,sub,Option.getD_some,j_,ka,gx,gy] at Fa;rw[aY (Fa _ (by simp) (by simp only[go_sem])) (by omega)];cases CH:dE (fun i=>Ez (c.ops.getD i bD) (z.ops.getD i bD)) 0 c.ops.length
     ·simp only[mH,cc,d1,d2,d3,d4,CH,BL];simp only[go_sem,d1,d2,d3,d4,j_,ka,gx,gy];try rfl
     simp only[BL];simp only[go_sem,d1,d2,d3,d4,j_,ka,gx,gy];have hl9:=Ov c z hp (by omega) (fun i=>c.ints.getD i 0==z.ints.getD i 0) (fun _ _=>rfl) A 100010 c.ints.length 0;simp only[f13,sub,Option.getD_some,j_,ka,gx,gy] at hl9;rw[aY (hl9 _ (by simp) (by simp only[go_sem])) (by omega)];cases hq9:dE (fun i=>c.ints.getD i 0==z.ints.getD i 0) 0 c.ints.length
     ·simp only[mH,cc,d1,d2,d3,d4,CH,hq9,BL];simp only[go_sem,d1,d2,d3,d4,j_,ka,gx,gy];try rfl
     simp only[BL];simp only[go_sem,d1,d2,d3,d4,j_,ka,gx,gy];have af5:=J9 c z hp (by omega) (fun i=>(c.strs.getD i ⟨#[]⟩).toList==(z.strs.getD i ⟨#[]⟩).toList) (fun _ _=>rfl) A 100010 c.strs.length 0;simp only[f13,sub,Option.getD_some,j_,ka,gx,gy] at af5;rw[aY (af5 _ (by simp) (by simp only[go_sem])) (by omega)];cases af6:dE (fun i=>(c.strs.getD i ⟨#[]⟩).toList==(z.strs.getD i ⟨#[]⟩).toList) 0 c.strs.length
     ·simp only[mH,cc,d1,d2,d3,d4,CH,hq9,af6,BL];simp only[go_sem,d1,d2,d3,d4,j_,ka,gx,gy];try rfl
     simp only[BL];simp only[go_sem,d1,d2,d3,d4,j_,ka,gx,gy];have af7:=J_ c z hp (by omega) (fun i=>uU (c.U.getD i ⟨0,0,⟨#[]⟩,⟨#[]⟩⟩) (z.U.getD i ⟨0,0,⟨#[]⟩,⟨#[]⟩⟩)) (fun _ _=>rfl) A 100010 c.U.length 0;simp only[f13,sub,Option.getD_some,j_,ka,gx,gy] at af7;rw[aY (af7 _ (by simp) (by simp only[go_sem])) (by omega)];cases ak3:dE (fun i=>uU (c.U.getD i ⟨0,0,⟨#[]⟩,⟨#[]⟩⟩) (z.U.getD i ⟨0,0,⟨#[]⟩,⟨#[]⟩⟩)) 0 c.U.length;all_goals
      simp only[mH,cc,d1,d2,d3,d4,CH,hq9,af6,ak3,BL];simp only[go_sem,d1,d2,d3,d4,j_,ka,gx,gy];try rfl
noncomputable def c13:=bk (α:=aL × aL) (fun (c,z)=>(LM c.ops c.ints c.strs c.U)∧(LM z.ops z.ints z.strs z.U)) (fun (c,z)=>[(cd c.ops c.ints c.strs c.U),(cd z.ops z.ints z.strs z.U)]) (fun (c,z)=> .bool (mH c z))
theorem Ow (c z:aL) (hp:(LM c.ops c.ints c.strs c.U)∧(LM z.ops z.ints z.strs z.U)):c13 [(cd c.ops c.ints c.strs c.U),(cd z.ops z.ints z.strs z.U)]=some (.bool (mH c z)):=aJ (fun X Y hp bZ h'=>by
 obtain⟨c,z⟩:=X;obtain⟨c',z'⟩:=Y;simp only[cJ] at h';obtain⟨vj,P_,hi3,hi4,hi5,hi6,hi7,hi8⟩:=h';try dsimp only at hp bZ ⊢
 obtain rfl:c=c':=by cases c;cases c';simp only[aL.mk.injEq];exact⟨vj,P_,hi3,hi4⟩
 obtain rfl:z=z':=by cases z;cases z';simp only[aL.mk.injEq];exact⟨hi5,hi6,hi7,hi8⟩
 rfl) (c,z) hp
theorem af9:cI 13 c13:=aE ij rfl rfl fun (c,z) hp=>rc ij (fun A=>af4 c z hp A) (fun i=>match i with | 6=>[0,1,0,7,15,0,32,0,224,480,1023] | 11=>[0,1,0,7,15,0,32,0,224,480,1023] | 16=>[0,1,0,7,15,0,32,0,224,480,1023] | 21=>[0,1,0,7,15,0,32,0,224,480,1023] | _=>[]) rfl rfl rfl (by kernel_rfl) trivial trivial
end Go.Proofs.Tryz
end
