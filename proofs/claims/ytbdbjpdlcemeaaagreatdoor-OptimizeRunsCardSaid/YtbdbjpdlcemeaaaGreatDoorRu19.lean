/- A part of a proof. -/
import Derived.Test.YtbdbjpdlcemeaaaGreatDoorRu09
import Derived.Test.YtbdbjpdlcemeaaaGreatDoorRu15
import Derived.Test.YtbdbjpdlcemeaaaGreatDoorRu16
import Derived.Test.YtbdbjpdlcemeaaaGreatDoorRu18
set_option linter.unusedSimpArgs false
set_option linter.unusedVariables false
section
set_option maxHeartbeats 4000000
set_option maxRecDepth 20000
namespace Go.Proofs.Tryz
open Go Go.Abs
variable (N : List bp) (V : List Int) (I : List ByteArray) (U : List aP) (ao : List (List aB)) (aj : List Bool) (au : List Int)
def uZ (N:List bp) (V:List Int) (I:List ByteArray) (U:List aP) (q:Int):aL × Bool:=
 let o:=N.getD q.toNat bD
 if (!(gl o.op) || decide ((N.length:Int)≤q+1))=true then eN
 else (cf N V I U q,!(dz ((cz N).getD (q+1).toNat 0) o.d) || (o.op==3&&o.d==o.a))
theorem h67:Q 67=some f67:=by kernel_rfl
theorem ahZ (q:Int) (hp:((LM N V I U)∧0≤q∧(∀ o ∈ N,bM o.n)∧∀ r ∈ U,bM r.at_)∧q.toNat < N.length∧(((LM N V I U)∧(LS U))∧aU N V I U=true)) :∃ r,wk r (aT (uZ N V I U q))∧∀ A,ak (env 51 4194423 D0 [(104,aaI),(30,c30),(69,c69)] [] A) hN (5) f67 [(cd N V I U),J q]=some r:=by
 obtain⟨Gj,aR,hp3,oV⟩:=hp;obtain⟨hl,h0,_,_⟩:=id Gj;have aO:q < (N.length:Int):=by omega
 have aw:=aD (d:=bD) aR;have fj:IntKind.i64.wrap (q+1)=q+1:=wrap_i64 (by omega) (by omega);have jB:(0:Int)≤q+1:=by omega
 have Fe:=GX N V I U q Gj;have e30:=ZQ N V I U ⟨hp3,oV⟩;have gU:=jr ((dQ oV).right _ aR);rw[Int.toNat_natCast] at gU;obtain⟨yJ,rV⟩:=gU.d;unfold uZ;dsimp only;generalize cf N V I U q=rm at *;simp only[ax] at Fe;generalize N.getD q.toNat bD=x at *;have KG:=SP x.op x.d x.a x.b x.n;cases K_:gl x.op
 ·simp only[K_,BL];apply bu
  ·intro A;simp only[ak,ai,f67];simp only[go_sem,K_,KG,aw,h0,aO,fj];try rfl
  ·simp[WK,aT,ax,eN]
 ·cases pR:decide ((N.length:Int)≤q+1)
  ·cases hv:dz ((cz N).getD (q+1).toNat 0) x.d
   ·have vg:(q+1).toNat < (cz N).length:=by rw[jI];simp only[decide_eq_false_iff_not] at pR;omega
    have Rl:=kY vg;have vH:=f_ (fun i=>dz ((cz N).getD (q+1).toNat 0) (i:Nat)) rV;have e:((x.d.toNat:Nat):Int)=x.d:=by omega
    simp only[e,hv] at vH;simp only[K_,pR,hv,BL];apply bu
    ·intro A;simp only[ak,ai,f67];simp only[go_sem,K_,pR,hv,KG,e30,Fe,ax,aw,h0,aO,fj,jB,Rl,vH,yJ];try rfl
    ·simp[WK,aT,ax,eN]
   ·cases h3:(x.op==3)
    ·have vg:(q+1).toNat < (cz N).length:=by rw[jI];simp only[decide_eq_false_iff_not] at pR;omega
     have Rl:=kY vg;have vH:=f_ (fun i=>dz ((cz N).getD (q+1).toNat 0) (i:Nat)) rV;have e:((x.d.toNat:Nat):Int)=x.d:=by omega
     simp only[e,hv] at vH;simp only[K_,pR,hv,h3,BL];apply bu
     ·intro A;simp only[ak,ai,f67];simp only[go_sem,K_,pR,hv,h3,KG,e30,Fe,ax,aw,h0,aO,fj,jB,Rl,vH,yJ];try rfl
     ·simp[WK,aT,ax,eN]
    ·cases hda:(x.d==x.a)
     ·have vg:(q+1).toNat < (cz N).length:=by rw[jI];simp only[decide_eq_false_iff_not] at pR;omega
      have Rl:=kY vg;have vH:=f_ (fun i=>dz ((cz N).getD (q+1).toNat 0) (i:Nat)) rV;have e:((x.d.toNat:Nat):Int)=x.d:=by omega
      simp only[e,hv] at vH;simp only[K_,pR,hv,h3,hda,BL];apply bu
      ·intro A;simp only[ak,ai,f67];simp only[go_sem,K_,pR,hv,h3,hda,KG,e30,Fe,ax,aw,h0,aO,fj,jB,Rl,vH,yJ];try rfl
      ·simp[WK,aT,ax,eN]
     ·have vg:(q+1).toNat < (cz N).length:=by rw[jI];simp only[decide_eq_false_iff_not] at pR;omega
      have Rl:=kY vg;have vH:=f_ (fun i=>dz ((cz N).getD (q+1).toNat 0) (i:Nat)) rV;have e:((x.d.toNat:Nat):Int)=x.d:=by omega
      simp only[e,hv] at vH;simp only[K_,pR,hv,h3,hda,BL];apply bu
      ·intro A;simp only[ak,ai,f67];simp only[go_sem,K_,pR,hv,h3,hda,KG,e30,Fe,ax,aw,h0,aO,fj,jB,Rl,vH,yJ];try rfl
      ·simp[WK,aT,ax,eN]
  ·simp only[K_,pR,BL];apply bu
   ·intro A;simp only[ak,ai,f67];simp only[go_sem,K_,pR,KG,aw,h0,aO,fj];try rfl
   ·simp[WK,aT,ax,eN]
noncomputable def c67:=bk (α:=(List bp) × (List Int) × (List ByteArray) × (List aP) × Int) (fun (N,V,I,U,q)=>((LM N V I U)∧0≤q∧(∀ o ∈ N,bM o.n)∧∀ r ∈ U,bM r.at_)∧q.toNat < N.length∧(((LM N V I U)∧(LS U))∧aU N V I U=true)) (fun (N,V,I,U,q)=>[(cd N V I U),J q]) (fun (N,V,I,U,q)=>aT (uZ N V I U q))
theorem aaX (q:Int) (hp:((LM N V I U)∧0≤q∧(∀ o ∈ N,bM o.n)∧∀ r ∈ U,bM r.at_)∧q.toNat < N.length∧(((LM N V I U)∧(LS U))∧aU N V I U=true)):c67 [(cd N V I U),J q]=some (aT (uZ N V I U q)):=aJ (fun X Y hp bZ h'=>by
 obtain⟨N,V,I,U,q⟩:=X;obtain⟨c7,bJ,bL,bK,q'⟩:=Y;simp only[cJ] at h';obtain⟨rfl,rfl,rfl,rfl,rfl⟩:=h';rfl) (N,V,I,U,q) hp
theorem ah0:cI 67 c67:=aE h67 rfl rfl fun (N,V,I,U,q) hp=>let ⟨_,hw,hr⟩:=ahZ N V I U q hp;(rc h67 hr (fun i=>match i with | 4=>[0,1,0,4,0,16,15,127,255,511,1023,2047,4095,8191,16383,32767,65535,32767,163839,524287,1048575,2097151,4194303] | _=>[]) rfl rfl rfl (by kernel_rfl) ⟨aaJ,aho,Ps,trivial⟩ trivial).eK hw
theorem h98:Q 98=some f98:=by kernel_rfl
def H98:Nat→Hint:=fun i=>if i=2 then ({ tm:=[1,2,3,7],ob:=[3],fin:=some ([1,2,3,6],[3]) }:Hint) else { tm:=[],ob:=[] }
theorem Jk:H98 2=({ tm:=[1,2,3,7],ob:=[3],fin:=some ([1,2,3,6],[3]) }:Hint):=by simp[H98]
theorem Pt (p j:Int) (hp:N.length≤100000) (A:NP) (k:Nat):∀ (m i:Nat) (σ:St),i+m=N.length→
 σ.cA (H98 2)=⟨[(1,J p),(2,J j),(3,pb 3 27),(7,J i)],[(3,(bC N V I U))]⟩→
 post (H98 2) (aG ty (a9 (env 33 4294971599 D0 [] [] A) H98 k (sub (f98.body.getD .skip) [1,0,1,0,0])) (H98 2) (m+1) σ)=some (if ((N.drop i).any fun o=>o.op==p&&o.n==j)=true then (.ret,⟨[(1,J p),(2,J j),(3,pb 3 27),(6,.bool true)],[(3,(bC N V I U))]⟩) else (.exit 0,⟨[(1,J p),(2,J j),(3,pb 3 27)],[(3,(bC N V I U))]⟩)):=by
 simp only[f98,sub,Option.getD_some,Jk];intro m
 induction m with
 | zero=>
   intro i σ hi hσ;have h1:¬ ((i:Int) < ((N.length:Nat):Int)):=by omega
   have h8:N.drop i=[]:=List.drop_of_length_le (by omega);rw[aG,hσ];simp only[go_sem,h1];simp[post,St.fin,aQ,aA,h8]
 | succ m ih=>
   intro i σ hi hσ;have h1:(i:Int) < ((N.length:Nat):Int):=by omega
   have aR:i < N.length:=by omega
   have cY:(0:Int)≤(i:Int):=Int.natCast_nonneg i;have hw:IntKind.i64.wrap ((i:Int)+1)=((i+1:Nat):Int):=a_ (by omega);have aw:=aD (d:=bD) aR;have hd:N.drop i=N[i]'aR::N.drop (i+1):=List.drop_eq_getElem_cons aR;rw[show N.getD i bD=N[i]'aR by simp[List.getD,List.getElem?_eq_getElem aR]] at aw;rw[aG,hσ];rw[hd,List.any_cons];generalize N[i]=x at *;cases hv:(x.op==p) <;> cases Qn:(x.n==j)
   all_goals
    simp only[go_sem,h1,cY,hw,aw,hv,Qn];try simp only[BL]
    first
    | (simp[post,St.fin,aQ,aA];done)
    | exact ih (i+1) _ (by omega) (by simp only[go_sem])
theorem ah1 (p j:Int) (hp:N.length≤100000) (A:NP):ak (env 33 4294971599 D0 [] [] A) (H98) (100010) f98 [(cd N V I U),J p,J j]=some (.bool (N.any fun o=>o.op==p&&o.n==j)):=by
 have hl:=Pt N V I U p j hp A 100010 N.length 0;simp only[f98,sub,Option.getD_some,Jk,List.drop_zero] at hl;simp only[ak,ai,f98];simp only[go_sem,Jk];rw[aY (hl _ (by simp) (by simp only[go_sem])) (by omega)];cases h:(N.any fun o=>o.op==p&&o.n==j)
 all_goals
  simp only[BL];simp only[go_sem,Jk];try rfl
noncomputable def c98:=bk (α:=(List bp) × (List Int) × (List ByteArray) × (List aP) × Int × Int) (fun (N,V,I,U,p,j)=>N.length≤100000) (fun (N,V,I,U,p,j)=>[(cd N V I U),J p,J j]) (fun (N,V,I,U,p,j)=> .bool (N.any fun o=>o.op==p&&o.n==j))
theorem aaZ (p j:Int) (hp:N.length≤100000):c98 [(cd N V I U),J p,J j]=some (.bool (N.any fun o=>o.op==p&&o.n==j)):=aJ (fun X Y hp bZ h'=>by
 obtain⟨N,V,I,U,p,j⟩:=X;obtain⟨c7,bJ,bL,bK,p',j'⟩:=Y;simp only[cJ] at h';obtain⟨rfl,rfl,rfl,rfl,rfl,rfl⟩:=h';rfl) (N,V,I,U,p,j) hp
theorem ah3:cI 98 c98:=aE h98 rfl rfl fun (N,V,I,U,p,j) hp=>rc h98 (fun A=>ah1 N V I U p j hp A) (fun _=>[]) rfl rfl rfl (by kernel_rfl) trivial trivial
theorem h99:Q 99=some f99:=by kernel_rfl
def H99:Nat→Hint:=fun i=>if i=3 then ({ tm:=[1,2,3,8,9,10],ob:=[8,9,3012000,3012001,3012002,3012003],fin:=some ([8,9],[8,9,3012000,3012001,3012002,3012003]) }:Hint) else { tm:=[],ob:=[] }
theorem Jl:H99 3=({ tm:=[1,2,3,8,9,10],ob:=[8,9,3012000,3012001,3012002,3012003],fin:=some ([8,9],[8,9,3012000,3012001,3012002,3012003]) }:Hint):=by simp[H99]
theorem Pu (p j t:Int) (hp:(LM N V I U)∧(∀ o ∈ N,bM o.n)∧0≤j∧t≤j) (A:NP) (k:Nat):∀ (m i:Nat) (σ:St),i+m=N.length→
 σ.cA (H99 3)=⟨[(1,J p),(2,J j),(3,J t),(8,pb 8 27),(9,pb 9 27),(10,J i)],[(8,⟨.box 27,true,[n4]⟩),(9,⟨.box 27,true,[.st 27 [.own 3012000 80 0 N.length,.own 3012001 2 0 V.length,.own 3012002 9 0 I.length,.own 3012003 90 0 U.length]]⟩),(3012000,⟨.row 80,false,(rowAt (fg p j t) N i).map dD⟩),(3012001,⟨.row 2,false,V.map eI⟩),(3012002,⟨.row 9,false,I.map eS⟩),(3012003,⟨.row 90,false,U.map b_⟩)]⟩→
 post (H99 3) (aG ty (a9 (env 60 562984447510303 D0 [] [(10,SU)] A) H99 k (sub (f99.body.getD .skip) [1,1,0,1,0,0])) (H99 3) (m+1) σ)=some (.exit 0,⟨[(8,pb 8 27),(9,pb 9 27)],[(8,⟨.box 27,true,[n4]⟩),(9,⟨.box 27,true,[.st 27 [.own 3012000 80 0 N.length,.own 3012001 2 0 V.length,.own 3012002 9 0 I.length,.own 3012003 90 0 U.length]]⟩),(3012000,⟨.row 80,false,(N.map (fg p j t)).map dD⟩),(3012001,⟨.row 2,false,V.map eI⟩),(3012002,⟨.row 9,false,I.map eS⟩),(3012003,⟨.row 90,false,U.map b_⟩)]⟩):=by
 simp only[f99,sub,Option.getD_some,Jl];intro m
 induction m with
 | zero=>
   intro i σ hi hσ;have h1:¬ ((i:Int) < ((N.length:Nat):Int)):=by omega
   have hlen:=gL (fg p j t) N i;have dO:=hp.1;rw[aG,hσ];simp only[go_sem,h1,hlen];simp[post,St.fin,aQ,aA,oM (fg p j t) N i (by omega)]
 | succ m ih=>
   intro i σ hi hσ;have h1:(i:Int) < ((N.length:Nat):Int):=by omega
   have aR:i < N.length:=by omega
   have cY:(0:Int)≤(i:Int):=Int.natCast_nonneg i;have hw:IntKind.i64.wrap ((i:Int)+1)=((i+1:Nat):Int):=a_ (by have:=hp.1;omega);have dO:=hp.1;have aw:=mE (fg p j t) N i aR;have hlen:=gL (fg p j t) N i;have Jm:=gL (fg p j t) N (i+1);have hr0:=hp.2.1 _ (List.getElem_mem aR);have Uw:=lB (fg p j t) N i aR;have vi:=ng (fg p j t) N i aR;have bH:=cD dD (rowAt (fg p j t) N i) i ((fg p j t) N[i]);have dh:(rowAt (fg p j t) N (i+1))[i]? = some ((fg p j t) N[i]):=by rw[← Uw,List.getElem?_set];simp[hlen,aR]
   rw[Uw] at bH;rw[aG,hσ];generalize N[i]=x at *;have hj0:=hp.2.2.1;have htj:=hp.2.2.2;have hnt:¬ (j < t):=by omega
   cases hv:(x.op==p)
   ·have hs:=vi (by simp only[fg,hv,BL]);simp only[go_sem,h1,cY,hw,aw,hlen,Jm,hv];exact ih (i+1) _ (by omega) (by rw[← hs];simp only[go_sem])
   cases Qn:(x.n==j)
   rotate_left
   ·have hg:fg p j t x=⟨x.op,x.d,x.a,x.b,t⟩:=by simp only[fg,hv,Qn,BL]
    rw[hg] at bH dh;simp only[dD] at bH;simp only[go_sem,h1,cY,hw,aw,hlen,Jm,hv,Qn,bH,dh,hnt];exact ih (i+1) _ (by omega) (by simp only[go_sem])
   by_cases hv3:j < x.n
   ·have hg:fg p j t x=⟨x.op,x.d,x.a,x.b,x.n - 1⟩:=by simp only[fg,hv,Qn,hv3,BL]
    have p_:IntKind.i64.wrap (x.n - 1)=x.n - 1:=by unfold bM at hr0;exact wrap_i64 (by omega) (by omega)
    rw[hg] at bH dh;simp only[dD] at bH;simp only[go_sem,h1,cY,hw,aw,hlen,Jm,hv,Qn,hv3,bH,dh,p_];exact ih (i+1) _ (by omega) (by simp only[go_sem])
   ·have hs:=vi (by simp only[fg,hv,Qn,hv3,BL]);simp only[go_sem,h1,cY,hw,aw,hlen,Jm,hv,Qn,hv3];exact ih (i+1) _ (by omega) (by rw[← hs];simp only[go_sem])
theorem ah4 (p j t:Int) (hp:(LM N V I U)∧(∀ o ∈ N,bM o.n)∧0≤j∧t≤j) :∃ r,wk r (ax ⟨N.map (fg p j t),V,I,U⟩)∧∀ A,ak (env 60 562984447510303 D0 [] [(10,SU)] A) (H99) (100010) f99 [(cd N V I U),J p,J j,J t]=some r:=by
 have qp:=tb N V I U hp.1;have dO:=hp.1;have hz:=gw (fg p j t) N;have hl:=fun A=>Pu N V I U p j t hp A 100010 N.length 0
 simp only[f99,sub,Option.getD_some,Jl] at hl;apply bu
 ·intro A;simp only[ak,ai,f99];simp only[go_sem,Jl,qp];rw[aY (hl A _ (by simp) (by simp only[go_sem,hz])) (by omega)];simp only[go_sem,Jl,qp];try rfl
 ·simp[WK,ax]
noncomputable def c99:=bk (α:=(List bp) × (List Int) × (List ByteArray) × (List aP) × Int × Int × Int) (fun (N,V,I,U,p,j,t)=>(LM N V I U)∧(∀ o ∈ N,bM o.n)∧0≤j∧t≤j) (fun (N,V,I,U,p,j,t)=>[(cd N V I U),J p,J j,J t]) (fun (N,V,I,U,p,j,t)=>ax ⟨N.map (fg p j t),V,I,U⟩)
theorem Pv (p j t:Int) (hp:(LM N V I U)∧(∀ o ∈ N,bM o.n)∧0≤j∧t≤j):c99 [(cd N V I U),J p,J j,J t]=some (ax ⟨N.map (fg p j t),V,I,U⟩):=aJ (fun X Y hp bZ h'=>by
 obtain⟨N,V,I,U,p,j,t⟩:=X;obtain⟨c7,bJ,bL,bK,p',j',t'⟩:=Y;simp only[cJ] at h';obtain⟨rfl,rfl,rfl,rfl,rfl,rfl,rfl⟩:=h';rfl) (N,V,I,U,p,j,t) hp
theorem ah6:cI 99 c99:=aE h99 rfl rfl fun (N,V,I,U,p,j,t) hp=>let ⟨_,hw,hr⟩:=ah4 N V I U p j t hp;(rc h99 hr (fun _=>[]) rfl rfl rfl (by kernel_rfl) trivial ⟨A2,trivial⟩).eK hw
def kQ (p:Nat→Bool):Nat→Int→Int
 | 0,t=>t
 | n+1,t=>kQ p n (if p n=true then (n:Int) else t)
theorem CD (p:Nat→Bool):∀ (n:Nat) (t:Int),(kQ p n t=t∨(0≤kQ p n t∧kQ p n t < n))
 | 0,t=> .inl rfl
 | n+1,t=>by
   unfold kQ;rcases CD p n (if p n=true then (n:Int) else t) with h | h
   ·rw[h];split
    ·exact .inr ⟨by omega,by omega⟩
    ·exact .inl rfl
   ·exact .inr ⟨h.1,by omega⟩
def UT (I:List ByteArray) (v:ByteArray) (k:Nat):Bool:=(I.getD k ⟨#[]⟩).toList==v.toList
def pN (N:List bp) (V:List Int) (I:List ByteArray) (U:List aP) (q:Int):aL × Bool:=
 if (decide (0≤q)&&decide (q < (V.length:Int)))=true then
  let t:=kQ (oZ N V U (V.getD q.toNat 0)) q.toNat (-1)
  if ((N.any fun o=>o.op==1&&o.n==q)&&(decide (t < 0) || U.any (fixF N q)))=true then eN
  else (⟨N.map (fg 1 q t),V.eraseIdx q.toNat,I,U⟩,true)
 else
  let n:=IntKind.i64.wrap (q - V.length)
  if (decide (n < 0) || decide ((I.length:Int)≤n))=true then eN
  else
   let t:=kQ (UT I (I.getD n.toNat ⟨#[]⟩)) n.toNat (-1)
   if ((N.any fun o=>o.op==2&&o.n==n)&&decide (t < 0))=true then eN
   else (⟨N.map (fg 2 n t),V,I.eraseIdx n.toNat,U⟩,true)
theorem Pw {α:Type} {l:List α} {q:Nat} (h:q < l.length):(l.eraseIdx q).length=q+(l.length - (q+1)):=by rw[List.length_eraseIdx_of_lt h];omega
theorem Px {α β:Type} (f:α→β) (l:List α) (q:Nat):(l.take q).map f++(l.drop (q+1)).map f=(l.eraseIdx q).map f:=by rw[List.eraseIdx_eq_take_drop_succ,List.map_append]
theorem h64:Q 64=some f64:=by kernel_rfl
def D64:Nat→Option (List DH × List Nat):=fun i=>match i with | 12=>some ([⟨[],[],[69]⟩,⟨[],[],[69]⟩,⟨[],[],[69]⟩,⟨[],[],[69]⟩,⟨[],[],[69]⟩,⟨[],[69,8],[]⟩,⟨[8,69],[],[69]⟩,⟨[8,69],[],[69]⟩,⟨[8,69],[],[69]⟩,⟨[8,69],[],[69]⟩,⟨[8,69],[],[69]⟩,⟨[],[],[]⟩,⟨[],[],[]⟩,⟨[],[],[]⟩],[69]) | 27=>some ([⟨[],[],[129]⟩,⟨[],[],[129]⟩,⟨[],[],[129]⟩,⟨[],[],[129]⟩,⟨[],[],[129]⟩,⟨[],[129,13],[]⟩,⟨[13,129],[],[129]⟩,⟨[13,129],[],[129]⟩,⟨[13,129],[],[129]⟩,⟨[13,129],[],[129]⟩,⟨[13,129],[],[129]⟩,⟨[],[],[]⟩,⟨[],[],[]⟩,⟨[],[],[]⟩],[129]) | _=>none
theorem dF:D64 12=some ([⟨[],[],[69]⟩,⟨[],[],[69]⟩,⟨[],[],[69]⟩,⟨[],[],[69]⟩,⟨[],[],[69]⟩,⟨[],[69,8],[]⟩,⟨[8,69],[],[69]⟩,⟨[8,69],[],[69]⟩,⟨[8,69],[],[69]⟩,⟨[8,69],[],[69]⟩,⟨[8,69],[],[69]⟩,⟨[],[],[]⟩,⟨[],[],[]⟩,⟨[],[],[]⟩],[69]):=rfl
theorem dG:D64 27=some ([⟨[],[],[129]⟩,⟨[],[],[129]⟩,⟨[],[],[129]⟩,⟨[],[],[129]⟩,⟨[],[],[129]⟩,⟨[],[129,13],[]⟩,⟨[13,129],[],[129]⟩,⟨[13,129],[],[129]⟩,⟨[13,129],[],[129]⟩,⟨[13,129],[],[129]⟩,⟨[13,129],[],[129]⟩,⟨[],[],[]⟩,⟨[],[],[]⟩,⟨[],[],[]⟩],[129]):=rfl
theorem fN:D64 6=none:=rfl
theorem dH:D64 21=none:=rfl
def KH:Nat→Hint:=fun i=>if i=4 then ({ tm:=[1,2,4,5,6],ob:=[2,4],fin:=some ([1,2,4,5],[2,4]) }:Hint) else if i=19 then ({ tm:=[1,2,4,9,10,11],ob:=[2,4],fin:=some ([2,4,9,10],[2,4]) }:Hint) else { tm:=[],ob:=[] }
theorem fO:KH 4=({ tm:=[1,2,4,5,6],ob:=[2,4],fin:=some ([1,2,4,5],[2,4]) }:Hint):=by simp[KH]
theorem dI:KH 19=({ tm:=[1,2,4,9,10,11],ob:=[2,4],fin:=some ([2,4,9,10],[2,4]) }:Hint):=by simp[KH]
theorem Py (q:Int) (hp:(LM N V I U)∧(∀ o ∈ N,bM o.n)∧∀ r ∈ U,0≤r.at_∧r.at_.toNat < N.length) (h0:0≤q) (hq:q.toNat < V.length) (A:NP) (k:Nat):∀ (m:Nat) (t:Int) (σ:St),m≤q.toNat→
 σ.cA (KH 4)=⟨[(1,J q),(2,pb 2 27),(4,pb 4 87),(5,J t),(6,J ((m:Int) - 1))],[(2,(bC N V I U)),(4,⟨.box 87,true,[.st 87 [n4,.bool false]]⟩)]⟩→
 post (KH 4) (aG ty (a9 (env 139 333605236568947861091546236431908855 D64 [(97,c97),(98,c98),(99,c99)] [] A) KH k (sub (f64.body.getD .skip) [1,0,1,0,1,0,1,0,0])) (KH 4) (m+1) σ)=some (.exit 0,⟨[(1,J q),(2,pb 2 27),(4,pb 4 87),(5,J (kQ (oZ N V U (V.getD q.toNat 0)) m t))],[(2,(bC N V I U)),(4,⟨.box 87,true,[.st 87 [n4,.bool false]]⟩)]⟩):=by
 simp only[f64,sub,Option.getD_some,fO];intro m
 induction m with
 | zero=>
   intro t σ hi hσ;have h1:¬ ((0:Int)≤((0:Nat):Int) - 1):=by omega
   rw[aG,hσ];simp only[go_sem,h1];simp[post,St.fin,aQ,aA,kQ]
 | succ m ih=>
   intro t σ hi hσ;have e1:((m+1:Nat):Int) - 1=(m:Int):=by omega
   have cY:(0:Int)≤(m:Int):=Int.natCast_nonneg m;have hw:IntKind.i64.wrap ((m:Int) - 1)=(m:Int) - 1:=wrap_i64 (by omega) (by omega);have dO:=hp.1;have SD:=aD (d:=(0:Int)) (show m < V.length by omega);have Oc:=aD (d:=(0:Int)) hq;have K9:=GS N V I U m ⟨dO.2.2.2,hp.2.2⟩;have hep:oZ N V U (V.getD q.toNat 0) m=(V.getD m 0==V.getD q.toNat 0&& !(U.any (fixF N m))):=rfl;rw[aG,hσ];rw[kQ];rw[hep];generalize V.getD m 0=x at *;generalize V.getD q.toNat 0=v at *;generalize U.any (fixF N m)=fx at *;cases hv:(x==v) <;> cases fx;all_goals
    simp only[BL];simp only[go_sem,fN,dF,dH,dG,e1,cY,hw,SD,Oc,h0,K9,hv];exact ih _ _ (by omega) (by simp only[go_sem])
theorem KI (v1:AV) (n:Int) (hl:LM N V I U) (h0:0≤n) (hq:n.toNat < I.length) (A:NP) (k:Nat):∀ (m:Nat) (t:Int) (σ:St),m≤n.toNat→
 σ.cA (KH 19)=⟨[(1,v1),(2,pb 2 27),(4,pb 4 87),(9,J n),(10,J t),(11,J ((m:Int) - 1))],[(2,(bC N V I U)),(4,⟨.box 87,true,[.st 87 [n4,.bool false]]⟩)]⟩→
 post (KH 19) (aG ty (a9 (env 139 333605236568947861091546236431908855 D64 [(97,c97),(98,c98),(99,c99)] [] A) KH k (sub (f64.body.getD .skip) [1,1,1,1,1,0,1,0,0])) (KH 19) (m+1) σ)=some (.exit 2,⟨[(2,pb 2 27),(4,pb 4 87),(9,J n),(10,J (kQ (UT I (I.getD n.toNat ⟨#[]⟩)) m t))],[(2,(bC N V I U)),(4,⟨.box 87,true,[.st 87 [n4,.bool false]]⟩)]⟩):=by
 simp only[f64,sub,Option.getD_some,dI];intro m
 induction m with
 | zero=>
   intro t σ hi hσ;have h1:¬ ((0:Int)≤((0:Nat):Int) - 1):=by omega
   rw[aG,hσ];simp only[go_sem,h1];simp[post,St.fin,aQ,aA,kQ]
 | succ m ih=>
   intro t σ hi hσ;have e1:((m+1:Nat):Int) - 1=(m:Int):=by omega
   have cY:(0:Int)≤(m:Int):=Int.natCast_nonneg m;have hw:IntKind.i64.wrap ((m:Int) - 1)=(m:Int) - 1:=wrap_i64 (by omega) (by omega);have SD:=aD (d:=(⟨#[]⟩:ByteArray)) (show m < I.length by omega);have Oc:=aD (d:=(⟨#[]⟩:ByteArray)) hq;have hep:UT I (I.getD n.toNat ⟨#[]⟩) m=((I.getD m ⟨#[]⟩).toList==(I.getD n.toNat ⟨#[]⟩).toList):=rfl;rw[aG,hσ];rw[kQ];rw[hep];generalize I.getD m ⟨#[]⟩=x at *;generalize I.getD n.toNat ⟨#[]⟩=v at *;cases hv:(x.toList==v.toList)
   all_goals
    simp only[BL];simp only[go_sem,fN,dF,dH,dG,e1,cY,hw,SD,Oc,h0,hv];exact ih _ _ (by omega) (by simp only[go_sem])
theorem ah7 (q:Int) (hp:(LM N V I U)∧(∀ o ∈ N,bM o.n)∧∀ r ∈ U,0≤r.at_∧r.at_.toNat < N.length) :∃ r,wk r (aT (pN N V I U q))∧∀ A,ak (env 139 333605236568947861091546236431908855 D64 [(97,c97),(98,c98),(99,c99)] [] A) (KH) (100010) f64 [(cd N V I U),J q]=some r:=by
 obtain⟨hl,CC,GY⟩:=id hp;have dO:=hl;have vK:=fun a b=>aaZ N V I U a b hl.1
 unfold pN;dsimp only;cases hc:(decide (0≤q)&&decide (q < (V.length:Int)))
 rotate_left
 ·simp only[Bool.and_eq_true,decide_eq_true_eq] at hc;obtain⟨h0,aO⟩:=hc;have aR:q.toNat < V.length:=by omega
  have K9:=GS N V I U q ⟨hl.2.2.2,GY⟩;have hlA:=fun A=>Py N V I U q hp h0 aR A 100010 q.toNat (-1)
  simp only[f64,sub,Option.getD_some,fO] at hlA;have hle:=CD (oZ N V U (V.getD q.toNat 0)) q.toNat (-1);have ez:((q.toNat:Nat):Int)=q:=by omega
  have kz:IntKind.i64.wrap (q - 1)=q - 1:=wrap_i64 (by omega) (by omega);have KJ:IntKind.i64.wrap (q+1)=q+1:=wrap_i64 (by omega) (by omega);have fj:(0:Int)≤q+1:=by omega
  have sP:(q+1).toNat=q.toNat+1:=by omega
  have KK:q.toNat+1≤V.length:=by omega
  have CH:q.toNat≤V.length:=by omega
  have s1:((V.map eI).drop 0).take (q.toNat - 0)=(V.take q.toNat).map eI:=by simp[List.map_take]
  have s2:((V.map eI).drop (q.toNat+1)).take (V.length - (q.toNat+1))=(V.drop (q.toNat+1)).map eI:=by rw[List.take_of_length_le (by simp),List.map_drop]
  have la:(V.take q.toNat).length=q.toNat:=by rw[List.length_take];omega
  have lb:(V.drop (q.toNat+1)).length=V.length - (q.toNat+1):=List.length_drop;have lc:q.toNat+(V.length - (q.toNat+1))=(V.eraseIdx q.toNat).length:=(Pw (by omega)).symm;have le:(V.eraseIdx q.toNat).length≤100000:=by rw[← lc];omega
  have r1:decide (q.toNat * 8≤140737488355328)=true:=by simp;omega
  have r2:q.toNat≤140737488355328:=by omega
  have r3:decide ((V.eraseIdx q.toNat).length * 8≤140737488355328)=true:=by simp;omega
  have r4:(V.eraseIdx q.toNat).length≤140737488355328:=by omega
  have cat:=Px eI V q.toNat;simp only[BL];generalize kQ (oZ N V U (V.getD q.toNat 0)) q.toNat (-1)=t at *;have vK:=vK 1 q;have G1:=Pv N V I U 1 q t ⟨hl,CC,h0,by omega⟩;simp only[ax] at G1;generalize (N.any fun o=>o.op==1&&o.n==q)=nm at *;generalize U.any (fixF N q)=fx at *;cases nm
  ·simp only[BL];apply bu
   ·intro A;simp only[ak,ai,f64];simp only[go_sem,fN,dF,dH,dG,fO,dI,h0,aO,kz,K9,vK,ez,G1,KJ,fj,sP,KK,CH,s1,s2,la,lb,lc,r1,r2,r3,r4,cat];rw[aY (hlA A _ (Nat.le_refl _) (by simp only[go_sem,ez])) (by omega)];simp only[go_sem,fN,dF,dH,dG,fO,dI,h0,aO,kz,K9,vK,ez,G1,KJ,fj,sP,KK,CH,s1,s2,la,lb,lc,r1,r2,r3,r4,cat];try rfl
   ·simp[WK,aT,ax,eN]
  cases ht:decide (t < 0);rotate_left
  ·simp only[ht,BL];apply bu
   ·intro A;simp only[ak,ai,f64];simp only[go_sem,fN,dF,dH,dG,fO,dI,h0,aO,kz,K9,vK,ez,ht];rw[aY (hlA A _ (Nat.le_refl _) (by simp only[go_sem,ez])) (by omega)];simp only[go_sem,fN,dF,dH,dG,fO,dI,h0,aO,kz,K9,vK,ez,ht];try rfl
   ·simp[WK,aT,ax,eN]
  cases fx;rotate_left
  ·simp only[ht,BL];apply bu
   ·intro A;simp only[ak,ai,f64];simp only[go_sem,fN,dF,dH,dG,fO,dI,h0,aO,kz,K9,vK,ez,ht];rw[aY (hlA A _ (Nat.le_refl _) (by simp only[go_sem,ez])) (by omega)];simp only[go_sem,fN,dF,dH,dG,fO,dI,h0,aO,kz,K9,vK,ez,ht];try rfl
   ·simp[WK,aT,ax,eN]
  ·simp only[ht,BL];apply bu
   ·intro A;simp only[ak,ai,f64];simp only[go_sem,fN,dF,dH,dG,fO,dI,h0,aO,kz,K9,vK,ez,ht,G1,KJ,fj,sP,KK,CH,s1,s2,la,lb,lc,r1,r2,r3,r4,cat];rw[aY (hlA A _ (Nat.le_refl _) (by simp only[go_sem,ez])) (by omega)];simp only[go_sem,fN,dF,dH,dG,fO,dI,h0,aO,kz,K9,vK,ez,ht,G1,KJ,fj,sP,KK,CH,s1,s2,la,lb,lc,r1,r2,r3,r4,cat];try rfl
   ·simp[WK,aT,ax,eN]
 ·simp only[BL];generalize p_:IntKind.i64.wrap (q - (V.length:Int))=n at *;have mj:(0≤q)=False∨((0≤q)=True∧(q < (V.length:Int))=False):=by
   by_cases h0:0≤q
   ·refine .inr ⟨eq_true h0,eq_false fun h=>?_⟩;rw[decide_eq_true h0,decide_eq_true h] at hc;cases hc
   ·exact .inl (eq_false h0)
  cases kH:decide (n < 0);rotate_left
  ·simp only[BL];rcases mj with mj|⟨sy,fp⟩
   ·apply bu
    ·intro A;simp only[ak,ai,f64];simp only[go_sem,fN,dF,dH,dG,fO,dI,mj,p_,kH];try rfl
    ·simp[WK,aT,ax,eN]
   ·apply bu
    ·intro A;simp only[ak,ai,f64];simp only[go_sem,fN,dF,dH,dG,fO,dI,sy,fp,p_,kH];try rfl
    ·simp[WK,aT,ax,eN]
  cases tB:decide ((I.length:Int)≤n);rotate_left
  ·simp only[BL];rcases mj with mj|⟨sy,fp⟩
   ·apply bu
    ·intro A;simp only[ak,ai,f64];simp only[go_sem,fN,dF,dH,dG,fO,dI,mj,p_,kH,tB];try rfl
    ·simp[WK,aT,ax,eN]
   ·apply bu
    ·intro A;simp only[ak,ai,f64];simp only[go_sem,fN,dF,dH,dG,fO,dI,sy,fp,p_,kH,tB];try rfl
    ·simp[WK,aT,ax,eN]
  simp only[decide_eq_false_iff_not] at kH tB;have h0:0≤n:=by omega
  have aR:n.toNat < I.length:=by omega
  have hlB:=fun A=>KI N V I U (J q) n hl h0 aR A 100010 n.toNat (-1)
  simp only[f64,sub,Option.getD_some,dI] at hlB;have hle:=CD (UT I (I.getD n.toNat ⟨#[]⟩)) n.toNat (-1);have ez:((n.toNat:Nat):Int)=n:=by omega
  have eL:IntKind.i64.wrap (n - 1)=n - 1:=wrap_i64 (by omega) (by omega);have KJ:IntKind.i64.wrap (n+1)=n+1:=wrap_i64 (by omega) (by omega);have oT:¬ ((I.length:Int)≤n):=by omega
  have fj:(0:Int)≤n+1:=by omega
  have sP:(n+1).toNat=n.toNat+1:=by omega
  have KK:n.toNat+1≤I.length:=by omega
  have CH:n.toNat≤I.length:=by omega
  have s1:((I.map eS).drop 0).take (n.toNat - 0)=(I.take n.toNat).map eS:=by simp[List.map_take]
  have s2:((I.map eS).drop (n.toNat+1)).take (I.length - (n.toNat+1))=(I.drop (n.toNat+1)).map eS:=by rw[List.take_of_length_le (by simp),List.map_drop]
  have la:(I.take n.toNat).length=n.toNat:=by rw[List.length_take];omega
  have lb:(I.drop (n.toNat+1)).length=I.length - (n.toNat+1):=List.length_drop;have lc:n.toNat+(I.length - (n.toNat+1))=(I.eraseIdx n.toNat).length:=(Pw (by omega)).symm;have le:(I.eraseIdx n.toNat).length≤100000:=by rw[← lc];omega
  have r1:decide (n.toNat * 16≤140737488355328)=true:=by simp;omega
  have r2:n.toNat≤140737488355328:=by omega
  have r3:decide ((I.eraseIdx n.toNat).length * 16≤140737488355328)=true:=by simp;omega
  have r4:(I.eraseIdx n.toNat).length≤140737488355328:=by omega
  have cat:=Px eS I n.toNat;simp only[decide_eq_false kH,decide_eq_false oT,BL];generalize kQ (UT I (I.getD n.toNat ⟨#[]⟩)) n.toNat (-1)=t at *;have vK:=vK 2 n;have G1:=Pv N V I U 2 n t ⟨hl,CC,h0,by omega⟩;simp only[ax] at G1;generalize (N.any fun o=>o.op==2&&o.n==n)=nm at *;rcases mj with mj|⟨sy,fp⟩
  ·cases nm
   ·simp only[mj,BL];apply bu
    ·intro A;simp only[ak,ai,f64];simp only[go_sem,fN,dF,dH,dG,fO,dI,h0,p_,kH,oT,eL,vK,ez,mj,G1,KJ,fj,sP,KK,CH,s1,s2,la,lb,lc,r1,r2,r3,r4,cat];rw[aY (hlB A _ (Nat.le_refl _) (by simp only[go_sem,ez])) (by omega)];simp only[go_sem,fN,dF,dH,dG,fO,dI,h0,p_,kH,oT,eL,vK,ez,mj,G1,KJ,fj,sP,KK,CH,s1,s2,la,lb,lc,r1,r2,r3,r4,cat];try rfl
    ·simp[WK,aT,ax,eN]
   cases ht:decide (t < 0);rotate_left
   ·simp only[mj,ht,BL];apply bu
    ·intro A;simp only[ak,ai,f64];simp only[go_sem,fN,dF,dH,dG,fO,dI,h0,p_,kH,oT,eL,vK,ez,mj,ht];rw[aY (hlB A _ (Nat.le_refl _) (by simp only[go_sem,ez])) (by omega)];simp only[go_sem,fN,dF,dH,dG,fO,dI,h0,p_,kH,oT,eL,vK,ez,mj,ht];try rfl
    ·simp[WK,aT,ax,eN]
   ·simp only[mj,ht,BL];apply bu
    ·intro A;simp only[ak,ai,f64];simp only[go_sem,fN,dF,dH,dG,fO,dI,h0,p_,kH,oT,eL,vK,ez,mj,ht,G1,KJ,fj,sP,KK,CH,s1,s2,la,lb,lc,r1,r2,r3,r4,cat];rw[aY (hlB A _ (Nat.le_refl _) (by simp only[go_sem,ez])) (by omega)];simp only[go_sem,fN,dF,dH,dG,fO,dI,h0,p_,kH,oT,eL,vK,ez,mj,ht,G1,KJ,fj,sP,KK,CH,s1,s2,la,lb,lc,r1,r2,r3,r4,cat];try rfl
    ·simp[WK,aT,ax,eN]
  ·cases nm
   ·simp only[sy,fp,BL];apply bu
    ·intro A;simp only[ak,ai,f64];simp only[go_sem,fN,dF,dH,dG,fO,dI,h0,p_,kH,oT,eL,vK,ez,sy,fp,G1,KJ,fj,sP,KK,CH,s1,s2,la,lb,lc,r1,r2,r3,r4,cat];rw[aY (hlB A _ (Nat.le_refl _) (by simp only[go_sem,ez])) (by omega)];simp only[go_sem,fN,dF,dH,dG,fO,dI,h0,p_,kH,oT,eL,vK,ez,sy,fp,G1,KJ,fj,sP,KK,CH,s1,s2,la,lb,lc,r1,r2,r3,r4,cat];try rfl
    ·simp[WK,aT,ax,eN]
   cases ht:decide (t < 0);rotate_left
   ·simp only[sy,fp,ht,BL];apply bu
    ·intro A;simp only[ak,ai,f64];simp only[go_sem,fN,dF,dH,dG,fO,dI,h0,p_,kH,oT,eL,vK,ez,sy,fp,ht];rw[aY (hlB A _ (Nat.le_refl _) (by simp only[go_sem,ez])) (by omega)];simp only[go_sem,fN,dF,dH,dG,fO,dI,h0,p_,kH,oT,eL,vK,ez,sy,fp,ht];try rfl
    ·simp[WK,aT,ax,eN]
   ·simp only[sy,fp,ht,BL];apply bu
    ·intro A;simp only[ak,ai,f64];simp only[go_sem,fN,dF,dH,dG,fO,dI,h0,p_,kH,oT,eL,vK,ez,sy,fp,ht,G1,KJ,fj,sP,KK,CH,s1,s2,la,lb,lc,r1,r2,r3,r4,cat];rw[aY (hlB A _ (Nat.le_refl _) (by simp only[go_sem,ez])) (by omega)];simp only[go_sem,fN,dF,dH,dG,fO,dI,h0,p_,kH,oT,eL,vK,ez,sy,fp,ht,G1,KJ,fj,sP,KK,CH,s1,s2,la,lb,lc,r1,r2,r3,r4,cat];try rfl
    ·simp[WK,aT,ax,eN]
noncomputable def c64:=bk (α:=(List bp) × (List Int) × (List ByteArray) × (List aP) × Int) (fun (N,V,I,U,q)=>(LM N V I U)∧(∀ o ∈ N,bM o.n)∧∀ r ∈ U,0≤r.at_∧r.at_.toNat < N.length) (fun (N,V,I,U,q)=>[(cd N V I U),J q]) (fun (N,V,I,U,q)=>aT (pN N V I U q))
theorem aa3 (q:Int) (hp:(LM N V I U)∧(∀ o ∈ N,bM o.n)∧∀ r ∈ U,0≤r.at_∧r.at_.toNat < N.length):c64 [(cd N V I U),J q]=some (aT (pN N V I U q)):=aJ (fun X Y hp bZ h'=>by
 obtain⟨N,V,I,U,q⟩:=X;obtain⟨c7,bJ,bL,bK,q'⟩:=Y;simp only[cJ] at h';obtain⟨rfl,rfl,rfl,rfl,rfl⟩:=h';rfl) (N,V,I,U,q) hp
theorem ah9:cI 64 c64:=aE h64 rfl rfl fun (N,V,I,U,q) hp=>let ⟨_,hw,hr⟩:=ah7 N V I U q hp;(rc h64 hr (fun i=>match i with | 6=>[0,1,0,7,15,0,32,0,224,480,1023,2047,4095,4095,16383,32767,65535] | 12=>[0,0,2,0,14,31,0,64,0,256,960,2047,4095,8191] | 21=>[0,1,0,7,15,0,32,0,224,480,1023] | 27=>[0,0,2,0,14,31,0,64,0,256,960,2047,4095,8191] | _=>[]) rfl rfl rfl (by kernel_rfl) ⟨UR,ah3,ah6,trivial⟩ trivial).eK hw
def lG (N:List bp) (V:List Int) (I:List ByteArray) (U:List aP) (q:Int) (r:Int × Int):aL × Bool:=if (r.2==0)=true then oz N V I U q r.1 else eN
def u3 (N:List bp) (V:List Int) (I:List ByteArray) (U:List aP) (q:Int) (b:Bool) (f:List aB):aL × Bool:=
 let o:=N.getD q.toNat bD
 let fa:=f.getD o.a.toNat ⟨0,0⟩
 let fb:=f.getD o.b.toNat ⟨0,0⟩
 if (!b || U.any fun r=>r.at_==q)=true then eN
 else if (o.op==25)=true then (if (fa.sort==1)=true then (⟨N.set q.toNat ⟨24,0,0,0,if (fa.n==0)=true then o.n else q+1⟩,V,I,U⟩,true) else eN)
 else if (!(iG o.op) || !(fa.sort==1))=true then eN
 else if (a7 o.op).b=true then (if (fb.sort==1)=true then lG N V I U q (kP o.op fa.n fb.n) else eN)
 else lG N V I U q (kP o.op fa.n o.n)
theorem h65:Q 65=some f65:=by kernel_rfl
theorem ah_ (q:Int) (b:Bool) (f:List aB) (hp:RW N V I U q f) :∃ r,wk r (aT (u3 N V I U q b f))∧∀ A,ak (env 102 39624971034277699943489609711 D0 [(100,SB),(101,Cw),(42,CG),(102,aaA),(103,Cz)] [(10,SU)] A) hN (5) f65 [(cd N V I U),J q,aC b f]=some r:=by
 obtain⟨hl,i200,h0,aR,f8,⟨⟨cv,gV⟩,⟨dJ,jM⟩,⟨yJ,rV⟩⟩,GY,CB,CC,FE,hrn⟩:=hp;have aO:q < (N.length:Int):=by omega
 have aw:=aD (d:=bD) aR;have fj:IntKind.i64.wrap (q+1)=q+1:=wrap_i64 (by omega) (by omega);have qp:=tb N V I U hl;have ju:=I7 N V I U q hl.2.2.2;have EW:=fun n=>lZ N V I U q n ⟨hl,⟨h0,aR⟩,GY⟩
 have hxn:=CC _ (gK aR (d:=bD));unfold u3;dsimp only;generalize N.getD q.toNat bD=x at *;have nt:x.a < (8:Int):=by omega
 have iJ:x.b < (8:Int):=by omega
 have cq:=aD (d:=(⟨0,0⟩:aB)) (show x.a.toNat < f.length by omega);have cu:=aD (d:=(⟨0,0⟩:aB)) (show x.b.toNat < f.length by omega);have hfa:=FE _ (eP (show x.a.toNat < f.length by omega));have Ux:=FE _ (eP (show x.b.toNat < f.length by omega));generalize f.getD x.a.toNat ⟨0,0⟩=fa at *;generalize f.getD x.b.toNat ⟨0,0⟩=fb at *;have jv:=fV x.op;have qi:=Jg x.op;have aia:=Jh x.op fa.n x.n hxn;have UU:=Jh x.op fa.n fb.n Ux;have bH:=cD dD N q.toNat ⟨24,0,0,0,x.n⟩;have Jn:=cD dD (N.set q.toNat ⟨24,0,0,0,x.n⟩) q.toNat ⟨24,0,0,0,q+1⟩;have o0:(N.set q.toNat ⟨24,0,0,0,x.n⟩)[q.toNat]? = some ⟨24,0,0,0,x.n⟩:=by rw[List.getElem?_set];simp[aR]
 rw[List.set_set] at Jn;simp only[dD] at bH Jn;simp only[aT,ax] at EW;generalize (U.any fun r=>r.at_==q)=r at *;cases b
 ·simp only[BL];apply bu
  ·intro A;simp only[ak,ai,f65];simp only[go_sem,ju,aw,h0,aO,fj,f8,cv,gV,nt,dJ,jM,iJ,cq,cu,aC,aV];try rfl
  ·simp[WK,aT,ax,eN]
 ·cases r
  ·cases dU:(x.op==25)
   ·cases al:iG x.op
    ·simp only[dU,al,BL];apply bu
     ·intro A;simp only[ak,ai,f65];simp only[go_sem,dU,al,ju,aw,h0,aO,fj,f8,cv,gV,nt,dJ,jM,iJ,cq,cu,aC,aV,qi];try rfl
     ·simp[WK,aT,ax,eN]
    ·cases k:(fa.sort==1)
     ·simp only[dU,al,k,BL];apply bu
      ·intro A;simp only[ak,ai,f65];simp only[go_sem,dU,al,k,ju,aw,h0,aO,fj,f8,cv,gV,nt,dJ,jM,iJ,cq,cu,aC,aV,qi];try rfl
      ·simp[WK,aT,ax,eN]
     ·cases fB:(a7 x.op).b
      ·cases ez:((kP x.op fa.n x.n).2==0)
       ·simp only[lG];simp only[dU,al,k,fB,ez,BL];apply bu
        ·intro A;simp only[ak,ai,f65];simp only[go_sem,dU,al,k,fB,ez,ju,aw,h0,aO,fj,f8,cv,gV,nt,dJ,jM,iJ,cq,cu,aC,aV,qi,jv,bw,aia,EW];try rfl
        ·simp[WK,aT,ax,eN]
       ·simp only[lG];simp only[dU,al,k,fB,ez,BL];apply bu
        ·intro A;simp only[ak,ai,f65];simp only[go_sem,dU,al,k,fB,ez,ju,aw,h0,aO,fj,f8,cv,gV,nt,dJ,jM,iJ,cq,cu,aC,aV,qi,jv,bw,aia,EW];try rfl
        ·simp[WK,aT,ax,eN]
      ·cases kb:(fb.sort==1)
       ·simp only[dU,al,k,fB,kb,BL];apply bu
        ·intro A;simp only[ak,ai,f65];simp only[go_sem,dU,al,k,fB,kb,ju,aw,h0,aO,fj,f8,cv,gV,nt,dJ,jM,iJ,cq,cu,aC,aV,qi,jv,bw];try rfl
        ·simp[WK,aT,ax,eN]
       ·cases ez:((kP x.op fa.n fb.n).2==0)
        ·simp only[lG];simp only[dU,al,k,fB,kb,ez,BL];apply bu
         ·intro A;simp only[ak,ai,f65];simp only[go_sem,dU,al,k,fB,kb,ez,ju,aw,h0,aO,fj,f8,cv,gV,nt,dJ,jM,iJ,cq,cu,aC,aV,qi,jv,bw,UU,EW];try rfl
         ·simp[WK,aT,ax,eN]
        ·simp only[lG];simp only[dU,al,k,fB,kb,ez,BL];apply bu
         ·intro A;simp only[ak,ai,f65];simp only[go_sem,dU,al,k,fB,kb,ez,ju,aw,h0,aO,fj,f8,cv,gV,nt,dJ,jM,iJ,cq,cu,aC,aV,qi,jv,bw,UU,EW];try rfl
         ·simp[WK,aT,ax,eN]
   ·cases k:(fa.sort==1)
    ·simp only[dU,k,BL];apply bu
     ·intro A;simp only[ak,ai,f65];simp only[go_sem,dU,k,ju,aw,h0,aO,fj,f8,cv,gV,nt,dJ,jM,iJ,cq,cu,aC,aV];try rfl
     ·simp[WK,aT,ax,eN]
    ·cases z:(fa.n==0)
     ·simp only[dU,k,z,BL];apply bu
      ·intro A;simp only[ak,ai,f65];simp only[go_sem,dU,k,z,ju,aw,h0,aO,fj,f8,cv,gV,nt,dJ,jM,iJ,cq,cu,aC,aV,qp,bH,o0,Jn];try rfl
      ·simp[WK,aT,ax,eN]
     ·simp only[dU,k,z,BL];apply bu
      ·intro A;simp only[ak,ai,f65];simp only[go_sem,dU,k,z,ju,aw,h0,aO,fj,f8,cv,gV,nt,dJ,jM,iJ,cq,cu,aC,aV,qp,bH,o0,Jn];try rfl
      ·simp[WK,aT,ax,eN]
  ·simp only[BL];apply bu
   ·intro A;simp only[ak,ai,f65];simp only[go_sem,ju,aw,h0,aO,fj,f8,cv,gV,nt,dJ,jM,iJ,cq,cu,aC,aV];try rfl
   ·simp[WK,aT,ax,eN]
noncomputable def c65:=bk (α:=(List bp) × (List Int) × (List ByteArray) × (List aP) × Int × Bool × (List aB)) (fun (N,V,I,U,q,b,f)=>RW N V I U q f) (fun (N,V,I,U,q,b,f)=>[(cd N V I U),J q,aC b f]) (fun (N,V,I,U,q,b,f)=>aT (u3 N V I U q b f))
theorem aa4 (q:Int) (b:Bool) (f:List aB) (hp:RW N V I U q f):c65 [(cd N V I U),J q,aC b f]=some (aT (u3 N V I U q b f)):=aJ (fun X Y hp bZ h'=>by
 obtain⟨N,V,I,U,q,b,f⟩:=X;obtain⟨c7,bJ,bL,bK,q',b',f'⟩:=Y;simp only[db,cJ] at h';obtain⟨rfl,rfl,rfl,rfl,rfl,rfl,rfl⟩:=h';rfl) (N,V,I,U,q,b,f) hp
theorem aib:cI 65 c65:=aE h65 rfl rfl fun (N,V,I,U,q,b,f) hp=>let ⟨_,hw,hr⟩:=ah_ N V I U q b f hp;(rc h65 hr (fun _=>[]) rfl rfl rfl (by kernel_rfl) ⟨O1,Pf,uT,aaB,Pn,trivial⟩ ⟨A2,trivial⟩).eK hw
end Go.Proofs.Tryz
end
