/- A part of a proof. -/
import Derived.Test.YtbdbjpdlcemeaaaGreatDoorRu09
set_option linter.unusedSimpArgs false
set_option linter.unusedVariables false
section
set_option maxHeartbeats 4000000
set_option maxRecDepth 20000
namespace Go.Proofs.Tryz
open Go Go.Abs
variable (N : List bp) (V : List Int) (I : List ByteArray) (U : List aP) (ao : List (List aB)) (aj : List Bool) (au : List Int)
def kr (d:Int) (x:aB):aB:=if (x.sort==2&&x.n==d)=true then ⟨0,0⟩ else x
def eY (N:List bp) (V:List Int) (U:List aP) (f:List aB) (q:Int):List aB:=
 let o:=N.getD q.toNat bD
 if (a7 o.op).d=true then
  let a:=f.getD o.a.toNat ⟨0,0⟩
  let f2:=(f.map (kr o.d)).set o.d.toNat ⟨0,0⟩
  let r:=U.any fun r=>r.at_==q
  if (o.op==1)=true then (if r=true then f2 else f2.set o.d.toNat ⟨1,V.getD o.n.toNat 0⟩)
  else if (o.op==3)=true then f2.set o.d.toNat ⟨(gu a.sort a.n o.d o.a).1,(gu a.sort a.n o.d o.a).2⟩
  else if (o.op==19)=true then f2.set o.d.toNat ⟨3,o.n⟩ else if (o.op==27)=true then f2.set o.d.toNat ⟨3,o.n⟩
  else if (o.op==26)=true then (if r=true then f2 else f2.set o.d.toNat ⟨3,o.n⟩)
  else if (o.op==20)=true then f2.set o.d.toNat ⟨3,8⟩ else if (o.op==21)=true then f2.set o.d.toNat ⟨3,8⟩ else if (o.op==22)=true then f2.set o.d.toNat ⟨3,8⟩
  else if (o.op==23)=true then f2.set o.d.toNat ⟨3,-8⟩ else f2
 else f
def lN (d:Int) (f:List aB) (i:Nat):List aB:=(f.take i).map (kr d)++f.drop i
theorem rY (d:Int) (f:List aB) (i:Nat) (h:i < f.length):(lN d f i)[i]? = some (f[i]'h):=by
 simp[lN,h,List.getElem?_append,Nat.min_eq_left (Nat.le_of_lt h)]
theorem sX (d:Int) (f:List aB) (i:Nat) (h:i < f.length):(lN d f i).set i (kr d (f[i]'h))=lN d f (i+1):=by
 have e1:f.drop i=f[i]'h::f.drop (i+1):=List.drop_eq_getElem_cons h;have e2:f.take (i+1)=f.take i++[f[i]'h]:=by rw[List.take_add_one,List.getElem?_eq_getElem h];rfl
 unfold lN;rw[e1,e2,List.set_append_right _ _ (by simp;omega)];have:i - ((f.take i).map (kr d)).length=0:=by simp;omega
 rw[this,List.set_cons_zero,List.map_append,List.append_assoc];rfl
theorem AP (d:Int) (f:List aB) (i:Nat) (h:i < f.length) (hs:kr d (f[i]'h)=f[i]'h):lN d f i=lN d f (i+1):=by
 rw[← sX d f i h,hs];apply List.ext_getElem?;intro j;rw[List.getElem?_set];by_cases hj:i=j
 ·subst hj;rw[rY d f i h];have:i < (lN d f i).length:=(List.getElem?_eq_some_iff.1 (rY d f i h)).1;simp[this]
 ·simp[hj]
theorem EA (d:Int) (f:List aB) (i:Nat) (h:f.length≤i):lN d f i=f.map (kr d):=by
 unfold lN;rw[List.take_of_length_le h,List.drop_of_length_le h,List.append_nil]
theorem h56:Q 56=some f56:=by kernel_rfl
def Zk:Nat→Hint:=fun i=>if i=8 then ({ tm:=[0,1,4,5,6,7,9,38],ob:=[4,5,6,9],fin:=some ([0,1,4,5,6,7,9],[4,5,6,9]) }:Hint) else { tm:=[],ob:=[] }
theorem Ox:Zk 8=({ tm:=[0,1,4,5,6,7,9,38],ob:=[4,5,6,9],fin:=some ([0,1,4,5,6,7,9],[4,5,6,9]) }:Hint):=by simp[Zk]
theorem Zl (W:AV) (q d:Int) (f:List aB) (hf:f.length=8) (o4 o6 o9:Abs.Obj) (A:NP) (k:Nat):∀ (m i:Nat) (σ:St),i+m=8→
 σ.cA (Zk 8)=⟨[(0,W),(1,J q),(4,pb 4 119),(5,pb 5 119),(6,pb 6 80),(7,J d),(9,pb 9 117),(38,J i)],[(4,o4),(5,⟨.box 119,true,[aF (lN d f (i))]⟩),(6,o6),(9,o9)]⟩→
 post (Zk 8) (aG ty (a9 (env 121 41867983908900975976407270120490995 D0 [(58,NJ),(86,c86),(87,c87)] [] A) Zk k (sub (f56.body.getD .skip) [1,1,1,1,1,1,0,1,0,0])) (Zk 8) (m+1) σ)=some (.exit 0,⟨[(0,W),(1,J q),(4,pb 4 119),(5,pb 5 119),(6,pb 6 80),(7,J d),(9,pb 9 117)],[(4,o4),(5,⟨.box 119,true,[aF (lN d f (8))]⟩),(6,o6),(9,o9)]⟩):=by
 simp only[f56,sub,Option.getD_some,Ox];intro m
 induction m with
 | zero=>
   intro i σ hi hσ;have h1:¬ ((i:Int) < 8):=by omega
   have h8:lN d f i=lN d f 8:=by rw[show i=8 by omega]
   rw[aG,hσ];simp only[go_sem,h1];simp[post,St.fin,aQ,aA,h8]
 | succ m ih=>
   intro i σ hi hσ;have h1:(i:Int) < 8:=by omega
   have aR:i < f.length:=by omega
   have h1c:(i:Int) < (8:Int):=by omega
   have cY:(0:Int)≤(i:Int):=Int.natCast_nonneg i;have hw:IntKind.i64.wrap ((i:Int)+1)=((i+1:Nat):Int):=a_ (by omega);have aw:=rY d f i aR;have fL:=sX d f i aR;have B4:=AP d f i aR;have bH:=cD aW (lN d f i) i ⟨0,0⟩;rw[aG,hσ];generalize f[i]=x at *;simp only[kr] at fL B4;simp only[aW] at bH;cases hg:(x.sort==2&&x.n==d)
   all_goals
    rw[hg] at fL B4;simp only[forall_const,BL] at fL B4;simp only[go_sem,F_,Gb,ND,h1,h1c,cY,aw,hw,hg,aF,aW,bH];exact ih (i+1) _ (by omega) (by simp only[go_sem,fL,← B4,aF])
theorem af_ (fb:Bool) (q:Int) (hp:U.length≤100000∧0≤q∧q.toNat < N.length∧q.toNat < ao.length∧(ao.getD q.toNat []).length=8∧(let o:=N.getD q.toNat bD;(0≤o.a∧o.a.toNat < 8)∧(0≤o.d∧o.d.toNat < 8)∧((o.op==1)=true→0≤o.n∧o.n.toNat < V.length))) (A:NP):ak (env 121 41867983908900975976407270120490995 D0 [(58,NJ),(86,c86),(87,c87)] [] A) (Zk) (10) f56 [.ro false 106 (.st 106 [(cd N V I U),.sl 119 ⟨fb,none,false⟩ (ao.map aF),.sl 4 ⟨fb,none,false⟩ (aj.map eB),.sl 109 ⟨fb,none,false⟩ (au.map eU)]),J q]=some (aF (eY N V U (ao.getD q.toNat []) q)):=by
 obtain⟨K3,h0,aR,dt,EB,⟨cv,gV⟩,⟨yJ,rV⟩,hn⟩:=hp;have aw:=aD (d:=bD) aR;have cu:=aD (d:=[]) dt;have mO:=Gb N V I U q K3;simp only[eY];generalize N.getD q.toNat bD=x at *;generalize ao.getD q.toNat []=f at *;have sY:=F_ x.op x.d x.a x.b x.n;have oo:x.a < (8:Int):=by omega
 have sZ:x.d < (8:Int):=by omega
 have cq:=aD (d:=(⟨0,0⟩:aB)) (show x.a.toNat < f.length by omega);have Ka:x.a.toNat < 8:=gV;obtain⟨a,ha⟩:∃ a,f.getD x.a.toNat ⟨0,0⟩=a:=⟨_,rfl⟩
 have K4:=ND a.sort a.n x.d x.a;obtain⟨r,hr⟩:∃ r,(U.any fun r=>r.at_==q)=r:=⟨_,rfl⟩
 obtain⟨mv,hmv⟩:∃ mv,gu a.sort a.n x.d x.a=mv:=⟨_,rfl⟩
 simp only[ha,hr,hmv] at cq mO K4 ⊢;cases hd:(a7 x.op).d
 ·rw[hd] at sY;simp only[BL] at sY ⊢;simp only[ak,ai,f56];simp only[go_sem,hd,sY,aw,cu,h0,aF];try rfl
 rw[hd] at sY;simp only[BL] at sY ⊢;have hz:=cD aW ((f.map (kr x.d))) x.d.toNat ⟨0,0⟩;have tv:((f.map (kr x.d)).set x.d.toNat ⟨0,0⟩).length=8:=by simp[EB]
 have E_:(f.map (kr x.d)).length=8:=by simp[EB]
 have U_:=EA x.d f 8 (by omega);have vH:(f.map (kr x.d))[x.d.toNat]? = some ((f.map (kr x.d)).getD x.d.toNat ⟨0,0⟩):=aD (by omega);have Zm:lN x.d f 0=f:=rfl;simp only[ak,ai,f56];simp only[go_sem,hd,Ox,oo,sZ,EB,aW,sY,mO,K4,aw,cu,cq,h0,cv,aF];have hl:=Zl (.ro false 106 (.st 106 [(cd N V I U),.sl 119 ⟨fb,none,false⟩ (ao.map aF),.sl 4 ⟨fb,none,false⟩ (aj.map eB),.sl 109 ⟨fb,none,false⟩ (au.map eU)])) q x.d f EB ⟨.box 119,true,[.ar 119 [zP,zP,zP,zP,zP,zP,zP,zP]]⟩ ⟨.box 80,true,[.st 80 [J x.op,J x.d,J x.a,J x.b,J x.n]]⟩ ⟨.box 117,true,[.st 117 [J a.sort,J a.n]]⟩ A 10 8 0;simp only[f56,sub,Option.getD_some,Ox] at hl;rw[aY (hl _ (by simp) (by simp only[go_sem,Zm,aF,aW])) (by omega)];rw[U_]
 have y9:((f.map (kr x.d)).set x.d.toNat ⟨0,0⟩)[x.d.toNat]? = some (((f.map (kr x.d)).set x.d.toNat ⟨0,0⟩).getD x.d.toNat ⟨0,0⟩):=aD (by omega);have bH:∀ s n:Int,(((f.map (kr x.d)).set x.d.toNat ⟨0,0⟩).map aW).set x.d.toNat (.st 117 [J s,J n])=(((f.map (kr x.d)).set x.d.toNat ⟨0,0⟩).set x.d.toNat ⟨s,n⟩).map aW:=fun s n=>cD aW _ _ ⟨s,n⟩
 simp only[aW] at hz;cases h1:(x.op==1)
 rotate_left
 ·obtain⟨kH,tB⟩:=hn h1;have CI:=aD (d:=0) tB;cases r;all_goals
   simp only[h1,BL];simp only[go_sem,h1,kH,CI,hd,oo,sZ,sY,mO,K4,aw,cu,cq,h0,cv,gV,yJ,rV,hz,aF,aW,bH,vH,y9,E_,tv];try rfl
 cases h3:(x.op==3)
 rotate_left
 ·simp only[h1,h3,BL];simp only[go_sem,h1,h3,hd,oo,sZ,sY,mO,K4,aw,cu,cq,h0,cv,gV,yJ,rV,hz,aF,aW,bH,vH,y9,E_,tv];try rfl
 cases bU:(x.op==19)
 rotate_left
 ·simp only[h1,h3,bU,BL];simp only[go_sem,h1,h3,bU,hd,oo,sZ,sY,mO,K4,aw,cu,cq,h0,cv,gV,yJ,rV,hz,aF,aW,bH,vH,y9,E_,tv];try rfl
 cases e_:(x.op==27)
 rotate_left
 ·simp only[h1,h3,bU,e_,BL];simp only[go_sem,h1,h3,bU,e_,hd,oo,sZ,sY,mO,K4,aw,cu,cq,h0,cv,gV,yJ,rV,hz,aF,aW,bH,vH,y9,E_,tv];try rfl
 cases fi:(x.op==26)
 rotate_left
 ·cases r;all_goals
   simp only[h1,h3,bU,e_,fi,BL];simp only[go_sem,h1,h3,bU,e_,fi,hd,oo,sZ,sY,mO,K4,aw,cu,cq,h0,cv,gV,yJ,rV,hz,aF,aW,bH,vH,y9,E_,tv];try rfl
 cases nH:(x.op==20)
 rotate_left
 ·simp only[h1,h3,bU,e_,fi,nH,BL];simp only[go_sem,h1,h3,bU,e_,fi,nH,hd,oo,sZ,sY,mO,K4,aw,cu,cq,h0,cv,gV,yJ,rV,hz,aF,aW,bH,vH,y9,E_,tv];try rfl
 cases rU:(x.op==21)
 rotate_left
 ·simp only[h1,h3,bU,e_,fi,nH,rU,BL];simp only[go_sem,h1,h3,bU,e_,fi,nH,rU,hd,oo,sZ,sY,mO,K4,aw,cu,cq,h0,cv,gV,yJ,rV,hz,aF,aW,bH,vH,y9,E_,tv];try rfl
 cases vo:(x.op==22)
 rotate_left
 ·simp only[h1,h3,bU,e_,fi,nH,rU,vo,BL];simp only[go_sem,h1,h3,bU,e_,fi,nH,rU,vo,hd,oo,sZ,sY,mO,K4,aw,cu,cq,h0,cv,gV,yJ,rV,hz,aF,aW,bH,vH,y9,E_,tv];try rfl
 cases Sf:(x.op==23)
 rotate_left
 ·simp only[h1,h3,bU,e_,fi,nH,rU,vo,Sf,BL];simp only[go_sem,h1,h3,bU,e_,fi,nH,rU,vo,Sf,hd,oo,sZ,sY,mO,K4,aw,cu,cq,h0,cv,gV,yJ,rV,hz,aF,aW,bH,vH,y9,E_,tv];try rfl
 simp only[h1,h3,bU,e_,fi,nH,rU,vo,Sf,BL];simp only[go_sem,h1,h3,bU,e_,fi,nH,rU,vo,Sf,hd,oo,sZ,sY,mO,K4,aw,cu,cq,h0,cv,gV,yJ,rV,hz,aF,aW,bH,vH,y9,E_,tv];try rfl
noncomputable def Sg:=bk (α:=(List bp) × (List Int) × (List ByteArray) × (List aP) × (List (List aB)) × (List Bool) × (List Int) × Bool × Int) (fun (N,V,I,U,ao,aj,au,fb,q)=>U.length≤100000∧0≤q∧q.toNat < N.length∧q.toNat < ao.length∧(ao.getD q.toNat []).length=8∧(let o:=N.getD q.toNat bD;(0≤o.a∧o.a.toNat < 8)∧(0≤o.d∧o.d.toNat < 8)∧((o.op==1)=true→0≤o.n∧o.n.toNat < V.length))) (fun (N,V,I,U,ao,aj,au,fb,q)=>[.ro false 106 (.st 106 [(cd N V I U),.sl 119 ⟨fb,none,false⟩ (ao.map aF),.sl 4 ⟨fb,none,false⟩ (aj.map eB),.sl 109 ⟨fb,none,false⟩ (au.map eU)]),J q]) (fun (N,V,I,U,ao,aj,au,fb,q)=>aF (eY N V U (ao.getD q.toNat []) q))
theorem Zn (fb:Bool) (q:Int) (hp:U.length≤100000∧0≤q∧q.toNat < N.length∧q.toNat < ao.length∧(ao.getD q.toNat []).length=8∧(let o:=N.getD q.toNat bD;(0≤o.a∧o.a.toNat < 8)∧(0≤o.d∧o.d.toNat < 8)∧((o.op==1)=true→0≤o.n∧o.n.toNat < V.length))):Sg [.ro false 106 (.st 106 [(cd N V I U),.sl 119 ⟨fb,none,false⟩ (ao.map aF),.sl 4 ⟨fb,none,false⟩ (aj.map eB),.sl 109 ⟨fb,none,false⟩ (au.map eU)]),J q]=some (aF (eY N V U (ao.getD q.toNat []) q)):=aJ (fun X Y hp bZ h'=>by
 obtain⟨N,V,I,U,ao,aj,au,fb,q⟩:=X;obtain⟨c7,bJ,bL,bK,gm,eW,jj,fb',q'⟩:=Y;simp only[cJ] at h';obtain⟨rfl,rfl,rfl,rfl,rfl,rfl,_,rfl,_,rfl,rfl⟩:=h';rfl) (N,V,I,U,ao,aj,au,fb,q) hp
theorem aga:cI 56 Sg:=aE h56 rfl rfl fun (N,V,I,U,ao,aj,au,fb,q) hp=>rc h56 (fun A=>af_ N V I U ao aj au fb q hp A) (fun i=>match i with | 17=>[0,0,2,6,14,30,0,64,254,510,1022,2047,4095] | _=>[]) rfl rfl rfl (by kernel_rfl) ⟨Um,Uo,adn,trivial⟩ trivial
theorem ye (p:Nat→Bool):∀ (m i:Nat),dE p i m=true→∀ j,i≤j→j < i+m→p j=true
 | 0,i,_,j,h1,h2=>by omega
 | m+1,i,h,j,h1,h2=>by
   simp only[dE,Bool.and_eq_true] at h;by_cases hj:j=i
   ·subst hj;exact h.1
   ·exact ye p m (i+1) h.2 j (by omega) (by omega)
structure Good (N:List bp) (li ls:Nat) (U:List aP):Prop where
 pos:0 < N.length
 len:N.length≤500
 right:∀ i,i < N.length→hH N li ls i=true
 last:((N.getD (N.length - 1) bD).op==40)=true
 rel:∀ i,i < U.length→fU N U i=true
theorem dQ {N:List bp} {V:List Int} {I:List ByteArray} {U:List aP} (h:aU N V I U=true):Good N V.length I.length U:=by
 unfold aU at h;split at h
 ·rename_i h1;split at h
  ·cases h
  ·split at h
   ·cases h
   ·split at h
    ·cases h
    ·split at h
     ·cases h
     ·rename_i h5;split at h
      ·split at h
       ·rename_i h7;simp only[Bool.and_eq_true,decide_eq_true_eq] at h1;exact⟨by omega,by omega,fun i hi=>ye _ _ _ h7 i (Nat.zero_le _) (by omega),by simpa using h5,fun i hi=>ye _ _ _ h i (Nat.zero_le _) (by omega)⟩
       ·cases h
      ·cases h
 ·cases h
structure Oy (lo li ls:Nat) (q:Int) (o:bp):Prop where
 d:0≤o.d∧o.d.toNat < 8
 a:0≤o.a∧o.a.toNat < 8
 b:0≤o.b∧o.b.toNat < 8
 fit:ey lo li ls q o.op o.n=true
 name:((a7 o.op).name.toList==(⟨#[]⟩:ByteArray).toList)=false
 rd:mG (a7 o.op).d o.d=true
 ra:mG (a7 o.op).a o.a=true
 rb:mG (a7 o.op).b o.b=true
theorem s4 {has:Bool} {n:Int} (h:mG has n=true):0≤n∧n.toNat < 8:=by
 unfold mG at h;simp only[Bool.or_eq_true,Bool.and_eq_true,decide_eq_true_eq,Bool.not_eq_true',beq_iff_eq] at h;rcases h with h | h <;> omega
theorem jr {N:List bp} {li ls:Nat} {q:Int} (h:hH N li ls q=true):Oy N.length li ls q (N.getD q.toNat bD):=by
 unfold hH at h;dsimp only at h;generalize N.getD q.toNat bD=o at *;split at h
 ·rename_i h1;split at h
  ·rename_i h2;split at h
   ·rename_i h3;split at h
    ·rename_i h4;exact⟨s4 h2,s4 h3,s4 h4,h,by simpa using h1,h2,h3,h4⟩
    ·cases h
   ·cases h
  ·cases h
 ·cases h
theorem fits_int {lo li ls:Nat} {q o n:Int} (h:ey lo li ls q o n=true) (ho:(o==1)=true):0≤n∧n.toNat < li:=by
 unfold ey at h;rw[if_pos ho] at h;simp only[qa,Bool.and_eq_true,decide_eq_true_eq] at h;omega
theorem s5 {lo li ls:Nat} {q o n:Int} (h:ey lo li ls q o n=true) (ho:o=24∨o=25):q+1≤n∧n≤(lo:Int) - 1:=by
 unfold ey at h;rcases ho with rfl|rfl
 ·simp[qa] at h;omega
 ·simp[qa] at h;omega
theorem rZ {N:List bp} {li ls:Nat} {U:List aP} (hg:Good N li ls U) (q:Nat) (hq:q < N.length):∀ k ∈ eG N q,(q:Int) < k∧k.toNat < N.length:=by
 have ho:=jr (hg.right q hq);have Nq:(N.getD q bD).op ≠ 40→(q:Int)+1 < N.length:=fun h=>by
  rcases Nat.lt_or_ge (q+1) N.length with h1 | h1
  ·omega
  ·exfalso;have:=hg.last;rw[show N.length - 1=q by omega] at this;exact h (by simpa using this)
 intro k hk;unfold eG at hk;simp only[Int.toNat_natCast] at hk ho;generalize N.getD q bD=o at *;split at hk
 ·simp at hk
 ·rename_i IT;have ak6:o.op ≠ 40:=by simpa using IT
  have hl:=Nq ak6;split at hk
  ·rename_i gM;have:=s5 ho.fit (.inl (by simpa using gM));simp at hk;subst hk;omega
  ·split at hk
   ·rename_i dU;have:=s5 ho.fit (.inr (by simpa using dU));split at hk
    ·simp at hk;subst hk;omega
    ·simp at hk;rcases hk with rfl|rfl <;> omega
   ·simp at hk;subst hk;omega
theorem EC {lo li ls:Nat} {q:Int} {o:bp} (h:Oy lo li ls q o):∀ r ∈ dW o.op o.a o.b,0≤r:=by
 intro r hr;unfold dW at hr;simp only[List.mem_append] at hr;rcases hr with hr | hr
 ·split at hr
  ·simp at hr;subst hr;exact h.a.1
  ·simp at hr
 ·split at hr
  ·simp at hr;subst hr;exact h.b.1
  ·simp at hr
def z0:aB:=⟨0,0⟩
def uV (x y:aB):aB:=if (!(x.sort==y.sort&&x.n==y.n))=true then z0 else x
def js (a b:List aB):List aB:=List.zipWith uV a b
def lF (out:List aB) (s:List (List aB) × List Bool) (k:Int):List (List aB) × List Bool:=
 if s.2.getD k.toNat false=true then (s.1.set k.toNat (js (s.1.getD k.toNat []) out),s.2) else (s.1.set k.toNat out,s.2.set k.toNat true)
def qc (N:List bp) (V:List Int) (U:List aP) (i:Nat) (s:List (List aB) × List Bool):List (List aB) × List Bool:=
 if s.2.getD i false=true then (eG N i).foldl (lF (eY N V U (s.1.getD i []) i)) s else s
def dT (N:List bp) (V:List Int) (U:List aP):Nat→Nat→List (List aB) × List Bool→List (List aB) × List Bool
 | 0,_,s=>s
 | m+1,i,s=>dT N V U m (i+1) (qc N V U i s)
def Qk (al:List Int) (s k:Int):Int:=bV .or .u8 s (al.getD k.toNat 0)
def yf (N:List bp) (q:Nat) (al:List Int):Int:=
 let o:=N.getD q bD
 let s0:=(eG N q).foldl (Qk al) 0
 let s1:=if (a7 o.op).d=true then fE s0 o.d else s0
 (dW o.op o.a o.b).foldl lA s1
def ku (N:List bp):Nat→List Int→List Int
 | 0,al=>al
 | m+1,al=>ku N m (al.set m (yf N m al))
def Shape (n:Nat) (s:List (List aB) × List Bool):Prop:=s.1.length=n∧s.2.length=n∧∀ f ∈ s.1,f.length=8
theorem Shape.get {n:Nat} {s:List (List aB) × List Bool} (h:Shape n s) {i:Nat} (hi:i < n):(s.1.getD i []).length=8:=by
 have h1:i < s.1.length:=by rw[h.1];exact hi
 have:=List.mem_of_getElem? (aD (d:=[]) h1);exact h.2.2 _ this
theorem AQ {n:Nat} {s:List (List aB) × List Bool} (h:Shape n s) (k:Nat) {f:List aB} (hf:f.length=8) (r:List Bool) (hr:r.length=n):Shape n (s.1.set k f,r):=
 ⟨by simpa using h.1,hr,fun g hg=>by
   rcases List.mem_or_eq_of_mem_set hg with hg|rfl
   ·exact h.2.2 g hg
   ·exact hf⟩
theorem ED {a b:List aB} (ha:a.length=8) (hb:b.length=8):(js a b).length=8:=by simp[js,ha,hb]
theorem oq {n:Nat} {s:List (List aB) × List Bool} (h:Shape n s) {out:List aB} (ho:out.length=8) (k:Int) (hk:k.toNat < n):Shape n (lF out s k):=by
 unfold lF;split
 ·exact AQ h _ (ED (h.get hk) ho) _ h.2.1
 ·exact AQ h _ ho _ (by simpa using h.2.1)
theorem qd {N:List bp} {V:List Int} {U:List aP} {f:List aB} {q:Int} (h:f.length=8):(eY N V U f q).length=8:=by
 unfold eY;dsimp only;repeat' split
 all_goals simp[h]
theorem nn {n:Nat} {out:List aB} (ho:out.length=8):∀ (l:List Int) (s:List (List aB) × List Bool),Shape n s→(∀ k ∈ l,k.toNat < n)→Shape n (l.foldl (lF out) s)
 | [],s,h,_=>h
 | k::l,s,h,hl=>nn ho l _ (oq h ho k (hl k (by simp))) fun k hk=>hl k (by simp[hk])
def jH (b out:List aB) (r:Nat):List aB:=(js b out).take r++b.drop r
theorem r6 (b out:List aB) (r:Nat) (h:r < b.length) (h2:r < out.length):(jH b out r)[r]? = some (b[r]'h):=by
 simp[jH,js,List.getElem?_append,h,h2];rw[show min r (min b.length out.length)=r by omega];simp[h]
theorem s6 (b out:List aB) (r:Nat) (h:r < b.length) (h2:r < out.length):(jH b out r).set r (uV (b[r]'h) (out[r]'h2))=jH b out (r+1):=by
 have e1:b.drop r=b[r]'h::b.drop (r+1):=List.drop_eq_getElem_cons h;have hl:r < (js b out).length:=by simp[js];omega
 have e2:(js b out).take (r+1)=(js b out).take r++[uV (b[r]'h) (out[r]'h2)]:=by
  rw[List.take_add_one,List.getElem?_eq_getElem hl];simp[js]
 unfold jH;rw[e1,e2,List.set_append_right _ _ (by simp;omega)];have:r - ((js b out).take r).length=0:=by simp;omega
 rw[this,List.set_cons_zero,List.append_assoc];rfl
theorem AS (b out:List aB) (r:Nat) (h:r < b.length) (h2:r < out.length) (hs:uV (b[r]'h) (out[r]'h2)=b[r]'h):jH b out r=jH b out (r+1):=by
 rw[← s6 b out r h h2,hs];apply List.ext_getElem?;intro j;rw[List.getElem?_set];by_cases hj:r=j
 ·subst hj;rw[r6 b out r h h2];have:r < (jH b out r).length:=(List.getElem?_eq_some_iff.1 (r6 b out r h h2)).1;simp[this]
 ·simp[hj]
theorem EE (b out:List aB) (hb:b.length=8) (ho:out.length=8) (r:Nat) (h:8≤r):jH b out r=js b out:=by
 unfold jH;rw[List.take_of_length_le (by rw[ED hb ho];exact h),List.drop_of_length_le (by omega),List.append_nil]
theorem r7 {α:Type} (l:List α) (i:Nat) (x:α) (h:l[i]? = some x):l.set i x=l:=by
 apply List.ext_getElem?;intro j;rw[List.getElem?_set];by_cases hj:i=j
 ·subst hj;have:i < l.length:=(List.getElem?_eq_some_iff.1 h).1;rw[if_pos rfl,if_pos this,h]
 ·simp[hj]
def nJ:Nat→Hint:=fun i=>if i=6 then ({ tm:=[1,3,4,39,40],ob:=[1,23,25,27,29],fin:=some ([1,3,4],[1,23,25,27,29]) }:Hint) else if i=11 then ({ tm:=[1,3,4,6,39,40,56,57,58],ob:=[1,6,23,25,27,29],fin:=some ([1,3,4,39,40],[1,23,25,27,29]) }:Hint) else if i=16 then ({ tm:=[1,3,4,6,8,39,40,56,57,58,83],ob:=[1,6,23,25,27,29],fin:=some ([1,3,4,6,39,40,56,57,58],[1,6,23,25,27,29]) }:Hint) else if i=24 then ({ tm:=[1,4,10],ob:=[1,23,25,27,29],fin:=some ([1,4],[1,23,25,27,29]) }:Hint) else if i=28 then ({ tm:=[1,4,10,11,119,120,121],ob:=[1,23,25,27,29],fin:=some ([1,4,10,11],[1,23,25,27,29]) }:Hint) else if i=36 then ({ tm:=[1,4,10,11,153,154,155],ob:=[1,23,25,27,29],fin:=some ([1,4,10,11],[1,23,25,27,29]) }:Hint) else { tm:=[],ob:=[] }
theorem EF:nJ 6=({ tm:=[1,3,4,39,40],ob:=[1,23,25,27,29],fin:=some ([1,3,4],[1,23,25,27,29]) }:Hint):=by simp[nJ]
theorem yg:nJ 11=({ tm:=[1,3,4,6,39,40,56,57,58],ob:=[1,6,23,25,27,29],fin:=some ([1,3,4,39,40],[1,23,25,27,29]) }:Hint):=by simp[nJ]
theorem yh:nJ 16=({ tm:=[1,3,4,6,8,39,40,56,57,58,83],ob:=[1,6,23,25,27,29],fin:=some ([1,3,4,6,39,40,56,57,58],[1,6,23,25,27,29]) }:Hint):=by simp[nJ]
theorem yi:nJ 24=({ tm:=[1,4,10],ob:=[1,23,25,27,29],fin:=some ([1,4],[1,23,25,27,29]) }:Hint):=by simp[nJ]
theorem ot:nJ 28=({ tm:=[1,4,10,11,119,120,121],ob:=[1,23,25,27,29],fin:=some ([1,4,10,11],[1,23,25,27,29]) }:Hint):=by simp[nJ]
theorem ou:nJ 36=({ tm:=[1,4,10,11,153,154,155],ob:=[1,23,25,27,29],fin:=some ([1,4,10,11],[1,23,25,27,29]) }:Hint):=by simp[nJ]
theorem h34:Q 34=some f34:=by kernel_rfl
def Ql:Nat→Option (List DH × List Nat):=fun i=>match i with | 2=>some ([⟨[23,25,27],[],[23,25,27]⟩,⟨[25,27],[],[23,25,27]⟩,⟨[25,27],[23],[25,27]⟩,⟨[23,27],[],[23,25,27]⟩,⟨[23,27],[25],[23,27]⟩,⟨[23,25],[],[23,25,27]⟩,⟨[23,25],[27],[23,25]⟩,⟨[],[],[]⟩,⟨[],[],[]⟩,⟨[],[],[]⟩],[23,25,27]) | 14=>some ([⟨[],[],[]⟩,⟨[],[],[]⟩,⟨[],[],[]⟩,⟨[],[],[]⟩,⟨[],[],[]⟩,⟨[],[],[]⟩,⟨[],[],[]⟩,⟨[],[],[]⟩,⟨[],[],[]⟩,⟨[25],[],[]⟩,⟨[25],[],[]⟩,⟨[],[],[]⟩,⟨[],[25],[]⟩,⟨[],[],[]⟩,⟨[],[],[]⟩],[]) | _=>none
theorem jz:Ql 2=some ([⟨[23,25,27],[],[23,25,27]⟩,⟨[25,27],[],[23,25,27]⟩,⟨[25,27],[23],[25,27]⟩,⟨[23,27],[],[23,25,27]⟩,⟨[23,27],[25],[23,27]⟩,⟨[23,25],[],[23,25,27]⟩,⟨[23,25],[27],[23,25]⟩,⟨[],[],[]⟩,⟨[],[],[]⟩,⟨[],[],[]⟩],[23,25,27]):=rfl
theorem gh:Ql 14=some ([⟨[],[],[]⟩,⟨[],[],[]⟩,⟨[],[],[]⟩,⟨[],[],[]⟩,⟨[],[],[]⟩,⟨[],[],[]⟩,⟨[],[],[]⟩,⟨[],[],[]⟩,⟨[],[],[]⟩,⟨[25],[],[]⟩,⟨[25],[],[]⟩,⟨[],[],[]⟩,⟨[],[25],[]⟩,⟨[],[],[]⟩,⟨[],[],[]⟩],[]):=rfl
theorem gj:Ql 18=none:=rfl
theorem Kb (v1 v3 y_ v40:AV) (o1:Abs.Obj) (C:AV) (f29:Bool) (n:Nat) (v56 v57 v58:AV) (Kc o27:Abs.Obj) (q:Int) (b out:List aB) (ao:List (List aB)) (jB:0≤q) (vp:q.toNat < n) (hbn:ao.length=n) (hb:b.length=8) (ho:out.length=8) (A:NP) (k:Nat):∀ (m i:Nat) (σ:St),i+m=8→
 σ.cA (nJ 16)=⟨[(1,v1),(3,v3),(4,pb 29 106),(6,pb 6 119),(8,J q),(39,y_),(40,v40),(56,v56),(57,v57),(58,v58),(83,J i)],[(1,o1),(6,⟨.box 119,true,[aF out]⟩),(23,⟨.row 119,true,(ao.set q.toNat (jH b out (i))).map aF⟩),(25,Kc),(27,o27),(29,⟨.box 106,f29,[.st 106 [C,.own 23 119 0 n,.own 25 4 0 n,.own 27 109 0 n]]⟩)]⟩→
 post (nJ 16) (aG ty (a9 (env 171 171292023879903695822898525277610645158843576191 Ql [(56,Sg),(57,R_),(58,NJ),(59,RG),(60,Qg),(61,RF)] [] A) nJ k (sub (f34.body.getD .skip) [1,1,1,1,0,1,0,0,1,1,0,0,1,1,1,1,0,0,1,1,0,0,1,1,1,0,0])) (nJ 16) (m+1) σ)=some (.exit 4,⟨[(1,v1),(3,v3),(4,pb 29 106),(6,pb 6 119),(39,y_),(40,v40),(56,v56),(57,v57),(58,v58)],[(1,o1),(6,⟨.box 119,true,[aF out]⟩),(23,⟨.row 119,true,(ao.set q.toNat (jH b out (8))).map aF⟩),(25,Kc),(27,o27),(29,⟨.box 106,f29,[.st 106 [C,.own 23 119 0 n,.own 25 4 0 n,.own 27 109 0 n]]⟩)]⟩):=by
 simp only[f34,sub,Option.getD_some,yh];intro m
 induction m with
 | zero=>
   intro i σ hi hσ;have h1:¬ ((i:Int) < 8):=by omega
   have h8:jH b out i=jH b out 8:=by rw[show i=8 by omega]
   rw[aG,hσ];simp only[go_sem,h1];simp[post,St.fin,aQ,aA,h8]
 | succ m ih=>
   intro i σ hi hσ;have h1:(i:Int) < 8:=by omega
   have h1c:(i:Int) < (8:Int):=by omega
   have cY:(0:Int)≤(i:Int):=Int.natCast_nonneg i;have hw:IntKind.i64.wrap ((i:Int)+1)=((i+1:Nat):Int):=a_ (by omega);have yH:q < (n:Int):=by omega
   have aR:i < b.length:=by omega
   have yj:i < out.length:=by omega
   have aw:=r6 b out i aR yj;have B5:out[i]? = some (out[i]'yj):=List.getElem?_eq_getElem yj;have fL:=s6 b out i aR yj;have B4:=AS b out i aR yj;have UE:=cD aW (jH b out i) i z0;have Oc:(ao.set q.toNat (jH b out i))[q.toNat]? = some (jH b out i):=by
    rw[List.getElem?_set];simp;omega
   have agb:∀ M',(List.map aF (ao.set q.toNat (jH b out i))).set q.toNat (.ar 119 (List.map aW M'))=List.map aF (ao.set q.toNat M'):=fun M'=>by
    have:=cD aF (ao.set q.toNat (jH b out i)) q.toNat M';simp only[List.set_set] at this;exact this
   rw[aG,hσ];generalize b[i]=x at *;generalize out[i]=y at *;simp only[uV] at fL B4;simp only[z0,aW] at UE;cases hg:(x.sort==y.sort&&x.n==y.n)
   all_goals
    rw[hg] at fL B4;simp only[forall_const,z0,BL] at fL B4;simp only[go_sem,jz,gh,gj,h1,h1c,cY,yH,jB,aw,B5,Oc,hw,hg,aF,aW,UE,agb,hbn];exact ih (i+1) _ (by omega) (by simp only[go_sem,fL,← B4,aF])
theorem Kd (v1 v3 y_ v40:AV) (o1:Abs.Obj) (C:AV) (f29:Bool) (n:Nat) (o27:Abs.Obj) (out:List aB) (ks:List Int) (vA:ks.length≤2) (yk:∀ q ∈ ks,0≤q∧q.toNat < n) (ho:out.length=8) (A:NP) (k:Nat) (Zo:9≤k):∀ (m j:Nat) (ao:List (List aB)) (aj:List Bool) (σ:St),Shape n (ao,aj)→j+m=ks.length→
 σ.cA (nJ 11)=⟨[(1,v1),(3,v3),(4,pb 29 106),(6,pb 6 119),(39,y_),(40,v40),(56,.sl 3 gT (ks.map eI)),(57,J ks.length),(58,J j)],[(1,o1),(6,⟨.box 119,true,[aF out]⟩),(23,⟨.row 119,true,(ao).map aF⟩),(25,⟨.row 4,true,(aj).map eB⟩),(27,o27),(29,⟨.box 106,f29,[.st 106 [C,.own 23 119 0 n,.own 25 4 0 n,.own 27 109 0 n]]⟩)]⟩→
 post (nJ 11) (aG ty (a9 (env 171 171292023879903695822898525277610645158843576191 Ql [(56,Sg),(57,R_),(58,NJ),(59,RG),(60,Qg),(61,RF)] [] A) nJ k (sub (f34.body.getD .skip) [1,1,1,1,0,1,0,0,1,1,0,0,1,1,1,1,0,0])) (nJ 11) (m+1) σ)=some (.exit 2,⟨[(1,v1),(3,v3),(4,pb 29 106),(39,y_),(40,v40)],[(1,o1),(23,⟨.row 119,true,(((ks.drop j).foldl (lF out) (ao,aj)).1).map aF⟩),(25,⟨.row 4,true,(((ks.drop j).foldl (lF out) (ao,aj)).2).map eB⟩),(27,o27),(29,⟨.box 106,f29,[.st 106 [C,.own 23 119 0 n,.own 25 4 0 n,.own 27 109 0 n]]⟩)]⟩):=by
 simp only[f34,sub,Option.getD_some,yg];intro m
 induction m with
 | zero=>
   intro j ao aj σ ke hj hσ;have h1:¬ ((j:Int) < (ks.length:Int)):=by omega
   have h8:ks.drop j=[]:=List.drop_of_length_le (by omega);rw[aG,hσ];simp only[go_sem,h1];simp[post,St.fin,aQ,aA,h8]
 | succ m ih=>
   intro j ao aj σ ke hj hσ;have h1:(j:Int) < (ks.length:Int):=by omega
   have aR:j < ks.length:=by omega
   have cY:(0:Int)≤(j:Int):=Int.natCast_nonneg j;have hw:IntKind.i64.wrap ((j:Int)+1)=((j+1:Nat):Int):=a_ (by omega);have EG:ks[j]? = some (ks[j]'aR):=List.getElem?_eq_getElem aR;have hd:ks.drop j=ks[j]'aR::ks.drop (j+1):=List.drop_eq_getElem_cons aR;obtain⟨jB,vp⟩:=yk _ (List.getElem_mem aR);rw[aG,hσ,hd,List.foldl_cons];generalize ks[j]=q at *;have yH:q < (n:Int):=by omega
   have Oz:=aD (d:=false) (show q.toNat < aj.length by rw[ke.2.1];exact vp);have cu:=aD (d:=[]) (show q.toNat < ao.length by rw[ke.1];exact vp);have dt:=ke.get vp;have B6:=oq ke ho q vp;have hsr:∀ b,(List.map eB aj).set q.toNat (.bool b)=List.map eB (aj.set q.toNat b):=fun b=>cD eB aj q.toNat b
   have Qe:(List.map aF ao).set q.toNat (.ar 119 (List.map aW out))=List.map aF (ao.set q.toNat out):=cD aF ao q.toNat out;have K3:aj.length=n:=ke.2.1;have IU:ao.length=n:=ke.1;simp only[lF] at B6 ⊢;cases hr:aj.getD q.toNat false
   ·rw[hr] at Oz B6;simp only[BL] at B6 ⊢;simp only[go_sem,jz,gh,gj,h1,cY,yH,jB,EG,Oz,cu,hw,hsr,Qe,K3,IU,yh,aF];exact ih (j+1) _ _ _ B6 (by omega) (by simp only[go_sem,aF])
   ·rw[hr] at Oz B6;simp only[BL] at B6 ⊢;have hl:=Kb v1 v3 y_ v40 o1 C f29 n (.sl 3 gT (ks.map eI)) (J ks.length) (J j) ⟨.row 4,true,aj.map eB⟩ o27 q (ao.getD q.toNat []) out ao jB vp IU dt ho A k 8 0;simp only[f34,sub,Option.getD_some,yh] at hl;have Zm:ao.set q.toNat (jH (ao.getD q.toNat []) out 0)=ao:=r7 _ _ _ cu;have hm8:jH (ao.getD q.toNat []) out 8=js (ao.getD q.toNat []) out:=EE _ _ dt ho 8 (Nat.le_refl _);simp only[go_sem,jz,gh,gj,h1,cY,yH,jB,EG,Oz,cu,hw,hsr,Qe,K3,IU,yh];rw[aY (hl _ (by simp) (by simp only[go_sem,Zm])) Zo];rw[hm8];simp only[go_sem,jz,gh,gj,h1,cY,yH,jB,EG,Oz,cu,hw,hsr,Qe,K3,IU,yh];exact ih (j+1) _ _ _ B6 (by omega) (by simp only[go_sem])
theorem OA (au:List Int) (hp:((LM N V I U)∧(LS U))∧aU N V I U=true) (A:NP) (k:Nat) (Zo:9≤k):∀ (m i:Nat) (ao:List (List aB)) (aj:List Bool) (σ:St),Shape N.length (ao,aj)→au.length=N.length→i+m=N.length→
 σ.cA (nJ 6)=⟨[(1,pb 1 27),(3,J N.length),(4,pb 29 106),(39,J N.length),(40,J i)],[(1,(bC N V I U)),(23,⟨.row 119,true,(ao).map aF⟩),(25,⟨.row 4,true,(aj).map eB⟩),(27,⟨.row 109,true,(au).map eU⟩),(29,⟨.box 106,false,[.st 106 [(cd N V I U),.own 23 119 0 N.length,.own 25 4 0 N.length,.own 27 109 0 N.length]]⟩)]⟩→
 post (nJ 6) (aG ty (a9 (env 171 171292023879903695822898525277610645158843576191 Ql [(56,Sg),(57,R_),(58,NJ),(59,RG),(60,Qg),(61,RF)] [] A) nJ k (sub (f34.body.getD .skip) [1,1,1,1,0,1,0,0])) (nJ 6) (m+1) σ)=some (.exit 0,⟨[(1,pb 1 27),(3,J N.length),(4,pb 29 106)],[(1,(bC N V I U)),(23,⟨.row 119,true,((dT N V U m i (ao,aj)).1).map aF⟩),(25,⟨.row 4,true,((dT N V U m i (ao,aj)).2).map eB⟩),(27,⟨.row 109,true,(au).map eU⟩),(29,⟨.box 106,false,[.st 106 [(cd N V I U),.own 23 119 0 N.length,.own 25 4 0 N.length,.own 27 109 0 N.length]]⟩)]⟩):=by
 simp only[f34,sub,Option.getD_some,EF];have hg:=dQ hp.2;have dO:=hp.1.1;intro m
 induction m with
 | zero=>
   intro i ao aj σ ke sk hi hσ;have h1:¬ ((i:Int) < (N.length:Int)):=by omega
   rw[aG,hσ];simp only[go_sem,h1];simp[post,St.fin,aQ,aA,dT]
 | succ m ih=>
   intro i ao aj σ ke sk hi hσ;have h1:(i:Int) < (N.length:Int):=by omega
   have aR:i < N.length:=by omega
   have cY:(0:Int)≤(i:Int):=Int.natCast_nonneg i;have hw:IntKind.i64.wrap ((i:Int)+1)=((i+1:Nat):Int):=a_ (by omega);have K3:aj.length=N.length:=ke.2.1;have IU:ao.length=N.length:=ke.1;have Oz:=aD (d:=false) (show i < aj.length by omega);have cu:=aD (d:=[]) (show i < ao.length by omega);have dt:=ke.get aR;have gU:=jr (hg.right i aR);have e56:=Zn N V I U ao aj au false i ⟨dO.2.2.2,cY,by simpa using aR,by simp only[Int.toNat_natCast];omega,by simpa using dt,⟨gU.a,gU.d,fun h=>fits_int gU.fit h⟩⟩;have K5:=Ol N V I U i hp.1;have de:(decide (0≤(i:Int))&&decide ((i:Int)≤(N.length:Int) - 1))=true:=by simp;omega
   simp only[kq,hp.2,de,Int.toNat_natCast,BL] at e56 K5;have yE:=rZ hg i aR;rw[aG,hσ];simp only[dT,qc];cases hr:aj.getD i false
   ·rw[hr] at Oz;simp only[BL] at ⊢;simp only[go_sem,jz,gh,gj,h1,cY,Oz,cu,hw,e56,K5,K3,IU,sk,yg,aF];exact ih (i+1) _ _ _ ke sk (by omega) (by simp only[go_sem])
   ·rw[hr] at Oz;simp only[BL];have hbo:=qd (N:=N) (V:=V) (U:=U) (q:=(i:Int)) dt;have vA:(eG N i).length≤2:=by
     unfold eG;dsimp only;split
     ·simp
     split
     ·simp
     split
     ·split <;> simp
     simp
    have yk:∀ q ∈ eG N i,0≤q∧q.toNat < N.length:=fun q hq=>by have:=yE q hq;omega
    generalize eY N V U (ao.getD i []) i=out at *;generalize eG N i=ks at *;have hl:=Kd (.ptr 1 (.box 27) []) (J N.length) (J N.length) (J i) (bC N V I U) ((cd N V I U)) false N.length ⟨.row 109,true,au.map eU⟩ out ks vA yk hbo A k Zo ks.length 0 ao aj;simp only[f34,sub,Option.getD_some,yg,List.drop_zero] at hl;have hsf:=nn hbo ks _ ke fun q hq=>(yk q hq).2
    simp only[go_sem,jz,gh,gj,h1,cY,Oz,cu,hw,e56,K5,K3,IU,sk,yg,aF];rw[aY (hl _ ke (by simp) (by simp only[go_sem,aF])) (by omega)];simp only[go_sem,jz,gh,gj,h1,cY,Oz,cu,hw,e56,K5,K3,IU,sk,yg,aF];exact ih (i+1) _ _ _ hsf sk (by omega) (by simp only[go_sem])
theorem Ke (v1 v10:AV) (o1 Qm Kc:Abs.Obj) (C:AV) (f29:Bool) (n:Nat) (ks al:List Int) (vA:ks.length≤2) (sk:al.length=n) (yk:∀ q ∈ ks,0≤q∧q.toNat < n) (A:NP) (k:Nat):∀ (m j:Nat) (s:Int) (σ:St),j+m=ks.length→
 σ.cA (nJ 28)=⟨[(1,v1),(4,pb 29 106),(10,v10),(11,.int .u8 s),(119,.sl 3 gT (ks.map eI)),(120,J ks.length),(121,J j)],[(1,o1),(23,Qm),(25,Kc),(27,⟨.row 109,true,al.map eU⟩),(29,⟨.box 106,f29,[.st 106 [C,.own 23 119 0 n,.own 25 4 0 n,.own 27 109 0 n]]⟩)]⟩→
 post (nJ 28) (aG ty (a9 (env 171 171292023879903695822898525277610645158843576191 Ql [(56,Sg),(57,R_),(58,NJ),(59,RG),(60,Qg),(61,RF)] [] A) nJ k (sub (f34.body.getD .skip) [1,1,1,1,1,0,1,0,0,1,0,0,1,0,1,0,0])) (nJ 28) (m+1) σ)=some (.exit 8,⟨[(1,v1),(4,pb 29 106),(10,v10),(11,.int .u8 ((ks.drop j).foldl (Qk al) s))],[(1,o1),(23,Qm),(25,Kc),(27,⟨.row 109,true,al.map eU⟩),(29,⟨.box 106,f29,[.st 106 [C,.own 23 119 0 n,.own 25 4 0 n,.own 27 109 0 n]]⟩)]⟩):=by
 simp only[f34,sub,Option.getD_some,ot];intro m
 induction m with
 | zero=>
   intro j s σ hj hσ;have h1:¬ ((j:Int) < (ks.length:Int)):=by omega
   have h8:ks.drop j=[]:=List.drop_of_length_le (by omega);rw[aG,hσ];simp only[go_sem,h1];simp[post,St.fin,aQ,aA,h8]
 | succ m ih=>
   intro j s σ hj hσ;have h1:(j:Int) < (ks.length:Int):=by omega
   have aR:j < ks.length:=by omega
   have cY:(0:Int)≤(j:Int):=Int.natCast_nonneg j;have hw:IntKind.i64.wrap ((j:Int)+1)=((j+1:Nat):Int):=a_ (by omega);have EG:ks[j]? = some (ks[j]'aR):=List.getElem?_eq_getElem aR;have hd:ks.drop j=ks[j]'aR::ks.drop (j+1):=List.drop_eq_getElem_cons aR;have hq:=yk _ (List.getElem_mem aR);rw[aG,hσ,hd,List.foldl_cons];generalize ks[j]=q at *;obtain⟨jB,vp⟩:=hq;have yH:q < (n:Int):=by omega
   have cq:=aD (d:=0) (show q.toNat < al.length by omega);simp only[Qk];simp only[go_sem,jz,gh,gj,h1,cY,EG,hw,jB,yH,cq,sk];exact ih (j+1) _ _ (by omega) (by simp only[go_sem])
theorem Kf (v1 v10:AV) (o1 Qm Kc:Abs.Obj) (C:AV) (f29:Bool) (n:Nat) (ks al:List Int) (vA:ks.length≤2) (yk:∀ q ∈ ks,0≤q) (A:NP) (k:Nat):∀ (m j:Nat) (s:Int) (σ:St),j+m=ks.length→
 σ.cA (nJ 36)=⟨[(1,v1),(4,pb 29 106),(10,v10),(11,.int .u8 s),(153,.sl 3 gT (ks.map eI)),(154,J ks.length),(155,J j)],[(1,o1),(23,Qm),(25,Kc),(27,⟨.row 109,true,al.map eU⟩),(29,⟨.box 106,f29,[.st 106 [C,.own 23 119 0 n,.own 25 4 0 n,.own 27 109 0 n]]⟩)]⟩→
 post (nJ 36) (aG ty (a9 (env 171 171292023879903695822898525277610645158843576191 Ql [(56,Sg),(57,R_),(58,NJ),(59,RG),(60,Qg),(61,RF)] [] A) nJ k (sub (f34.body.getD .skip) [1,1,1,1,1,0,1,0,0,1,0,0,1,1,1,0,1,0,0])) (nJ 36) (m+1) σ)=some (.exit 10,⟨[(1,v1),(4,pb 29 106),(10,v10),(11,.int .u8 ((ks.drop j).foldl (lA) s))],[(1,o1),(23,Qm),(25,Kc),(27,⟨.row 109,true,al.map eU⟩),(29,⟨.box 106,f29,[.st 106 [C,.own 23 119 0 n,.own 25 4 0 n,.own 27 109 0 n]]⟩)]⟩):=by
 simp only[f34,sub,Option.getD_some,ou];intro m
 induction m with
 | zero=>
   intro j s σ hj hσ;have h1:¬ ((j:Int) < (ks.length:Int)):=by omega
   have h8:ks.drop j=[]:=List.drop_of_length_le (by omega);rw[aG,hσ];simp only[go_sem,h1];simp[post,St.fin,aQ,aA,h8]
 | succ m ih=>
   intro j s σ hj hσ;have h1:(j:Int) < (ks.length:Int):=by omega
   have aR:j < ks.length:=by omega
   have cY:(0:Int)≤(j:Int):=Int.natCast_nonneg j;have hw:IntKind.i64.wrap ((j:Int)+1)=((j+1:Nat):Int):=a_ (by omega);have EG:ks[j]? = some (ks[j]'aR):=List.getElem?_eq_getElem aR;have hd:ks.drop j=ks[j]'aR::ks.drop (j+1):=List.drop_eq_getElem_cons aR;have hq:=yk _ (List.getElem_mem aR);rw[aG,hσ,hd,List.foldl_cons];generalize ks[j]=q at *;have e61:=Xt s q hq;simp only[go_sem,jz,gh,gj,h1,cY,EG,hw,e61];exact ih (j+1) _ _ (by omega) (by simp only[go_sem])
theorem Kg (Qm Kc:Abs.Obj) (hp:((LM N V I U)∧(LS U))∧aU N V I U=true) (A:NP) (k:Nat) (Zo:9≤k):∀ (m:Nat) (al:List Int) (σ:St),al.length=N.length→m≤N.length→
 σ.cA (nJ 24)=⟨[(1,pb 1 27),(4,pb 29 106),(10,J ((m:Int) - 1))],[(1,(bC N V I U)),(23,Qm),(25,Kc),(27,⟨.row 109,true,(al).map eU⟩),(29,⟨.box 106,false,[.st 106 [(cd N V I U),.own 23 119 0 N.length,.own 25 4 0 N.length,.own 27 109 0 N.length]]⟩)]⟩→
 post (nJ 24) (aG ty (a9 (env 171 171292023879903695822898525277610645158843576191 Ql [(56,Sg),(57,R_),(58,NJ),(59,RG),(60,Qg),(61,RF)] [] A) nJ k (sub (f34.body.getD .skip) [1,1,1,1,1,0,1,0,0])) (nJ 24) (m+1) σ)=some (.exit 6,⟨[(1,pb 1 27),(4,pb 29 106)],[(1,(bC N V I U)),(23,Qm),(25,Kc),(27,⟨.row 109,true,(ku N m al).map eU⟩),(29,⟨.box 106,false,[.st 106 [(cd N V I U),.own 23 119 0 N.length,.own 25 4 0 N.length,.own 27 109 0 N.length]]⟩)]⟩):=by
 simp only[f34,sub,Option.getD_some,yi];have hg:=dQ hp.2;have dO:=hp.1.1;intro m
 induction m with
 | zero=>
   intro al σ sk hm hσ;have h1:decide ((0:Int)≤((0:Nat):Int) - 1)=false:=by decide
   rw[aG,hσ];simp only[go_sem,h1];simp[post,St.fin,aQ,aA,ku]
 | succ m ih=>
   intro al σ sk hm hσ;have hm1:((m+1:Nat):Int) - 1=(m:Int):=by omega
   rw[hm1] at hσ;have h1:decide ((0:Int)≤(m:Int))=true:=by simp
   have aR:m < N.length:=by omega
   have cY:(0:Int)≤(m:Int):=Int.natCast_nonneg m;have yZ:(m:Int) < (N.length:Int):=by omega
   have hw:IntKind.i64.wrap ((m:Int) - 1)=(m:Int) - 1:=wrap_i64 (by omega) (by omega);have gU:=jr (hg.right m aR);have Qf:=EC gU;have K5:=Ol N V I U m hp.1;have de:(decide (0≤(m:Int))&&decide ((m:Int)≤(N.length:Int) - 1))=true:=by simp;omega
   simp only[kq,hp.2,de,Int.toNat_natCast,BL] at K5;have yE:=rZ hg m aR;have B5:=aD (d:=bD) aR;have cq:=aD (d:=0) (show m < al.length by omega);rw[aG,hσ];simp only[ku,yf];simp only[Int.toNat_natCast] at gU Qf;generalize N.getD m bD=x at *;have vA:(eG N m).length≤2:=by
    unfold eG;dsimp only;split
    ·simp
    split
    ·simp
    split
    ·split <;> simp
    simp
   have yk:∀ q ∈ eG N m,0≤q∧q.toNat < N.length:=fun q hq=>by have:=yE q hq;omega
   have Bm:(dW x.op x.a x.b).length≤2:=by
    unfold dW;split <;> split <;> simp
   have sY:=F_ x.op x.d x.a x.b x.n;have j9:=NK x.op x.d x.a x.b x.n;generalize eG N m=ks at *;generalize dW x.op x.a x.b=us at *;have hl:=Ke (.ptr 1 (.box 27) []) (J m) (bC N V I U) Qm Kc ((cd N V I U)) false N.length ks al vA sk yk A k ks.length 0 0;have vg:=fun s=>Kf (.ptr 1 (.box 27) []) (J m) (bC N V I U) Qm Kc ((cd N V I U)) false N.length us al Bm Qf A k us.length 0 s
   simp only[f34,sub,Option.getD_some,ot,ou,List.drop_zero] at hl vg;have vi:∀ v,(List.map eU al).set m (.int .u8 v)=List.map eU (al.set m v):=fun v=>cD eU al m v
   simp only[go_sem,jz,gh,gj,h1,cY,yZ,hw,K5,sY,j9,B5,cq,sk,vi,ot,ou];rw[aY (hl _ (by simp) (by simp only[go_sem])) (by omega)];simp only[go_sem,jz,gh,gj,h1,cY,yZ,hw,K5,sY,j9,B5,cq,sk,vi,ot,ou];generalize ks.foldl (Qk al) 0=s0 at *;cases hd:(a7 x.op).d
   ·rw[hd] at sY;simp only[BL] at sY ⊢;simp only[go_sem,jz,gh,gj,h1,cY,yZ,hw,K5,sY,j9,B5,cq,sk,vi,ot,ou];rw[aY (vg s0 _ (by simp) (by simp only[go_sem])) (by omega)];simp only[go_sem,jz,gh,gj,h1,cY,yZ,hw,K5,sY,j9,B5,cq,sk,vi,ot,ou];exact ih _ _ (by simpa using sk) (by omega) (by simp only[go_sem])
   ·rw[hd] at sY;simp only[BL] at sY ⊢;have e59:=Xu s0 x.d gU.d.1;simp only[go_sem,jz,gh,gj,h1,cY,yZ,hw,K5,sY,j9,B5,cq,sk,vi,ot,ou,e59];rw[aY (vg (fE s0 x.d) _ (by simp) (by simp only[go_sem])) (by omega)];simp only[go_sem,jz,gh,gj,h1,cY,yZ,hw,K5,sY,j9,B5,cq,sk,vi,ot,ou];exact ih _ _ (by simpa using sk) (by omega) (by simp only[go_sem])
def gz (n:Nat):List (List aB) × List Bool:=(List.replicate n (List.replicate 8 z0),(List.replicate n false).set 0 true)
def bz (N:List bp) (V:List Int) (U:List aP):List (List aB) × List Bool:=dT N V U N.length 0 (gz N.length)
def cz (N:List bp):List Int:=ku N N.length (List.replicate N.length 0)
theorem GB (n:Nat):Shape n (gz n):=⟨by simp[gz],by simp[gz],fun f hf=>by simp[gz] at hf;rw[hf.2];rfl⟩
theorem B7 {N:List bp} {V:List Int} {li ls:Nat} {U bK:List aP} (hg:Good N li ls bK) {i:Nat} (hi:i < N.length) {s:List (List aB) × List Bool} (h:Shape N.length s):Shape N.length (qc N V U i s):=by
 unfold qc;split
 ·exact nn (qd (h.get hi)) _ _ h fun k hk=>(rZ hg i hi k hk).2
 ·exact h
theorem yl {N:List bp} {V:List Int} {li ls:Nat} {U bK:List aP} (hg:Good N li ls bK):∀ (m i:Nat) (s:List (List aB) × List Bool),i+m≤N.length→Shape N.length s→Shape N.length (dT N V U m i s)
 | 0,_,s,_,h=>h
 | m+1,i,s,hi,h=>yl hg m (i+1) _ (by omega) (B7 hg (by omega) h)
theorem np {N:List bp} {V:List Int} {li ls:Nat} {U bK:List aP} (hg:Good N li ls bK):Shape N.length (bz N V U):=yl hg _ _ _ (by omega) (GB _)
theorem AT (N:List bp):∀ (m:Nat) (al:List Int),(ku N m al).length=al.length
 | 0,al=>rfl
 | m+1,al=>by rw[ku,AT N m];simp
theorem jI (N:List bp):(cz N).length=N.length:=by simp[cz,AT]
theorem B8 {α:Type} (f:α→AV) (n:Nat) (x:α):List.replicate n (f x)=(List.replicate n x).map f:=by simp
theorem nq {α:Type} (x:α) (n:Nat):fc x n=List.replicate n x:=by
 induction n with
 | zero=>rfl
 | succ n ih=>simp only[fc,ih,List.replicate_succ]
theorem age (hp:((LM N V I U)∧(LS U))∧aU N V I U=true) (A:NP):ak (env 171 171292023879903695822898525277610645158843576191 Ql [(56,Sg),(57,R_),(58,NJ),(59,RG),(60,Qg),(61,RF)] [] A) (nJ) (600) f34 [(cd N V I U)]=some (.ro false 106 (.st 106 [(cd N V I U),.sl 119 gT ((bz N V U).1.map aF),.sl 4 gT ((bz N V U).2.map eB),.sl 109 gT ((cz N).map eU)])):=by
 have hg:=dQ hp.2;have gq:=hg.pos;have hlen:=hg.len;have h1:decide ((0:Int) < (N.length:Int))=true:=by simp;omega
 have AU:(0:Int) < (N.length:Int):=by omega
 have lJ:IntKind.i64.wrap ((N.length:Int) - 1)=(N.length:Int) - 1:=wrap_i64 (by omega) (by omega);have GC:((N.length:Int) * 128≤140737488355328)=True:=by simp;omega
 have B9:((N.length:Int) * 1≤140737488355328)=True:=by simp;omega
 have GD:=B9;have he8:aF (List.replicate 8 z0) = .ar 119 [zP,zP,zP,zP,zP,zP,zP,zP]:=rfl;have OB:(List.replicate N.length (.ar 119 [zP,zP,zP,zP,zP,zP,zP,zP]):List AV)=(List.replicate N.length (List.replicate 8 z0)).map aF:=by rw[← he8];exact B8 aF _ _
 have OC:(List.replicate N.length (.bool false):List AV)=(List.replicate N.length false).map eB:=B8 eB _ _;have OD:(List.replicate N.length (.int .u8 0):List AV)=(List.replicate N.length (0:Int)).map eU:=B8 eU _ _;have OE:((List.replicate N.length false).map eB).set 0 (.bool true)=((List.replicate N.length false).set 0 true).map eB:=cD eB _ 0 true;have OF:(List.map eB (List.replicate N.length false))[0]? = some (AV.bool false):=by
  rw[List.getElem?_map,List.getElem?_replicate,if_pos (by omega)];rfl
 have hl6:=OA N V I U (List.replicate N.length 0) hp A 600 (by omega) N.length 0 (gz N.length).1 (gz N.length).2;have agf:=Kg N V I U ⟨.row 119,true,(bz N V U).1.map aF⟩ ⟨.row 4,true,(bz N V U).2.map eB⟩ hp A 600 (by omega) N.length (List.replicate N.length 0);simp only[f34,sub,Option.getD_some,EF,yi] at hl6 agf;simp only[ak,ai,f34];simp only[go_sem,jz,gh,gj,h1,GC,B9,GD,OB,OC,OD,OE,OF,AU,List.length_replicate,EF,yi,lJ];rw[aY (hl6 _ (GB _) (by simp) (by omega) (by simp only[go_sem,gz])) (by omega)];simp only[go_sem,jz,gh,gj,h1,GC,B9,GD,OB,OC,OD,OE,OF,AU,List.length_replicate,EF,yi,lJ]
 have hwS:dT N V U N.length 0 ((gz N.length).1,(gz N.length).2)=bz N V U:=rfl;rw[hwS];have ke:=np (V:=V) (U:=U) hg;have oO:(bz N V U).1.length=N.length:=ke.1;have ly:(bz N V U).2.length=N.length:=ke.2.1;have hs3:=jI N;rw[aY (agf _ (by simp) (Nat.le_refl _) (by simp only[go_sem,gz])) (by omega)];have hwL:ku N N.length (List.replicate N.length 0)=cz N:=rfl;rw[hwL];simp only[go_sem,jz,gh,gj,h1,GC,B9,GD,OB,OC,OD,OE,OF,AU,List.length_replicate,EF,yi,lJ,oO,ly,hs3];try rfl
noncomputable def qe:=bk (α:=(List bp) × (List Int) × (List ByteArray) × (List aP)) (fun (N,V,I,U)=>((LM N V I U)∧(LS U))∧aU N V I U=true) (fun (N,V,I,U)=>[(cd N V I U)]) (fun (N,V,I,U)=> .ro false 106 (.st 106 [(cd N V I U),.sl 119 gT ((bz N V U).1.map aF),.sl 4 gT ((bz N V U).2.map eB),.sl 109 gT ((cz N).map eU)]))
theorem B_ (hp:((LM N V I U)∧(LS U))∧aU N V I U=true):qe [(cd N V I U)]=some (.ro false 106 (.st 106 [(cd N V I U),.sl 119 gT ((bz N V U).1.map aF),.sl 4 gT ((bz N V U).2.map eB),.sl 109 gT ((cz N).map eU)])):=aJ (fun X Y hp bZ h'=>by
 obtain⟨N,V,I,U⟩:=X;obtain⟨c7,bJ,bL,bK⟩:=Y;simp only[cJ] at h';obtain⟨rfl,rfl,rfl,rfl⟩:=h';rfl) (N,V,I,U) hp
theorem OG:cI 34 qe:=aE h34 rfl rfl fun (N,V,I,U) hp=>rc h34 (fun A=>age N V I U hp A) (fun i=>match i with | 2=>[0,0,2,0,8,0,32,127,255,511] | 14=>[0,1,3,7,0,0,32,96,224,0,0,511,2559,8191,16383] | 18=>[0,1,3,7,0,0,31,127,255,0,512,1536,4095] | _=>[]) rfl rfl rfl (by kernel_rfl) ⟨aga,afG,Um,adH,Un,adF,trivial⟩ trivial
theorem fi:Q 26=some f26:=by kernel_rfl
theorem e_:Q 27=some f27:=by kernel_rfl
theorem sV:Q 28=some f28:=by kernel_rfl
def eC (g:Nat→Bool):List AV:=(List.range 8).map fun i=> .bool (g i)
theorem iW (g:Nat→Bool):(eC g).length=8:=by simp[eC]
theorem f_ (g:Nat→Bool) {i:Nat} (h:i < 8):(eC g)[i]? = some (.bool (g i)):=by simp[eC,h]
theorem kc {g h:Nat→Bool} (e:∀ i,i < 8→g i=h i):eC g=eC h:=by
 unfold eC;apply List.map_congr_left;intro i hi;rw[e i (by simpa using hi)]
theorem s7 (g:Nat→Bool) (r:Nat) (b:Bool):(eC g).set r (.bool b)=eC fun i=>if i=r then b else g i:=by
 apply List.ext_getElem?;intro j;rw[List.getElem?_set];by_cases hj:j < 8
 ·rw[f_ _ hj,f_ _ hj,iW];by_cases h:r=j
  ·subst h;simp[hj]
  ·have h2:¬ j=r:=fun e=>h e.symm
   simp[h,h2]
 ·have e1:(eC fun i=>if i=r then b else g i)[j]? = none:=List.getElem?_eq_none (by rw[iW];omega);have e2:(eC g)[j]? = none:=List.getElem?_eq_none (by rw[iW];omega);rw[e1,e2,iW];by_cases h:r=j
  ·subst h;simp[hj]
  ·simp[h]
def agh (g:Nat→Bool):AV:= .ar 50 (eC g)
def kB (a:Int):AV:=agh fun i=>dz a (i:Nat)
def U8 (a:Int):Prop:=0≤a∧a < 256
theorem GF:∀ (a:Fin 256) (r:Fin 8),dz ((a.val:Nat):Int) ((r.val:Nat):Int)=Nat.testBit a.val r.val:=by decide +kernel
theorem OH:∀ (a:Fin 256) (q r:Fin 8),(dz (lA ((a.val:Nat):Int) ((q.val:Nat):Int)) ((r.val:Nat):Int)==(dz ((a.val:Nat):Int) ((r.val:Nat):Int) || r.val==q.val))=true:=by decide +kernel
theorem EH:∀ (a:Fin 256) (q r:Fin 8),(dz (fE ((a.val:Nat):Int) ((q.val:Nat):Int)) ((r.val:Nat):Int)==(dz ((a.val:Nat):Int) ((r.val:Nat):Int)&& !(r.val==q.val)))=true:=by decide +kernel
theorem Zp:∀ (a:Fin 256) (q:Fin 8),(decide (0≤lA ((a.val:Nat):Int) ((q.val:Nat):Int))&&decide (lA ((a.val:Nat):Int) ((q.val:Nat):Int) < 256))=true:=by decide +kernel
theorem Kh:∀ (a:Fin 256) (q:Fin 8),(decide (0≤fE ((a.val:Nat):Int) ((q.val:Nat):Int))&&decide (fE ((a.val:Nat):Int) ((q.val:Nat):Int) < 256))=true:=by decide +kernel
theorem U8.nat {a:Int} (h:U8 a):∃ k:Fin 256,a=(k.val:Nat):=⟨⟨a.toNat,by have:=h.1;have:=h.2;omega⟩,by have:=h.1;simp;omega⟩
theorem Sh {q:Int} (h:0≤q∧q.toNat < 8):∃ k:Fin 8,q=(k.val:Nat):=⟨⟨q.toNat,h.2⟩,by have:=h.1;simp;omega⟩
theorem OI {a q:Int} (ha:U8 a) (hq:0≤q∧q.toNat < 8) {i:Nat} (hi:i < 8):dz (lA a q) i=if i=q.toNat then true else dz a i:=by
 obtain⟨a,rfl⟩:=ha.nat;obtain⟨q,rfl⟩:=Sh hq;have h:=eq_of_beq (OH a q ⟨i,hi⟩);rw[h];by_cases e:i=q.val
 ·simp[e]
 ·have e2:(i==q.val)=false:=by simpa using e
  simp[e]
theorem EI {a q:Int} (ha:U8 a) (hq:0≤q∧q.toNat < 8) {i:Nat} (hi:i < 8):dz (fE a q) i=if i=q.toNat then false else dz a i:=by
 obtain⟨a,rfl⟩:=ha.nat;obtain⟨q,rfl⟩:=Sh hq;have h:=eq_of_beq (EH a q ⟨i,hi⟩);rw[h];by_cases e:i=q.val
 ·simp[e]
 ·simp[e]
theorem OJ {a q:Int} (ha:U8 a) (hq:0≤q∧q.toNat < 8):U8 (lA a q):=by
 obtain⟨a,rfl⟩:=ha.nat;obtain⟨q,rfl⟩:=Sh hq;have h:=Zp a q;simp only[Bool.and_eq_true,decide_eq_true_eq] at h;exact h
theorem AW {a q:Int} (ha:U8 a) (hq:0≤q∧q.toNat < 8):U8 (fE a q):=by
 obtain⟨a,rfl⟩:=ha.nat;obtain⟨q,rfl⟩:=Sh hq;have h:=Kh a q;simp only[Bool.and_eq_true,decide_eq_true_eq] at h;exact h
theorem UF (a b:Fin 256):bV .or .u8 ((a.val:Nat):Int) ((b.val:Nat):Int)=((a.val ||| b.val:Nat):Int):=by
 have e:bV .or .u8 ((a.val:Nat):Int) ((b.val:Nat):Int)=IntKind.u8.wrap ((BitVec.ofInt 8 ((a.val:Nat):Int) ||| BitVec.ofInt 8 ((b.val:Nat):Int)).toNat:Int):=rfl;have aR:a.val ||| b.val < 2 ^ 8:=Nat.or_lt_two_pow a.isLt b.isLt
 rw[e];have e2:(BitVec.ofInt 8 ((a.val:Nat):Int) ||| BitVec.ofInt 8 ((b.val:Nat):Int)).toNat=a.val ||| b.val:=by
  have ha:=a.isLt;have hb:=b.isLt;rw[BitVec.toNat_or,BitVec.ofInt_natCast,BitVec.ofInt_natCast,BitVec.toNat_ofNat,BitVec.toNat_ofNat,Nat.mod_eq_of_lt (by omega),Nat.mod_eq_of_lt (by omega)]
 rw[e2];have e3:IntKind.u8.wrap ((a.val ||| b.val:Nat):Int)=((a.val ||| b.val:Nat):Int) % 256:=by simp[IntKind.wrap,IntKind.bits,IntKind.signed]
 rw[e3];omega
theorem Zq {a b:Int} (ha:U8 a) (hb:U8 b) {i:Nat} (hi:i < 8):dz (bV .or .u8 a b) i=(dz a i || dz b i):=by
 obtain⟨a,rfl⟩:=ha.nat;obtain⟨b,rfl⟩:=hb.nat;rw[UF,GF a ⟨i,hi⟩,GF b ⟨i,hi⟩];have aR:a.val ||| b.val < 256:=Nat.or_lt_two_pow (n:=8) a.isLt b.isLt
 rw[GF ⟨a.val ||| b.val,aR⟩ ⟨i,hi⟩];simp
theorem agi {a b:Int} (ha:U8 a) (hb:U8 b):U8 (bV .or .u8 a b):=by
 obtain⟨a,rfl⟩:=ha.nat;obtain⟨b,rfl⟩:=hb.nat;rw[UF];have aR:a.val ||| b.val < 256:=Nat.or_lt_two_pow (n:=8) a.isLt b.isLt
 unfold U8;omega
def qf (s x:Int) (r i:Nat):Bool:=if i < r then (dz s i || dz x i) else dz s i
theorem OK (s x:Int) (r:Nat):(eC (qf s x r)).set r (.bool (dz s r || dz x r))=eC (qf s x (r+1)):=by
 rw[s7];apply kc;intro i hi;unfold qf;by_cases h:i=r
 ·subst h;simp
 ·have e:(i < r+1)=(i < r):=propext ⟨fun h2=>by omega,fun h2=>by omega⟩;simp[h,e]
theorem OL (s x:Int):eC (qf s x 0)=eC fun i=>dz s (i:Nat):=kc fun i _=>by simp[qf]
theorem Si {s x:Int} (hs:U8 s) (hx:U8 x):eC (qf s x 8)=eC fun i=>dz (bV .or .u8 s x) (i:Nat):=kc fun i hi=>by rw[Zq hs hx hi];simp[qf,hi]
theorem Zr (s x:Int) (r:Nat):qf s x r r=dz s r:=by simp[qf]
theorem Ki {a q:Int} (ha:U8 a) (hq:0≤q∧q.toNat < 8):(eC fun i=>dz a (i:Nat)).set q.toNat (.bool true)=eC fun i=>dz (lA a q) (i:Nat):=by
 rw[s7];exact kc fun i hi=>by rw[OI ha hq hi]
theorem Ca {a q:Int} (ha:U8 a) (hq:0≤q∧q.toNat < 8):(eC fun i=>dz a (i:Nat)).set q.toNat (.bool false)=eC fun i=>dz (fE a q) (i:Nat):=by
 rw[s7];exact kc fun i hi=>by rw[EI ha hq hi]
end Go.Proofs.Tryz
end
