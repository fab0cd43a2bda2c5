/- A part of a proof. -/
import Derived.Test.YtbdbjpdlcemeaaaGreatDoorRu05
import Derived.Test.YtbdbjpdlcemeaaaGreatDoorRu17
set_option linter.unusedSimpArgs false
set_option linter.unusedVariables false
section
set_option maxHeartbeats 4000000
set_option maxRecDepth 20000
namespace Go.Proofs.Tryz
open Go Go.Abs
variable (N : List bp) (V : List Int) (I : List ByteArray) (U : List aP) (ao : List (List aB)) (aj : List Bool) (au : List Int)
def nK (q:Int) (N:List bp) (i:Nat):List bp:=((N.take i).eraseIdx q.toNat).map (me q)
def pc (q:Int) (U:List aP) (i:Nat):List aP:=(ek q (U.take i)).map (iR q)
theorem KD {q:Int} {N:List bp} {i:Nat} (h0:0≤q) (h:i < N.length):nK q N (i+1)=if ((i:Int)==q)=true then nK q N i else nK q N i++[me q (N[i]'h)]:=by
 have ht:N.take (i+1)=N.take i++[N[i]'h]:=by rw[List.take_add_one,List.getElem?_eq_getElem h];rfl
 have hl:(N.take i).length=i:=by rw[List.length_take];omega
 unfold nK;rw[ht];by_cases hq:(i:Int)=q
 ·have e1:(N.take i++[N[i]'h]).eraseIdx q.toNat=N.take i:=by
   rw[List.eraseIdx_append_of_length_le (by omega),show q.toNat - (N.take i).length=0 by omega];simp
  rw[if_pos (by simpa using hq),e1,List.eraseIdx_of_length_le (by omega)]
 ·rw[if_neg (by simpa using hq)];by_cases aR:q.toNat < i
  ·rw[List.eraseIdx_append_of_lt_length (by omega),List.map_append];rfl
  ·have e1:(N.take i++[N[i]'h]).eraseIdx q.toNat=N.take i++[N[i]'h]:=List.eraseIdx_of_length_le (by simp;omega);rw[e1,List.eraseIdx_of_length_le (by omega),List.map_append];rfl
theorem SW (q:Int) (N:List bp) (i:Nat):(nK q N i).length≤N.length:=by
 unfold nK;have h1:=List.length_eraseIdx_le (N.take i) q.toNat;rw[List.length_map];have h2:(N.take i).length≤N.length:=by rw[List.length_take];omega
 omega
theorem Pp (q:Int) (N:List bp):nK q N N.length=(N.eraseIdx q.toNat).map (me q):=by unfold nK;rw[List.take_length]
theorem KE {q:Int} {U:List aP} {i:Nat} (h:i < U.length):pc q U (i+1)=if ((U[i]'h).at_==q)=true then pc q U i else pc q U i++[iR q (U[i]'h)]:=by
 have ht:U.take (i+1)=U.take i++[U[i]'h]:=by rw[List.take_add_one,List.getElem?_eq_getElem h];rfl
 unfold pc ek;rw[ht,List.filter_append];cases hq:((U[i]'h).at_==q) <;> simp[hq]
theorem SX (q:Int) (U:List aP) (i:Nat):(pc q U i).length≤U.length:=by
 unfold pc ek;rw[List.length_map];have h1:=List.length_filter_le (fun r:aP=> !(r.at_==q)) (U.take i);have h2:(U.take i).length≤U.length:=by rw[List.length_take];omega
 omega
theorem Pq (q:Int) (U:List aP):pc q U U.length=(ek q U).map (iR q):=by unfold pc;rw[List.take_length]
theorem h69:Q 69=some f69:=by kernel_rfl
def GW:Nat→Hint:=fun i=>if i=5 then ({ tm:=[1,2,4,5,6],ob:=[2,4,5,14,20,59,1059],sl:=[(5,1059,80)],fin:=some ([1,2,4,5],[2,4,5,14,20,1059]) }:Hint) else if i=13 then ({ tm:=[1,2,4,5,8],ob:=[2,4,5,14,20,1059,89,1089],sl:=[(5,1089,90)],fin:=some ([4,5],[2,4,5,14,20,1059,1089]) }:Hint) else { tm:=[],ob:=[] }
theorem EV:GW 5=({ tm:=[1,2,4,5,6],ob:=[2,4,5,14,20,59,1059],sl:=[(5,1059,80)],fin:=some ([1,2,4,5],[2,4,5,14,20,1059]) }:Hint):=by simp[GW]
theorem yB:GW 13=({ tm:=[1,2,4,5,8],ob:=[2,4,5,14,20,1059,89,1089],sl:=[(5,1089,90)],fin:=some ([4,5],[2,4,5,14,20,1059,1089]) }:Hint):=by simp[GW]
theorem Pr (q:Int) (hp:(LM N V I U)∧0≤q∧(∀ o ∈ N,bM o.n)∧∀ r ∈ U,bM r.at_) (A:NP) (k:Nat):∀ (m i:Nat) (σ:St),i+m=N.length→
 (σ.cA (GW 5)).nw ty (GW 5).sl=⟨[(1,J q),(2,pb 2 27),(4,pb 4 27),(5,pb 5 27),(6,J i)],[(5,⟨.box 27,true,[.st 27 [.own 1059 80 0 (nK q N (i)).length,.own 14 2 0 V.length,.own 20 9 0 I.length,.sl 90 gN []]]⟩),(1059,⟨.row 80,true,(nK q N (i)).map dD⟩),(2,(bC N V I U)),(4,⟨.box 27,true,[n4]⟩),(14,⟨.row 2,false,V.map eI⟩),(20,⟨.row 9,false,I.map eS⟩)]⟩→
 post (GW 5) (aG ty (a9 (env 92 1284520594983826982175735 D0 [] [] A) GW k (sub (f69.body.getD .skip) [1,1,1,1,0,1,0,0])) (GW 5) (m+1) σ)=some (.exit 0,⟨[(1,J q),(2,pb 2 27),(4,pb 4 27),(5,pb 5 27)],[(2,(bC N V I U)),(4,⟨.box 27,true,[n4]⟩),(5,⟨.box 27,true,[.st 27 [.own 1059 80 0 (nK q N N.length).length,.own 14 2 0 V.length,.own 20 9 0 I.length,.sl 90 gN []]]⟩),(14,⟨.row 2,false,V.map eI⟩),(20,⟨.row 9,false,I.map eS⟩),(1059,⟨.row 80,true,(nK q N N.length).map dD⟩)]⟩):=by
 simp only[f69,sub,Option.getD_some,EV];intro m
 induction m with
 | zero=>
   intro i σ hi hσ;have h1:¬ ((i:Int) < ((N.length:Nat):Int)):=by omega
   have hie:i=N.length:=by omega
   rw[aG,hσ];simp only[go_sem,h1];simp[post,St.fin,aQ,aA,hie]
 | succ m ih=>
   intro i σ hi hσ;have h1:(i:Int) < ((N.length:Nat):Int):=by omega
   have aR:i < N.length:=by omega
   have cY:(0:Int)≤(i:Int):=Int.natCast_nonneg i;have hw:IntKind.i64.wrap ((i:Int)+1)=((i+1:Nat):Int):=a_ (by have:=hp.1;omega);have dO:=hp.1;have aw:=aD (d:=bD) aR;rw[show N.getD i bD=N[i]'aR by simp[List.getD,List.getElem?_eq_getElem aR]] at aw;have fL:=KD hp.2.1 aR;have hle:=SW q N i;have hr0:=hp.2.2.1 _ (List.getElem_mem aR);have Fz:decide (((nK q N i).length+1) * 40≤140737488355328)=true:=by simp;omega
   have Dc:(nK q N i).length+1≤140737488355328:=by omega
   rw[aG,hσ];generalize N[i]=x at *;have ke:me q x=if ((x.op==24 || x.op==25)&&decide (q < x.n))=true then ⟨x.op,x.d,x.a,x.b,x.n - 1⟩ else x:=rfl
   have p_:q < x.n→IntKind.i64.wrap (x.n - 1)=x.n - 1:=fun h=>by unfold bM at hr0;exact wrap_i64 (by omega) (by omega)
   have jB:=hp.2.1;cases gM:(x.op==24) <;> cases dU:(x.op==25) <;> cases hn:decide (q < x.n) <;> cases US:((i:Int)==q)
   all_goals
    have ahO:=fun h=>p_ (of_decide_eq_true (hn.trans h))
    simp only[gM,dU,hn,US,BL] at ke;simp only[US,BL] at fL;try simp only[reduceCtorEq,forall_const] at ahO
    have hml:=congrArg List.length fL;have hmm:=congrArg (List.map dD) fL;try simp only[List.length_append,List.length_cons,List.length_nil,List.map_append,List.map_cons,List.map_nil,ke,dD] at hml hmm
    simp only[go_sem,h1,cY,hw,aw,gM,dU,hn,US,ahO,Fz,Dc];exact ih (i+1) _ (by omega) (by simp only[go_sem,St.slot,k7,jS,jT,List.map_cons,List.map_nil,hml,hmm])
theorem KF (q:Int) (hp:(LM N V I U)∧0≤q∧(∀ o ∈ N,bM o.n)∧∀ r ∈ U,bM r.at_) (xs:List bp) (A:NP) (k:Nat):∀ (m i:Nat) (σ:St),i+m=U.length→
 (σ.cA (GW 13)).nw ty (GW 13).sl=⟨[(1,J q),(2,pb 2 27),(4,pb 4 27),(5,pb 5 27),(8,J i)],[(5,⟨.box 27,true,[.st 27 [.own 1059 80 0 xs.length,.own 14 2 0 V.length,.own 20 9 0 I.length,.own 1089 90 0 (pc q U (i)).length]]⟩),(1089,⟨.row 90,true,(pc q U (i)).map b_⟩),(2,(bC N V I U)),(4,⟨.box 27,true,[n4]⟩),(14,⟨.row 2,false,V.map eI⟩),(20,⟨.row 9,false,I.map eS⟩),(1059,⟨.row 80,true,xs.map dD⟩)]⟩→
 post (GW 13) (aG ty (a9 (env 92 1284520594983826982175735 D0 [] [] A) GW k (sub (f69.body.getD .skip) [1,1,1,1,1,0,1,0,0])) (GW 13) (m+1) σ)=some (.exit 2,⟨[(4,pb 4 27),(5,pb 5 27)],[(2,(bC N V I U)),(4,⟨.box 27,true,[n4]⟩),(5,⟨.box 27,true,[.st 27 [.own 1059 80 0 xs.length,.own 14 2 0 V.length,.own 20 9 0 I.length,.own 1089 90 0 (pc q U U.length).length]]⟩),(14,⟨.row 2,false,V.map eI⟩),(20,⟨.row 9,false,I.map eS⟩),(1059,⟨.row 80,true,xs.map dD⟩),(1089,⟨.row 90,true,(pc q U U.length).map b_⟩)]⟩):=by
 simp only[f69,sub,Option.getD_some,yB];intro m
 induction m with
 | zero=>
   intro i σ hi hσ;have h1:¬ ((i:Int) < ((U.length:Nat):Int)):=by omega
   have hie:i=U.length:=by omega
   rw[aG,hσ];simp only[go_sem,h1];simp[post,St.fin,aQ,aA,hie]
 | succ m ih=>
   intro i σ hi hσ;have h1:(i:Int) < ((U.length:Nat):Int):=by omega
   have aR:i < U.length:=by omega
   have cY:(0:Int)≤(i:Int):=Int.natCast_nonneg i;have hw:IntKind.i64.wrap ((i:Int)+1)=((i+1:Nat):Int):=a_ (by have:=hp.1;omega);have dO:=hp.1;have aw:=aD (d:=(⟨0,0,⟨#[]⟩,⟨#[]⟩⟩:aP)) aR;rw[show U.getD i ⟨0,0,⟨#[]⟩,⟨#[]⟩⟩=U[i]'aR by simp[List.getD,List.getElem?_eq_getElem aR]] at aw;have fL:=KE (q:=q) aR;have hle:=SX q U i;have hr0:=hp.2.2.2 _ (List.getElem_mem aR);have Fz:decide (((pc q U i).length+1) * 48≤140737488355328)=true:=by simp;omega
   have Dc:(pc q U i).length+1≤140737488355328:=by omega
   rw[aG,hσ];generalize U[i]=x at *;have ke:iR q x=if q < x.at_ then ⟨x.kind,x.at_ - 1,x.str,x.mem⟩ else x:=rfl
   have p_:q < x.at_→IntKind.i64.wrap (x.at_ - 1)=x.at_ - 1:=fun h=>by unfold bM at hr0;exact wrap_i64 (by have:=hp.2.1;omega) (by omega)
   cases US:(x.at_==q)
   rotate_left
   ·rw[US] at fL;simp only[BL] at fL;simp only[go_sem,h1,cY,hw,aw,US];exact ih (i+1) _ (by omega) (by simp only[go_sem,St.slot,k7,jS,jT,List.map_cons,List.map_nil,fL])
   by_cases hn:q < x.at_;all_goals
    simp only[US,hn,BL] at ke fL p_;try simp only[forall_const] at p_
    have hml:=congrArg List.length fL;have hmm:=congrArg (List.map b_) fL;try simp only[List.length_append,List.length_cons,List.length_nil,List.map_append,List.map_cons,List.map_nil,ke,b_] at hml hmm
    simp only[go_sem,h1,cY,hw,aw,US,hn,p_,Fz,Dc];exact ih (i+1) _ (by omega) (by simp only[go_sem,St.slot,k7,jS,jT,List.map_cons,List.map_nil,hml,hmm])
theorem ahQ (q:Int) (hp:(LM N V I U)∧0≤q∧(∀ o ∈ N,bM o.n)∧∀ r ∈ U,bM r.at_) :∃ r,wk r (ax (cf N V I U q))∧∀ A,ak (env 92 1284520594983826982175735 D0 [] [] A) (GW) (100010) f69 [(cd N V I U),J q]=some r:=by
 obtain⟨⟨l1,l2,l3,l4⟩,h0,_,_⟩:=id hp;have r2:decide (V.length * 8≤140737488355328)=true:=by simp;omega
 have r3:decide (I.length * 16≤140737488355328)=true:=by simp;omega
 have q2:V.length≤140737488355328:=by omega
 have q3:I.length≤140737488355328:=by omega
 have z1:(nK q N 0)=[]:=by simp[nK]
 have z2:(pc q U 0)=[]:=by simp[pc,ek]
 have hl1:=fun A=>Pr N V I U q hp A 100010 N.length 0
 have vg:=fun A=>KF N V I U q hp (nK q N N.length) A 100010 U.length 0
 simp only[f69,sub,Option.getD_some,EV,yB] at hl1 vg;unfold cf;rw[← Pp,← Pq];generalize nK q N N.length=xs at *;apply bu
 ·intro A;simp only[ak,ai,f69];simp only[go_sem,EV,yB,r2,r3,q2,q3];rw[aY (hl1 A _ (by simp) (by simp only[go_sem,St.slot,k7,jS,jT,List.map_cons,List.map_nil,z1,List.length_nil])) (by omega)];simp only[go_sem,EV,yB,r2,r3,q2,q3];rw[aY (vg A _ (by simp) (by simp only[go_sem,St.slot,k7,jS,jT,List.map_cons,List.map_nil,z2,List.length_nil])) (by omega)];simp only[go_sem,EV,yB,r2,r3,q2,q3];try rfl
 ·simp[WK,ax]
noncomputable def c69:=bk (α:=(List bp) × (List Int) × (List ByteArray) × (List aP) × Int) (fun (N,V,I,U,q)=>(LM N V I U)∧0≤q∧(∀ o ∈ N,bM o.n)∧∀ r ∈ U,bM r.at_) (fun (N,V,I,U,q)=>[(cd N V I U),J q]) (fun (N,V,I,U,q)=>ax (cf N V I U q))
theorem GX (q:Int) (hp:(LM N V I U)∧0≤q∧(∀ o ∈ N,bM o.n)∧∀ r ∈ U,bM r.at_):c69 [(cd N V I U),J q]=some (ax (cf N V I U q)):=aJ (fun X Y hp bZ h'=>by
 obtain⟨N,V,I,U,q⟩:=X;obtain⟨c7,bJ,bL,bK,q'⟩:=Y;simp only[db,cJ] at h';obtain⟨rfl,rfl,rfl,rfl,rfl⟩:=h';rfl) (N,V,I,U,q) hp
theorem Ps:cI 69 c69:=aE h69 rfl rfl fun (N,V,I,U,q) hp=>let ⟨_,hw,hr⟩:=ahQ N V I U q hp;(rc h69 hr (fun _=>[]) rfl rfl rfl (by kernel_rfl) trivial trivial).eK hw
def l6 (N:List bp) (V:List Int) (I:List ByteArray) (U:List aP) (q:Int) (b:Bool) (f:List aB):aL × Bool:=
 let o:=N.getD q.toNat bD
 let fa:=f.getD o.a.toNat ⟨0,0⟩
 let fb:=f.getD o.b.toNat ⟨0,0⟩
 let ca:=b&&((a7 o.op).a&&fa.sort==2)
 let cb:=b&&((a7 o.op).b&&fb.sort==2)
 (⟨N.set q.toNat ⟨o.op,o.d,if ca=true then fa.n else o.a,if cb=true then fb.n else o.b,o.n⟩,V,I,U⟩,ca || cb)
theorem h66:Q 66=some f66:=by kernel_rfl
theorem ahS (q:Int) (b:Bool) (f:List aB) (hp:RW N V I U q f) :∃ r,wk r (aT (l6 N V I U q b f))∧∀ A,ak (env 73 36028805608900591 D0 [(42,CG)] [(10,SU)] A) hN (5) f66 [(cd N V I U),J q,aC b f]=some r:=by
 obtain⟨hl,i200,h0,aR,f8,⟨⟨cv,gV⟩,⟨dJ,jM⟩,⟨yJ,rV⟩⟩,GY,CB,CC,FE,hrn⟩:=hp;have aO:q < (N.length:Int):=by omega
 have aw:=aD (d:=bD) aR;have fj:IntKind.i64.wrap (q+1)=q+1:=wrap_i64 (by omega) (by omega);have qp:=tb N V I U hl;unfold l6;dsimp only;generalize N.getD q.toNat bD=x at *;have nt:x.a < (8:Int):=by omega
 have iJ:x.b < (8:Int):=by omega
 have cq:=aD (d:=(⟨0,0⟩:aB)) (show x.a.toNat < f.length by omega);have cu:=aD (d:=(⟨0,0⟩:aB)) (show x.b.toNat < f.length by omega);have hfa:=FE _ (eP (show x.a.toNat < f.length by omega));have Ux:=FE _ (eP (show x.b.toNat < f.length by omega));generalize f.getD x.a.toNat ⟨0,0⟩=fa at *;generalize f.getD x.b.toNat ⟨0,0⟩=fb at *;have jv:=fV x.op;have bH:=fun a' b'=>cD dD N q.toNat ⟨x.op,x.d,a',b',x.n⟩
 simp only[dD] at bH;cases b
 ·simp only[BL];apply bu
  ·intro A;simp only[ak,ai,f66];simp only[go_sem,qp,jv,bw,aw,bH,h0,aO,f8,cv,gV,nt,dJ,jM,iJ,cq,cu,aC,aV];try rfl
  ·simp[WK,aT,ax,eN]
 ·cases k1:(a7 x.op).a
  ·cases k2:(a7 x.op).b
   ·simp only[k1,k2,BL];apply bu
    ·intro A;simp only[ak,ai,f66];simp only[go_sem,k1,k2,qp,jv,bw,aw,bH,h0,aO,f8,cv,gV,nt,dJ,jM,iJ,cq,cu,aC,aV];try rfl
    ·simp[WK,aT,ax,eN]
   ·cases k4:(fb.sort==2)
    ·simp only[k1,k2,k4,BL];apply bu
     ·intro A;simp only[ak,ai,f66];simp only[go_sem,k1,k2,k4,qp,jv,bw,aw,bH,h0,aO,f8,cv,gV,nt,dJ,jM,iJ,cq,cu,aC,aV];try rfl
     ·simp[WK,aT,ax,eN]
    ·simp only[k1,k2,k4,BL];apply bu
     ·intro A;simp only[ak,ai,f66];simp only[go_sem,k1,k2,k4,qp,jv,bw,aw,bH,h0,aO,f8,cv,gV,nt,dJ,jM,iJ,cq,cu,aC,aV];try rfl
     ·simp[WK,aT,ax,eN]
  ·cases k2:(a7 x.op).b
   ·cases k3:(fa.sort==2)
    ·simp only[k1,k2,k3,BL];apply bu
     ·intro A;simp only[ak,ai,f66];simp only[go_sem,k1,k2,k3,qp,jv,bw,aw,bH,h0,aO,f8,cv,gV,nt,dJ,jM,iJ,cq,cu,aC,aV];try rfl
     ·simp[WK,aT,ax,eN]
    ·simp only[k1,k2,k3,BL];apply bu
     ·intro A;simp only[ak,ai,f66];simp only[go_sem,k1,k2,k3,qp,jv,bw,aw,bH,h0,aO,f8,cv,gV,nt,dJ,jM,iJ,cq,cu,aC,aV];try rfl
     ·simp[WK,aT,ax,eN]
   ·cases k3:(fa.sort==2)
    ·cases k4:(fb.sort==2)
     ·simp only[k1,k2,k3,k4,BL];apply bu
      ·intro A;simp only[ak,ai,f66];simp only[go_sem,k1,k2,k3,k4,qp,jv,bw,aw,bH,h0,aO,f8,cv,gV,nt,dJ,jM,iJ,cq,cu,aC,aV];try rfl
      ·simp[WK,aT,ax,eN]
     ·simp only[k1,k2,k3,k4,BL];apply bu
      ·intro A;simp only[ak,ai,f66];simp only[go_sem,k1,k2,k3,k4,qp,jv,bw,aw,bH,h0,aO,f8,cv,gV,nt,dJ,jM,iJ,cq,cu,aC,aV];try rfl
      ·simp[WK,aT,ax,eN]
    ·cases k4:(fb.sort==2)
     ·simp only[k1,k2,k3,k4,BL];apply bu
      ·intro A;simp only[ak,ai,f66];simp only[go_sem,k1,k2,k3,k4,qp,jv,bw,aw,bH,h0,aO,f8,cv,gV,nt,dJ,jM,iJ,cq,cu,aC,aV];try rfl
      ·simp[WK,aT,ax,eN]
     ·simp only[k1,k2,k3,k4,BL];apply bu
      ·intro A;simp only[ak,ai,f66];simp only[go_sem,k1,k2,k3,k4,qp,jv,bw,aw,bH,h0,aO,f8,cv,gV,nt,dJ,jM,iJ,cq,cu,aC,aV];try rfl
      ·simp[WK,aT,ax,eN]
noncomputable def c66:=bk (α:=(List bp) × (List Int) × (List ByteArray) × (List aP) × Int × Bool × (List aB)) (fun (N,V,I,U,q,b,f)=>RW N V I U q f) (fun (N,V,I,U,q,b,f)=>[(cd N V I U),J q,aC b f]) (fun (N,V,I,U,q,b,f)=>aT (l6 N V I U q b f))
theorem aaU (q:Int) (b:Bool) (f:List aB) (hp:RW N V I U q f):c66 [(cd N V I U),J q,aC b f]=some (aT (l6 N V I U q b f)):=aJ (fun X Y hp bZ h'=>by
 obtain⟨N,V,I,U,q,b,f⟩:=X;obtain⟨c7,bJ,bL,bK,q',b',f'⟩:=Y;simp only[db,cJ] at h';obtain⟨rfl,rfl,rfl,rfl,rfl,rfl,rfl⟩:=h';rfl) (N,V,I,U,q,b,f) hp
theorem ahU:cI 66 c66:=aE h66 rfl rfl fun (N,V,I,U,q,b,f) hp=>let ⟨_,hw,hr⟩:=ahS N V I U q b f hp;(rc h66 hr (fun _=>[]) rfl rfl rfl (by kernel_rfl) ⟨uT,trivial⟩ ⟨A2,trivial⟩).eK hw
def l7 (N:List bp) (V:List Int) (I:List ByteArray) (U:List aP) (q:Int):aL × Bool:=
 let o:=N.getD q.toNat bD
 let t:=N.getD o.n.toNat bD
 if (o.op==24 || o.op==25)=true then
  if (t.op==24)=true then (⟨N.set q.toNat ⟨o.op,o.d,o.a,o.b,t.n⟩,V,I,U⟩,true)
  else (cf N V I U q,o.op==24&&o.n==q+1)
 else eN
theorem h68:Q 68=some f68:=by kernel_rfl
theorem ahV (q:Int) (hp:((LM N V I U)∧0≤q∧(∀ o ∈ N,bM o.n)∧∀ r ∈ U,bM r.at_)∧q.toNat < N.length∧(((N.getD q.toNat bD).op==24 || (N.getD q.toNat bD).op==25)=true→0≤(N.getD q.toNat bD).n∧(N.getD q.toNat bD).n.toNat < N.length)) :∃ r,wk r (aT (l7 N V I U q))∧∀ A,ak (env 59 268959863 D0 [(69,c69)] [(10,SU)] A) hN (5) f68 [(cd N V I U),J q]=some r:=by
 obtain⟨⟨hl,h0,CC,hrn⟩,aR,CB⟩:=hp;have aO:q < (N.length:Int):=by omega
 have aw:=aD (d:=bD) aR;have fj:IntKind.i64.wrap (q+1)=q+1:=wrap_i64 (by omega) (by omega);have qp:=tb N V I U hl;have Fe:=GX N V I U q ⟨hl,h0,CC,hrn⟩;unfold l7;dsimp only;generalize N.getD q.toNat bD=x at *;generalize cf N V I U q=rm at *;simp only[ax] at Fe;obtain⟨y,hy⟩:∃ y,N.getD x.n.toNat bD=y:=⟨_,rfl⟩
 rw[hy];have bH:=cD dD N q.toNat ⟨x.op,x.d,x.a,x.b,y.n⟩;simp only[dD] at bH;cases gM:(x.op==24)
 ·cases dU:(x.op==25)
  ·simp only[gM,dU,BL];apply bu
   ·intro A;simp only[ak,ai,f68];simp only[go_sem,gM,dU,aw,h0,aO];try rfl
   ·simp[WK,aT,ax,eN]
  ·cases t:(y.op==24)
   ·obtain⟨kH,tB⟩:=CB (by simp only[gM,dU,BL]);have C9:x.n < (N.length:Int):=by omega
    have CI:=aD (d:=bD) tB;rw[hy] at CI;simp only[gM,dU,t,BL];apply bu
    ·intro A;simp only[ak,ai,f68];simp only[go_sem,gM,dU,t,qp,Fe,ax,aw,bH,h0,aO,fj,kH,C9,CI];try rfl
    ·simp[WK,aT,ax,eN]
   ·obtain⟨kH,tB⟩:=CB (by simp only[gM,dU,BL]);have C9:x.n < (N.length:Int):=by omega
    have CI:=aD (d:=bD) tB;rw[hy] at CI;simp only[gM,dU,t,BL];apply bu
    ·intro A;simp only[ak,ai,f68];simp only[go_sem,gM,dU,t,qp,Fe,ax,aw,bH,h0,aO,fj,kH,C9,CI];try rfl
    ·simp[WK,aT,ax,eN]
 ·cases t:(y.op==24)
  ·cases e:(x.n==q+1)
   ·obtain⟨kH,tB⟩:=CB (by simp only[gM,BL]);have C9:x.n < (N.length:Int):=by omega
    have CI:=aD (d:=bD) tB;rw[hy] at CI;simp only[gM,t,e,BL];apply bu
    ·intro A;simp only[ak,ai,f68];simp only[go_sem,gM,t,e,qp,Fe,ax,aw,bH,h0,aO,fj,kH,C9,CI];try rfl
    ·simp[WK,aT,ax,eN]
   ·obtain⟨kH,tB⟩:=CB (by simp only[gM,BL]);have C9:x.n < (N.length:Int):=by omega
    have CI:=aD (d:=bD) tB;rw[hy] at CI;simp only[gM,t,e,BL];apply bu
    ·intro A;simp only[ak,ai,f68];simp only[go_sem,gM,t,e,qp,Fe,ax,aw,bH,h0,aO,fj,kH,C9,CI];try rfl
    ·simp[WK,aT,ax,eN]
  ·obtain⟨kH,tB⟩:=CB (by simp only[gM,BL]);have C9:x.n < (N.length:Int):=by omega
   have CI:=aD (d:=bD) tB;rw[hy] at CI;simp only[gM,t,BL];apply bu
   ·intro A;simp only[ak,ai,f68];simp only[go_sem,gM,t,qp,Fe,ax,aw,bH,h0,aO,fj,kH,C9,CI];try rfl
   ·simp[WK,aT,ax,eN]
noncomputable def c68:=bk (α:=(List bp) × (List Int) × (List ByteArray) × (List aP) × Int) (fun (N,V,I,U,q)=>((LM N V I U)∧0≤q∧(∀ o ∈ N,bM o.n)∧∀ r ∈ U,bM r.at_)∧q.toNat < N.length∧(((N.getD q.toNat bD).op==24 || (N.getD q.toNat bD).op==25)=true→0≤(N.getD q.toNat bD).n∧(N.getD q.toNat bD).n.toNat < N.length)) (fun (N,V,I,U,q)=>[(cd N V I U),J q]) (fun (N,V,I,U,q)=>aT (l7 N V I U q))
theorem aaV (q:Int) (hp:((LM N V I U)∧0≤q∧(∀ o ∈ N,bM o.n)∧∀ r ∈ U,bM r.at_)∧q.toNat < N.length∧(((N.getD q.toNat bD).op==24 || (N.getD q.toNat bD).op==25)=true→0≤(N.getD q.toNat bD).n∧(N.getD q.toNat bD).n.toNat < N.length)):c68 [(cd N V I U),J q]=some (aT (l7 N V I U q)):=aJ (fun X Y hp bZ h'=>by
 obtain⟨N,V,I,U,q⟩:=X;obtain⟨c7,bJ,bL,bK,q'⟩:=Y;simp only[db,cJ] at h';obtain⟨rfl,rfl,rfl,rfl,rfl⟩:=h';rfl) (N,V,I,U,q) hp
theorem ahW:cI 68 c68:=aE h68 rfl rfl fun (N,V,I,U,q) hp=>let ⟨_,hw,hr⟩:=ahV N V I U q hp;(rc h68 hr (fun i=>match i with | 6=>[0,1,0,0,8,0,32,120,248,504,1023,2047,4095] | 8=>[0,0,3,0,8,24,63,127,255,127,639,2047,4095,8191,16383] | _=>[]) rfl rfl rfl (by kernel_rfl) ⟨Ps,trivial⟩ ⟨A2,trivial⟩).eK hw
def uY (N:List bp) (V:List Int) (I:List ByteArray) (U:List aP) (q:Int) (b:Bool) (f:List aB):aL × Bool:=
 let o:=N.getD q.toNat bD
 let fa:=f.getD o.a.toNat ⟨0,0⟩
 if (o.op==19)=true then (if ((o.n==64 || o.n== -64) || (b&&(fa.sort==3&&mK o.n fa.n)))=true then sg N V I U q o.a else eN) else eN
theorem h70:Q 70=some f70:=by kernel_rfl
theorem ahX (q:Int) (b:Bool) (f:List aB) (hp:RW N V I U q f) :∃ r,wk r (aT (uY N V I U q b f))∧∀ A,ak (env 53 70368744243695 D0 [(105,aaL),(106,CA)] [] A) hN (5) f70 [(cd N V I U),J q,aC b f]=some r:=by
 obtain⟨hl,i200,h0,aR,f8,⟨⟨cv,gV⟩,⟨dJ,jM⟩,⟨yJ,rV⟩⟩,GY,CB,CC,FE,hrn⟩:=hp;have aO:q < (N.length:Int):=by omega
 have aw:=aD (d:=bD) aR;have fj:IntKind.i64.wrap (q+1)=q+1:=wrap_i64 (by omega) (by omega);have vv:=fun a=>Jj N V I U q a ⟨hl,h0,aR⟩
 unfold uY;dsimp only;generalize N.getD q.toNat bD=x at *;have nt:x.a < (8:Int):=by omega
 have iJ:x.b < (8:Int):=by omega
 have cq:=aD (d:=(⟨0,0⟩:aB)) (show x.a.toNat < f.length by omega);have cu:=aD (d:=(⟨0,0⟩:aB)) (show x.b.toNat < f.length by omega);have hfa:=FE _ (eP (show x.a.toNat < f.length by omega));have Ux:=FE _ (eP (show x.b.toNat < f.length by omega));generalize f.getD x.a.toNat ⟨0,0⟩=fa at *;generalize f.getD x.b.toNat ⟨0,0⟩=fb at *;have GZ:=SQ x.n fa.n;simp only[aT,ax] at vv;cases h:(x.op==19)
 ·simp only[h,BL];apply bu
  ·intro A;simp only[ak,ai,f70];simp only[go_sem,h,GZ,vv,aw,h0,aO,f8,cv,gV,nt,dJ,jM,iJ,cq,cu,aC,aV];try rfl
  ·simp[WK,aT,ax,eN]
 ·cases n:(x.n==64)
  ·cases m:(x.n== -64)
   ·cases b
    ·simp only[h,n,m,BL];apply bu
     ·intro A;simp only[ak,ai,f70];simp only[go_sem,h,n,m,GZ,vv,aw,h0,aO,f8,cv,gV,nt,dJ,jM,iJ,cq,cu,aC,aV];try rfl
     ·simp[WK,aT,ax,eN]
    ·cases k:(fa.sort==3)
     ·simp only[h,n,m,k,BL];apply bu
      ·intro A;simp only[ak,ai,f70];simp only[go_sem,h,n,m,k,GZ,vv,aw,h0,aO,f8,cv,gV,nt,dJ,jM,iJ,cq,cu,aC,aV];try rfl
      ·simp[WK,aT,ax,eN]
     ·cases c:mK x.n fa.n
      ·simp only[h,n,m,k,c,BL];apply bu
       ·intro A;simp only[ak,ai,f70];simp only[go_sem,h,n,m,k,c,GZ,vv,aw,h0,aO,f8,cv,gV,nt,dJ,jM,iJ,cq,cu,aC,aV];try rfl
       ·simp[WK,aT,ax,eN]
      ·simp only[h,n,m,k,c,BL];apply bu
       ·intro A;simp only[ak,ai,f70];simp only[go_sem,h,n,m,k,c,GZ,vv,aw,h0,aO,f8,cv,gV,nt,dJ,jM,iJ,cq,cu,aC,aV];try rfl
       ·simp[WK,aT,ax,eN]
   ·simp only[h,n,m,BL];apply bu
    ·intro A;simp only[ak,ai,f70];simp only[go_sem,h,n,m,GZ,vv,aw,h0,aO,f8,cv,gV,nt,dJ,jM,iJ,cq,cu,aC,aV];try rfl
    ·simp[WK,aT,ax,eN]
  ·simp only[h,n,BL];apply bu
   ·intro A;simp only[ak,ai,f70];simp only[go_sem,h,n,GZ,vv,aw,h0,aO,f8,cv,gV,nt,dJ,jM,iJ,cq,cu,aC,aV];try rfl
   ·simp[WK,aT,ax,eN]
noncomputable def c70:=bk (α:=(List bp) × (List Int) × (List ByteArray) × (List aP) × Int × Bool × (List aB)) (fun (N,V,I,U,q,b,f)=>RW N V I U q f) (fun (N,V,I,U,q,b,f)=>[(cd N V I U),J q,aC b f]) (fun (N,V,I,U,q,b,f)=>aT (uY N V I U q b f))
theorem aaW (q:Int) (b:Bool) (f:List aB) (hp:RW N V I U q f):c70 [(cd N V I U),J q,aC b f]=some (aT (uY N V I U q b f)):=aJ (fun X Y hp bZ h'=>by
 obtain⟨N,V,I,U,q,b,f⟩:=X;obtain⟨c7,bJ,bL,bK,q',b',f'⟩:=Y;simp only[db,cJ] at h';obtain⟨rfl,rfl,rfl,rfl,rfl,rfl,rfl⟩:=h';rfl) (N,V,I,U,q,b,f) hp
theorem ahY:cI 70 c70:=aE h70 rfl rfl fun (N,V,I,U,q,b,f) hp=>let ⟨_,hw,hr⟩:=ahX N V I U q b f hp;(rc h70 hr (fun _=>[]) rfl rfl rfl (by kernel_rfl) ⟨aaM,Po,trivial⟩ trivial).eK hw
end Go.Proofs.Tryz
end
