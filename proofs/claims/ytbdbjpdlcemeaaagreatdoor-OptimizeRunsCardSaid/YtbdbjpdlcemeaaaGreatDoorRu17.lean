/- A part of a proof. -/
import Derived.Test.YtbdbjpdlcemeaaaGreatDoorRu05
import Derived.Test.YtbdbjpdlcemeaaaGreatDoorRu06
import Derived.Test.YtbdbjpdlcemeaaaGreatDoorRu12
import Derived.Test.YtbdbjpdlcemeaaaGreatDoorRu15
import Derived.Test.YtbdbjpdlcemeaaaGreatDoorRu16
set_option linter.unusedSimpArgs false
set_option linter.unusedVariables false
section
set_option maxHeartbeats 4000000
set_option maxRecDepth 20000
namespace Go.Proofs.Tryz
open Go Go.Abs
variable (N : List bp) (V : List Int) (I : List ByteArray) (U : List aP) (ao : List (List aB)) (aj : List Bool) (au : List Int)
theorem h97:Q 97=some f97:=by kernel_rfl
def D97:Nat→Option (List DH × List Nat):=fun i=>match i with | 4=>some ([⟨[6],[],[6]⟩,⟨[6],[],[6]⟩,⟨[6],[],[6]⟩,⟨[6],[],[6]⟩,⟨[6],[],[6]⟩,⟨[6],[],[6]⟩,⟨[6],[],[6]⟩,⟨[6],[],[6]⟩,⟨[6],[],[6]⟩,⟨[6],[],[6]⟩,⟨[],[6],[]⟩,⟨[],[],[]⟩],[6]) | _=>none
theorem Pk:D97 4=some ([⟨[6],[],[6]⟩,⟨[6],[],[6]⟩,⟨[6],[],[6]⟩,⟨[6],[],[6]⟩,⟨[6],[],[6]⟩,⟨[6],[],[6]⟩,⟨[6],[],[6]⟩,⟨[6],[],[6]⟩,⟨[6],[],[6]⟩,⟨[6],[],[6]⟩,⟨[],[6],[]⟩,⟨[],[],[]⟩],[6]):=rfl
def H97:Nat→Hint:=fun i=>if i=2 then ({ tm:=[1,2,5],ob:=[2],fin:=some ([1,2,4],[2]) }:Hint) else { tm:=[],ob:=[] }
theorem Ji:H97 2=({ tm:=[1,2,5],ob:=[2],fin:=some ([1,2,4],[2]) }:Hint):=by simp[H97]
theorem Pm (q:Int) (hp:U.length≤100000∧∀ r ∈ U,0≤r.at_∧r.at_.toNat < N.length) (A:NP) (k:Nat):∀ (m i:Nat) (σ:St),i+m=U.length→
 σ.cA (H97 2)=⟨[(1,J q),(2,pb 2 27),(5,J i)],[(2,(bC N V I U))]⟩→
 post (H97 2) (aG ty (a9 (env 33 4294969463 D97 [] [] A) H97 k (sub (f97.body.getD .skip) [1,0,1,0,0])) (H97 2) (m+1) σ)=some (if ((U.drop i).any (fixF N q))=true then (.ret,⟨[(1,J q),(2,pb 2 27),(4,.bool true)],[(2,(bC N V I U))]⟩) else (.exit 0,⟨[(1,J q),(2,pb 2 27)],[(2,(bC N V I U))]⟩)):=by
 simp only[f97,sub,Option.getD_some,Ji];intro m
 induction m with
 | zero=>
   intro i σ hi hσ;have h1:¬ ((i:Int) < ((U.length:Nat):Int)):=by omega
   have h8:U.drop i=[]:=List.drop_of_length_le (by omega);have cB:=hp.1;rw[aG,hσ];simp only[go_sem,h1];simp[post,St.fin,aQ,aA,h8]
 | succ m ih=>
   intro i σ hi hσ;have h1:(i:Int) < ((U.length:Nat):Int):=by omega
   have aR:i < U.length:=by omega
   have cY:(0:Int)≤(i:Int):=Int.natCast_nonneg i;have hw:IntKind.i64.wrap ((i:Int)+1)=((i+1:Nat):Int):=a_ (by have:=hp.1;omega);have aw:=aD (d:=(⟨0,0,⟨#[]⟩,⟨#[]⟩⟩:aP)) aR;have hd:U.drop i=U[i]'aR::U.drop (i+1):=List.drop_eq_getElem_cons aR;rw[show U.getD i ⟨0,0,⟨#[]⟩,⟨#[]⟩⟩=U[i]'aR by simp[List.getD,List.getElem?_eq_getElem aR]] at aw;obtain⟨hr0,cB⟩:=hp.2 _ (List.getElem_mem aR);rw[aG,hσ];rw[hd,List.any_cons];generalize U[i]=x at *;have B5:=aD (d:=bD) cB;have hri:x.at_ < (N.length:Int):=by omega
   have hfx:fixF N q x=((N.getD x.at_.toNat bD).op==1&&(N.getD x.at_.toNat bD).n==q):=rfl;rw[hfx];generalize N.getD x.at_.toNat bD=y at *;cases hv:(y.op==1) <;> cases Qn:(y.n==q)
   all_goals
    simp only[go_sem,Pk,h1,cY,hw,aw,hr0,hri,B5,hv,Qn];try simp only[BL]
    first
    | (simp[post,St.fin,aQ,aA];done)
    | exact ih (i+1) _ (by omega) (by simp only[go_sem])
theorem ahH (q:Int) (hp:U.length≤100000∧∀ r ∈ U,0≤r.at_∧r.at_.toNat < N.length) (A:NP):ak (env 33 4294969463 D97 [] [] A) (H97) (100010) f97 [(cd N V I U),J q]=some (.bool (U.any (fixF N q))):=by
 have cB:=hp.1;have hl:=Pm N V I U q hp A 100010 U.length 0;simp only[f97,sub,Option.getD_some,Ji,List.drop_zero] at hl;simp only[ak,ai,f97];simp only[go_sem,Pk,Ji];rw[aY (hl _ (by simp) (by simp only[go_sem])) (by omega)];cases h:(U.any (fixF N q))
 all_goals
  simp only[BL];simp only[go_sem,Pk,Ji];try rfl
noncomputable def c97:=bk (α:=(List bp) × (List Int) × (List ByteArray) × (List aP) × Int) (fun (N,V,I,U,q)=>U.length≤100000∧∀ r ∈ U,0≤r.at_∧r.at_.toNat < N.length) (fun (N,V,I,U,q)=>[(cd N V I U),J q]) (fun (N,V,I,U,q)=> .bool (U.any (fixF N q)))
theorem GS (q:Int) (hp:U.length≤100000∧∀ r ∈ U,0≤r.at_∧r.at_.toNat < N.length):c97 [(cd N V I U),J q]=some (.bool (U.any (fixF N q))):=aJ (fun X Y hp bZ h'=>by
 obtain⟨N,V,I,U,q⟩:=X;obtain⟨c7,bJ,bL,bK,q'⟩:=Y;simp only[cJ] at h';obtain⟨rfl,rfl,rfl,rfl,rfl⟩:=h';rfl) (N,V,I,U,q) hp
theorem UR:cI 97 c97:=aE h97 rfl rfl fun (N,V,I,U,q) hp=>rc h97 (fun A=>ahH N V I U q hp A) (fun i=>match i with | 4=>[0,1,0,4,0,28,60,124,255,511,0,2047] | _=>[]) rfl rfl rfl (by kernel_rfl) trivial trivial
theorem ahI:Q 104=some f104:=by kernel_rfl
theorem aaH (o d a b n:Int) (A:NP):ak (env 18 55 D0 [(42,CG)] [] A) hN (5) f104 [.st 80 [J o,J d,J a,J b,J n]]=some (.bool (gl o)):=by
 cases h7:(o==7)
 ·cases h8:(o==8)
  ·cases h9:(o==9)
   ·cases dR:(o==10)
    ·cases fi:(o==26)
     ·cases e_:(o==27)
      ·cases K1:(o==37)
       ·cases vl:(o==39)
        ·have e7:¬ (o=7):=by simpa using h7
         have e8:¬ (o=8):=by simpa using h8
         have e9:¬ (o=9):=by simpa using h9
         have qp:¬ (o=10):=by simpa using dR
         have e26:¬ (o=26):=by simpa using fi
         have e27:¬ (o=27):=by simpa using e_
         have e37:¬ (o=37):=by simpa using K1
         have A0:¬ (o=39):=by simpa using vl
         have ET:gl o=(a7 o).d:=by unfold gl;simp only[e7,e8,e9,qp,e26,e27,e37,A0,BL]
         rw[ET];simp only[ak,ai,f104];simp only[go_sem,fV,h7,h8,h9,dR,fi,e_,K1,vl,bw];try rfl
        ·have ET:gl o=false:=by
          have e:o=39:=by simpa using vl
          subst e;rfl
         rw[ET];simp only[ak,ai,f104];simp only[go_sem,fV,h7,h8,h9,dR,fi,e_,K1,vl];try rfl
       ·have ET:gl o=false:=by
         have e:o=37:=by simpa using K1
         subst e;rfl
        rw[ET];simp only[ak,ai,f104];simp only[go_sem,fV,h7,h8,h9,dR,fi,e_,K1];try rfl
      ·have ET:gl o=false:=by
        have e:o=27:=by simpa using e_
        subst e;rfl
       rw[ET];simp only[ak,ai,f104];simp only[go_sem,fV,h7,h8,h9,dR,fi,e_];try rfl
     ·have ET:gl o=false:=by
       have e:o=26:=by simpa using fi
       subst e;rfl
      rw[ET];simp only[ak,ai,f104];simp only[go_sem,fV,h7,h8,h9,dR,fi];try rfl
    ·have ET:gl o=false:=by
      have e:o=10:=by simpa using dR
      subst e;rfl
     rw[ET];simp only[ak,ai,f104];simp only[go_sem,fV,h7,h8,h9,dR];try rfl
   ·have ET:gl o=false:=by
     have e:o=9:=by simpa using h9
     subst e;rfl
    rw[ET];simp only[ak,ai,f104];simp only[go_sem,fV,h7,h8,h9];try rfl
  ·have ET:gl o=false:=by
    have e:o=8:=by simpa using h8
    subst e;rfl
   rw[ET];simp only[ak,ai,f104];simp only[go_sem,fV,h7,h8];try rfl
 ·have ET:gl o=false:=by
   have e:o=7:=by simpa using h7
   subst e;rfl
  rw[ET];simp only[ak,ai,f104];simp only[go_sem,fV,h7];try rfl
noncomputable def aaI:=bk (α:=Int × Int × Int × Int × Int) (fun _=>True) (fun (o,d,a,b,n)=>[.st 80 [J o,J d,J a,J b,J n]]) (fun (o,d,a,b,n)=> .bool (gl o))
theorem SP (o d a b n:Int):aaI [.st 80 [J o,J d,J a,J b,J n]]=some (.bool (gl o)):=aJ (fun X Y hp bZ h'=>by
 obtain⟨o,d,a,b,n⟩:=X;obtain⟨o',d',a',b',n'⟩:=Y;simp only[cJ] at h';obtain⟨rfl,rfl,rfl,rfl,rfl⟩:=h';rfl) (o,d,a,b,n) trivial
theorem aaJ:cI 104 aaI:=aE ahI rfl rfl fun (o,d,a,b,n) _=>rc ahI (fun A=>aaH o d a b n A) (fun _=>[]) rfl rfl rfl (by kernel_rfl) ⟨uT,trivial⟩ trivial
def Cy (n:Int):Int:=if IntKind.i64.wrap (-n) > n then IntKind.i64.wrap (-n) else n
def mK (a b:Int):Bool:=if ((decide (a < 0)) != (decide (b < 0)))=true then (decide (0 < b)&&decide (b < IntKind.i64.wrap (-a))) else decide (Cy b≤Cy a)
theorem ahJ:Q 105=some f105:=by kernel_rfl
theorem aaK (a b:Int) (A:NP):ak (env 27 531 D0 [] [] A) hN (5) f105 [J a,J b]=some (.bool (mK a b)):=by
 cases h1:decide (a < 0)
 ·cases h2:decide (b < 0)
  ·simp only[mK,Cy,bne,kd,h1,h2,BL];simp only[ak,ai,f105];simp only[go_sem,h1,h2,bne,kd];try rfl
  ·cases h3:decide (0 < b)
   ·simp only[mK,Cy,bne,kd,h1,h2,h3,BL];simp only[ak,ai,f105];simp only[go_sem,h1,h2,h3,bne,kd];try rfl
   ·simp only[mK,Cy,bne,kd,h1,h2,h3,BL];simp only[ak,ai,f105];simp only[go_sem,h1,h2,h3,bne,kd];try rfl
 ·cases h2:decide (b < 0)
  ·cases h3:decide (0 < b)
   ·simp only[mK,Cy,bne,kd,h1,h2,h3,BL];simp only[ak,ai,f105];simp only[go_sem,h1,h2,h3,bne,kd];try rfl
   ·simp only[mK,Cy,bne,kd,h1,h2,h3,BL];simp only[ak,ai,f105];simp only[go_sem,h1,h2,h3,bne,kd];try rfl
  ·simp only[mK,Cy,bne,kd,h1,h2,BL];simp only[ak,ai,f105];simp only[go_sem,h1,h2,bne,kd];try rfl
noncomputable def aaL:=bk (α:=Int × Int) (fun _=>True) (fun (a,b)=>[J a,J b]) (fun (a,b)=> .bool (mK a b))
theorem SQ (a b:Int):aaL [J a,J b]=some (.bool (mK a b)):=aJ (fun X Y hp bZ h'=>by
 obtain⟨a,b⟩:=X;obtain⟨a',b'⟩:=Y;simp only[cJ] at h';obtain⟨rfl,rfl⟩:=h';rfl) (a,b) trivial
theorem aaM:cI 105 aaL:=aE ahJ rfl rfl fun (a,b) _=>rc ahJ (fun A=>aaK a b A) (fun _=>[]) rfl rfl rfl (by kernel_rfl) trivial trivial
theorem dR:Q 10=some f10:=by kernel_rfl
theorem ahK (hp:LM N V I U) (lo:Option Nat) (A L:NP):ai (ej 29 15 D0 [] [] lo A L) hN (5) f10 [(cd N V I U)] []=some (.st 27 [.own 8 80 0 N.length,.own 14 2 0 V.length,.own 20 9 0 I.length,.own 26 90 0 U.length],[(8,⟨.row 80,false,N.map dD⟩),(14,⟨.row 2,false,V.map eI⟩),(20,⟨.row 9,false,I.map eS⟩),(26,⟨.row 90,false,U.map b_⟩)]):=by
 obtain⟨l1,l2,l3,l4⟩:=hp;have r1:decide (N.length * 40≤140737488355328)=true:=by simp;omega
 have r2:decide (V.length * 8≤140737488355328)=true:=by simp;omega
 have r3:decide (I.length * 16≤140737488355328)=true:=by simp;omega
 have r4:decide (U.length * 48≤140737488355328)=true:=by simp;omega
 have q1:N.length≤140737488355328:=by omega
 have q2:V.length≤140737488355328:=by omega
 have q3:I.length≤140737488355328:=by omega
 have q4:U.length≤140737488355328:=by omega
 simp only[ak,ai,f10];simp only[go_sem,r1,r2,r3,r4,q1,q2,q3,q4];try rfl
noncomputable def SU:=mD (α:=(List bp) × (List Int) × (List ByteArray) × (List aP)) (fun (N,V,I,U)=>N.length≤100000∧V.length≤100000∧I.length≤100000∧U.length≤100000) (fun (N,V,I,U)=>[(cd N V I U)]) (fun (N,V,I,U)=>[]) (fun (N,V,I,U)=>(.st 27 [.own 8 80 0 N.length,.own 14 2 0 V.length,.own 20 9 0 I.length,.own 26 90 0 U.length],[(8,⟨.row 80,false,N.map dD⟩),(14,⟨.row 2,false,V.map eI⟩),(20,⟨.row 9,false,I.map eS⟩),(26,⟨.row 90,false,U.map b_⟩)]))
theorem tb (hp:LM N V I U):SU [(cd N V I U)] []=some (.st 27 [.own 8 80 0 N.length,.own 14 2 0 V.length,.own 20 9 0 I.length,.own 26 90 0 U.length],[(8,⟨.row 80,false,N.map dD⟩),(14,⟨.row 2,false,V.map eI⟩),(20,⟨.row 9,false,I.map eS⟩),(26,⟨.row 90,false,U.map b_⟩)]):=je (fun X Y hp bZ h' my=>by
 obtain⟨N,V,I,U⟩:=X;obtain⟨c7,bJ,bL,bK⟩:=Y;simp only[cJ] at h';obtain⟨rfl,rfl,rfl,rfl⟩:=h';rfl) (N,V,I,U) hp
theorem A2:sR 10 SU:=gr dR rfl rfl fun (N,V,I,U) hp=>rm dR (fun lo A L=>ahK N V I U hp lo A L) (fun _=>[]) rfl rfl rfl (by kernel_rfl) trivial trivial
def EU (N:List bp) (V:List Int) (I:List ByteArray) (U:List aP) (n:Int):AV × List (Nat × Abs.Obj):=
 if bS (oX N V U n) 0 V.length=V.length then (if 200≤V.length then (.cE [.st 27 [.own 1000000 80 0 N.length,.own 1000001 2 0 V.length,.own 1000002 9 0 I.length,.own 1000003 90 0 U.length],J 0,.bool false],[(1000000,⟨.row 80,false,N.map dD⟩),(1000001,⟨.row 2,false,V.map eI⟩),(1000002,⟨.row 9,false,I.map eS⟩),(1000003,⟨.row 90,false,U.map b_⟩)])
  else (.cE [.st 27 [.own 1000000 80 0 N.length,.own 39 2 0 (V.length+1),.own 1000002 9 0 I.length,.own 1000003 90 0 U.length],J V.length,.bool true],[(1000000,⟨.row 80,false,N.map dD⟩),(39,⟨.row 2,false,(V++[n]).map eI⟩),(1000002,⟨.row 9,false,I.map eS⟩),(1000003,⟨.row 90,false,U.map b_⟩)]))
 else (.cE [.st 27 [.own 1000000 80 0 N.length,.own 1000001 2 0 V.length,.own 1000002 9 0 I.length,.own 1000003 90 0 U.length],J (bS (oX N V U n) 0 V.length:Nat),.bool true],[(1000000,⟨.row 80,false,N.map dD⟩),(1000001,⟨.row 2,false,V.map eI⟩),(1000002,⟨.row 9,false,I.map eS⟩),(1000003,⟨.row 90,false,U.map b_⟩)])
theorem ahL:Q 134=some f134:=by kernel_rfl
def aaN:Nat→Option (List DH × List Nat):=fun i=>match i with | 9=>some ([⟨[],[],[]⟩,⟨[4],[],[]⟩,⟨[4],[],[]⟩,⟨[4],[],[]⟩,⟨[4],[],[]⟩,⟨[],[4],[]⟩,⟨[],[],[]⟩,⟨[],[],[]⟩],[]) | _=>none
theorem yA:aaN 9=some ([⟨[],[],[]⟩,⟨[4],[],[]⟩,⟨[4],[],[]⟩,⟨[4],[],[]⟩,⟨[4],[],[]⟩,⟨[],[4],[]⟩,⟨[],[],[]⟩,⟨[],[],[]⟩],[]):=rfl
def GU:Nat→Hint:=fun i=>if i=2 then ({ tm:=[1,2,4,7],ob:=[2,4,1000000,1000001,1000002,1000003],fin:=some ([1,2,4,5,6],[2,4,1000000,1000001,1000002,1000003]) }:Hint) else { tm:=[],ob:=[] }
theorem tc:GU 2=({ tm:=[1,2,4,7],ob:=[2,4,1000000,1000001,1000002,1000003],fin:=some ([1,2,4,5,6],[2,4,1000000,1000001,1000002,1000003]) }:Hint):=by simp[GU]
theorem KC (n:Int) (hp:(LM N V I U)∧∀ r ∈ U,0≤r.at_∧r.at_.toNat < N.length) (lo:Option Nat) (L:NP) (A:NP) (k:Nat):∀ (m i:Nat) (σ:St),i+m=V.length→
 σ.cA (GU 2)=⟨[(1,J n),(2,pb 2 27),(4,pb 4 27),(7,J i)],[(2,⟨.box 27,true,[.st 27 [.own 1000000 80 0 N.length,.own 1000001 2 0 V.length,.own 1000002 9 0 I.length,.own 1000003 90 0 U.length]]⟩),(4,⟨.box 27,true,[n4]⟩),(1000000,⟨.row 80,false,N.map dD⟩),(1000001,⟨.row 2,false,V.map eI⟩),(1000002,⟨.row 9,false,I.map eS⟩),(1000003,⟨.row 90,false,U.map b_⟩)]⟩→
 post (GU 2) (aG ty (a9 (ej 46 8724156663 aaN [(97,c97)] [] lo A L) GU k (sub (f134.body.getD .skip) [1,0,1,0,0])) (GU 2) (m+1) σ)=some (if bS (oX N V U n) i m=V.length then (.exit 0,⟨[(1,J n),(2,pb 2 27),(4,pb 4 27)],[(2,⟨.box 27,true,[.st 27 [.own 1000000 80 0 N.length,.own 1000001 2 0 V.length,.own 1000002 9 0 I.length,.own 1000003 90 0 U.length]]⟩),(4,⟨.box 27,true,[n4]⟩),(1000000,⟨.row 80,false,N.map dD⟩),(1000001,⟨.row 2,false,V.map eI⟩),(1000002,⟨.row 9,false,I.map eS⟩),(1000003,⟨.row 90,false,U.map b_⟩)]⟩) else (.ret,⟨[(1,J n),(2,pb 2 27),(4,pb 4 27),(5,J (bS (oX N V U n) i m:Nat)),(6,.bool true)],[(2,⟨.box 27,true,[.st 27 [.own 1000000 80 0 N.length,.own 1000001 2 0 V.length,.own 1000002 9 0 I.length,.own 1000003 90 0 U.length]]⟩),(4,⟨.box 27,true,[.st 27 [.own 1000000 80 0 N.length,.own 1000001 2 0 V.length,.own 1000002 9 0 I.length,.own 1000003 90 0 U.length]]⟩),(1000000,⟨.row 80,false,N.map dD⟩),(1000001,⟨.row 2,false,V.map eI⟩),(1000002,⟨.row 9,false,I.map eS⟩),(1000003,⟨.row 90,false,U.map b_⟩)]⟩)):=by
 simp only[f134,sub,Option.getD_some,tc];intro m
 induction m with
 | zero=>
   intro i σ hi hσ;have h1:¬ ((i:Int) < ((V.length:Nat):Int)):=by omega
   have dO:=hp.1;have hie:i=V.length:=by omega
   rw[aG,hσ];simp only[go_sem,h1];simp[post,St.fin,aQ,aA,bS,hie]
 | succ m ih=>
   intro i σ hi hσ;have h1:(i:Int) < ((V.length:Nat):Int):=by omega
   have aR:i < V.length:=by omega
   have cY:(0:Int)≤(i:Int):=Int.natCast_nonneg i;have hw:IntKind.i64.wrap ((i:Int)+1)=((i+1:Nat):Int):=a_ (by have:=hp.1;omega);have aw:=aD (d:=(0:Int)) aR;have K9:=GS N V I U i ⟨hp.1.2.2.2,hp.2⟩;have yI:oX N V U n i=(V.getD i 0==n&& !(U.any (fixF N i))):=rfl;generalize V.getD i 0=x at *;generalize U.any (fixF N i)=fx at *;have d_:i ≠ V.length:=by omega
   rw[aG,hσ];cases hv:(x==n) <;> cases fx;all_goals
    simp only[hv,BL] at yI;simp only[bS,yI,BL];simp only[go_sem,yA,h1,cY,hw,aw,K9,hv];first
    | (simp[post,St.fin,aQ,aA,d_];done)
    | exact ih (i+1) _ (by omega) (by simp only[go_sem])
theorem aaP (n:Int) (hp:(LM N V I U)∧∀ r ∈ U,0≤r.at_∧r.at_.toNat < N.length) (lo:Option Nat) (A L:NP):ai (ej 46 8724156663 aaN [(97,c97)] [] lo A L) (GU) (100010) f134 [.st 27 [.own 1000000 80 0 N.length,.own 1000001 2 0 V.length,.own 1000002 9 0 I.length,.own 1000003 90 0 U.length],J n] [(1000000,⟨.row 80,false,N.map dD⟩),(1000001,⟨.row 2,false,V.map eI⟩),(1000002,⟨.row 9,false,I.map eS⟩),(1000003,⟨.row 90,false,U.map b_⟩)]=some ((EU N V I U n).1,(EU N V I U n).2):=by
 obtain⟨⟨l1,l2,l3,l4⟩,hr⟩:=id hp;have hap:decide ((V.length+1) * 8≤140737488355328)=true:=by simp;omega
 have x_:V.length+1≤140737488355328:=by omega
 have ya:IntKind.i64.wrap (((V.length+1:Nat):Int) - 1)=(V.length:Int):=by rw[wrap_i64 (by omega) (by omega)];omega
 have yb:V.map eI++[AV.int .i64 n]=(V++[n]).map eI:=by simp[eI]
 have hl:=KC N V I U n hp lo L A 100010 V.length 0;simp only[f134,sub,Option.getD_some,tc] at hl;unfold EU;simp only[ak,ai,f134];simp only[go_sem,yA,tc,hap,x_,ya,yb];rw[aY (hl _ (by simp) (by simp only[go_sem])) (by omega)];generalize bS (oX N V U n) 0 V.length=j at *;by_cases hj:j=V.length
 ·simp only[if_pos hj];by_cases h2:200≤V.length
  ·have h3:(200:Int)≤(V.length:Int):=by omega
   simp only[if_pos h2];simp only[go_sem,yA,tc,hap,x_,ya,yb,h3,hj];try rfl
  ·have h3:¬ ((200:Int)≤(V.length:Int)):=by omega
   simp only[if_neg h2];simp only[go_sem,yA,tc,hap,x_,ya,yb,h3,hj];try rfl
 ·simp only[if_neg hj];simp only[go_sem,yA,tc,hap,x_,ya,yb];try rfl
noncomputable def aaQ:=mD (α:=(List bp) × (List Int) × (List ByteArray) × (List aP) × Int) (fun (N,V,I,U,n)=>(LM N V I U)∧∀ r ∈ U,0≤r.at_∧r.at_.toNat < N.length) (fun (N,V,I,U,n)=>[.st 27 [.own 1000000 80 0 N.length,.own 1000001 2 0 V.length,.own 1000002 9 0 I.length,.own 1000003 90 0 U.length],J n]) (fun (N,V,I,U,n)=>[(1000000,⟨.row 80,false,N.map dD⟩),(1000001,⟨.row 2,false,V.map eI⟩),(1000002,⟨.row 9,false,I.map eS⟩),(1000003,⟨.row 90,false,U.map b_⟩)]) (fun (N,V,I,U,n)=>((EU N V I U n).1,(EU N V I U n).2))
theorem SV (n:Int) (hp:(LM N V I U)∧∀ r ∈ U,0≤r.at_∧r.at_.toNat < N.length):aaQ [.st 27 [.own 1000000 80 0 N.length,.own 1000001 2 0 V.length,.own 1000002 9 0 I.length,.own 1000003 90 0 U.length],J n] [(1000000,⟨.row 80,false,N.map dD⟩),(1000001,⟨.row 2,false,V.map eI⟩),(1000002,⟨.row 9,false,I.map eS⟩),(1000003,⟨.row 90,false,U.map b_⟩)]=some ((EU N V I U n).1,(EU N V I U n).2):=je (fun X Y hp bZ h' my=>by
 obtain⟨N,V,I,U,n⟩:=X;obtain⟨c7,bJ,bL,bK,n'⟩:=Y;simp only[cJ] at h';obtain⟨h1,h2,h3,h4,rfl⟩:=h';try dsimp only at hp bZ ⊢
 simp only[cJ] at my;obtain⟨rfl,rfl,rfl,rfl⟩:=my;rfl) (N,V,I,U,n) hp
theorem aaR:sR 134 aaQ:=gr ahL rfl rfl fun (N,V,I,U,n) hp=>rm ahL (fun lo A L=>aaP N V I U n hp lo A L) (fun i=>match i with | 9=>[0,0,2,6,14,1,63,127] | _=>[]) rfl rfl rfl (by kernel_rfl) ⟨UR,trivial⟩ trivial
def aT (x:aL × Bool):AV:= .st 87 [ax x.1,.bool x.2]
def eN:aL × Bool:=(⟨[],[],[],[]⟩,false)
structure RW (N:List bp) (V:List Int) (I:List ByteArray) (U:List aP) (q:Int) (f:List aB):Prop where
 lim:N.length≤100000∧V.length≤100000∧I.length≤100000∧U.length≤100000
 i200:V.length≤200
 h0:0≤q
 aR:q.toNat < N.length
 f8:f.length=8
 op:(0≤(N.getD q.toNat bD).a∧(N.getD q.toNat bD).a.toNat < 8)∧(0≤(N.getD q.toNat bD).b∧(N.getD q.toNat bD).b.toNat < 8)∧(0≤(N.getD q.toNat bD).d∧(N.getD q.toNat bD).d.toNat < 8)
 rel:∀ r ∈ U,0≤r.at_∧r.at_.toNat < N.length
 jmp:((N.getD q.toNat bD).op==24 || (N.getD q.toNat bD).op==25)=true→0≤(N.getD q.toNat bD).n∧(N.getD q.toNat bD).n.toNat < N.length
 vE:∀ o ∈ N,bM o.n
 fn:∀ x ∈ f,bM x.n
 rn:∀ r ∈ U,bM r.at_
def oz (N:List bp) (V:List Int) (I:List ByteArray) (U:List aP) (q n:Int):aL × Bool:=
 if bS (oX N V U n) 0 V.length=V.length then (if 200≤V.length then (⟨N.set q.toNat ⟨1,(N.getD q.toNat bD).d,0,0,0⟩,V,I,U⟩,false)
  else (⟨N.set q.toNat ⟨1,(N.getD q.toNat bD).d,0,0,V.length⟩,V++[n],I,U⟩,true))
 else (⟨N.set q.toNat ⟨1,(N.getD q.toNat bD).d,0,0,(bS (oX N V U n) 0 V.length:Nat)⟩,V,I,U⟩,true)
theorem ahM:Q 103=some f103:=by kernel_rfl
theorem aaS (q n:Int) (hp:(LM N V I U)∧(0≤q∧q.toNat < N.length)∧∀ r ∈ U,0≤r.at_∧r.at_.toNat < N.length) :∃ r,wk r (aT (oz N V I U q n))∧∀ A,ak (env 33 975 D0 [] [(10,SU),(134,aaQ)] A) hN (5) f103 [(cd N V I U),J q,J n]=some r:=by
 obtain⟨hl,⟨h0,aR⟩,hr⟩:=hp;have qp:=tb N V I U hl;have GV:=SV N V I U n ⟨hl,hr⟩;have aO:q < (N.length:Int):=by omega
 have aw:=aD (d:=bD) aR;have y5:(V++[n]).length=V.length+1:=by simp
 unfold EU at GV;unfold oz;generalize bS (oX N V U n) 0 V.length=j at *;generalize N.getD q.toNat bD=x at *;by_cases hj:j=V.length
 ·by_cases h2:200≤V.length
  ·have bH:=cD dD N q.toNat ⟨1,x.d,0,0,0⟩;simp only[dD] at bH;simp only[if_pos hj,if_pos h2] at GV;simp only[if_pos hj,if_pos h2];apply bu
   ·intro A;simp only[ak,ai,f103];simp only[go_sem,qp,GV,aw,bH,h0,aO,y5];try rfl
   ·simp[WK,aT,ax,eN]
  ·have bH:=cD dD N q.toNat ⟨1,x.d,0,0,V.length⟩;simp only[dD] at bH;simp only[if_pos hj,if_neg h2] at GV;simp only[if_pos hj,if_neg h2];apply bu
   ·intro A;simp only[ak,ai,f103];simp only[go_sem,qp,GV,aw,bH,h0,aO,y5];try rfl
   ·simp[WK,aT,ax,eN]
 ·have bH:=cD dD N q.toNat ⟨1,x.d,0,0,j⟩;simp only[dD] at bH;simp only[if_neg hj] at GV;simp only[if_neg hj];apply bu
  ·intro A;simp only[ak,ai,f103];simp only[go_sem,qp,GV,aw,bH,h0,aO,y5];try rfl
  ·simp[WK,aT,ax,eN]
noncomputable def Cz:=bk (α:=(List bp) × (List Int) × (List ByteArray) × (List aP) × Int × Int) (fun (N,V,I,U,q,n)=>(LM N V I U)∧(0≤q∧q.toNat < N.length)∧∀ r ∈ U,0≤r.at_∧r.at_.toNat < N.length) (fun (N,V,I,U,q,n)=>[(cd N V I U),J q,J n]) (fun (N,V,I,U,q,n)=>aT (oz N V I U q n))
theorem lZ (q n:Int) (hp:(LM N V I U)∧(0≤q∧q.toNat < N.length)∧∀ r ∈ U,0≤r.at_∧r.at_.toNat < N.length):Cz [(cd N V I U),J q,J n]=some (aT (oz N V I U q n)):=aJ (fun X Y hp bZ h'=>by
 obtain⟨N,V,I,U,q,n⟩:=X;obtain⟨c7,bJ,bL,bK,q',n'⟩:=Y;simp only[db,cJ] at h';obtain⟨rfl,rfl,rfl,rfl,rfl,rfl⟩:=h';rfl) (N,V,I,U,q,n) hp
theorem Pn:cI 103 Cz:=aE ahM rfl rfl fun (N,V,I,U,q,n) hp=>let ⟨_,hw,hr⟩:=aaS N V I U q n hp;(rc ahM hr (fun i=>match i with | 2=>[0,1,0,0,8,0,56,120,248,0,1016,2047,4095] | _=>[]) rfl rfl rfl (by kernel_rfl) trivial ⟨A2,aaR,trivial⟩).eK hw
def sg (N:List bp) (V:List Int) (I:List ByteArray) (U:List aP) (q a:Int):aL × Bool:=(⟨N.set q.toNat ⟨3,(N.getD q.toNat bD).d,a,0,0⟩,V,I,U⟩,true)
theorem ahN:Q 106=some f106:=by kernel_rfl
theorem aaT (q a:Int) (hp:(LM N V I U)∧0≤q∧q.toNat < N.length) :∃ r,wk r (aT (sg N V I U q a))∧∀ A,ak (env 24 207 D0 [] [(10,SU)] A) hN (5) f106 [(cd N V I U),J q,J a]=some r:=by
 obtain⟨hl,h0,aR⟩:=hp;have qp:=tb N V I U hl;have aO:q < (N.length:Int):=by omega
 have aw:=aD (d:=bD) aR;unfold sg;generalize N.getD q.toNat bD=x at *;have bH:=cD dD N q.toNat ⟨3,x.d,a,0,0⟩;simp only[dD] at bH;apply bu
 ·intro A;simp only[ak,ai,f106];simp only[go_sem,qp,aw,bH,h0,aO];try rfl
 ·simp[WK,aT,ax,eN]
noncomputable def CA:=bk (α:=(List bp) × (List Int) × (List ByteArray) × (List aP) × Int × Int) (fun (N,V,I,U,q,a)=>(LM N V I U)∧0≤q∧q.toNat < N.length) (fun (N,V,I,U,q,a)=>[(cd N V I U),J q,J a]) (fun (N,V,I,U,q,a)=>aT (sg N V I U q a))
theorem Jj (q a:Int) (hp:(LM N V I U)∧0≤q∧q.toNat < N.length):CA [(cd N V I U),J q,J a]=some (aT (sg N V I U q a)):=aJ (fun X Y hp bZ h'=>by
 obtain⟨N,V,I,U,q,a⟩:=X;obtain⟨c7,bJ,bL,bK,q',a'⟩:=Y;simp only[db,cJ] at h';obtain⟨rfl,rfl,rfl,rfl,rfl,rfl⟩:=h';rfl) (N,V,I,U,q,a) hp
theorem Po:cI 106 CA:=aE ahN rfl rfl fun (N,V,I,U,q,a) hp=>let ⟨_,hw,hr⟩:=aaT N V I U q a hp;(rc ahN hr (fun i=>match i with | 2=>[0,1,0,0,8,0,56,120,248,0,1016,2047,4095] | _=>[]) rfl rfl rfl (by kernel_rfl) trivial ⟨A2,trivial⟩).eK hw
end Go.Proofs.Tryz
end
