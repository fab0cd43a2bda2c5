/- Part of the proof of one statement of this seat: an abstract machine for the program, its contracts, and the statement (no condition of our own). -/
import Derived.Test.YtbdbjpdlcemeaaaGreatDoorCq05
import Derived.Test.YtbdbjpdlcemeaaaGreatDoorCq06
import Derived.Test.YtbdbjpdlcemeaaaGreatDoorCq12
import Derived.Test.YtbdbjpdlcemeaaaGreatDoorCq15
import Derived.Test.YtbdbjpdlcemeaaaGreatDoorCq16
set_option linter.unusedSimpArgs false
set_option linter.unusedVariables false
section
set_option maxHeartbeats 4000000
set_option maxRecDepth 20000
namespace Go.Proofs.Tryz
open Go Go.Abs
variable (ah : List bp) (ab : List Int) (ag : List ByteArray) (ae : List aP)
theorem h97:Tryz.prog.funcs[97]? = some f97:=by kernel_rfl
def D97:Nat→Option (List DH × List Nat):=fun i=>match i with | 4=>some ([⟨[6],[],[6]⟩,⟨[6],[],[6]⟩,⟨[6],[],[6]⟩,⟨[6],[],[6]⟩,⟨[6],[],[6]⟩,⟨[6],[],[6]⟩,⟨[6],[],[6]⟩,⟨[6],[],[6]⟩,⟨[6],[],[6]⟩,⟨[6],[],[6]⟩,⟨[],[6],[]⟩,⟨[],[],[]⟩],[6]) | _=>none
theorem Pk:D97 4=some ([⟨[6],[],[6]⟩,⟨[6],[],[6]⟩,⟨[6],[],[6]⟩,⟨[6],[],[6]⟩,⟨[6],[],[6]⟩,⟨[6],[],[6]⟩,⟨[6],[],[6]⟩,⟨[6],[],[6]⟩,⟨[6],[],[6]⟩,⟨[6],[],[6]⟩,⟨[],[6],[]⟩,⟨[],[],[]⟩],[6]):=rfl
def H97:Nat→Hint:=fun i=>if i=2 then ({ tm:=[1,2,5],ob:=[2],fin:=some ([1,2,4],[2]) }:Hint) else { tm:=[],ob:=[] }
theorem Ji:H97 2=({ tm:=[1,2,5],ob:=[2],fin:=some ([1,2,4],[2]) }:Hint):=by simp[H97]
theorem Pm (q:Int) (hp:ae.length≤100000∧∀ r ∈ ae,0≤r.at_∧r.at_.toNat < ah.length) (A:Nat→Prop) (k:Nat):∀ (m i:Nat) (σ:St),i+m=ae.length→
 σ.cA (H97 2)=⟨[(1,.int .i64 q),(2,.ptr 2 (.box 27) []),(5,.int .i64 i)],[(2,(bC ah ab ag ae))]⟩→
 post (H97 2) (aG ty (a9 (env 33 4294969463 D97 [] [] A) H97 k (sub (f97.body.getD .skip) [1,0,1,0,0])) (H97 2) (m+1) σ)=some (if ((ae.drop i).any (fixF ah q))=true then (.ret,⟨[(1,.int .i64 q),(2,.ptr 2 (.box 27) []),(4,.bool true)],[(2,(bC ah ab ag ae))]⟩) else (.exit 0,⟨[(1,.int .i64 q),(2,.ptr 2 (.box 27) [])],[(2,(bC ah ab ag ae))]⟩)):=by
 simp only[f97,sub,Option.getD_some,Ji];intro m
 induction m with
 | zero=>
   intro i σ hi hσ;have h1:¬ ((i:Int) < ((ae.length:Nat):Int)):=by omega
   have h8:ae.drop i=[]:=List.drop_of_length_le (by omega);have cB:=hp.1;rw[aG,hσ];simp only[go_sem,h1];simp[post,St.fin,aQ,aA,h8]
 | succ m ih=>
   intro i σ hi hσ;have h1:(i:Int) < ((ae.length:Nat):Int):=by omega
   have aR:i < ae.length:=by omega
   have cY:(0:Int)≤(i:Int):=Int.natCast_nonneg i;have hw:IntKind.i64.wrap ((i:Int)+1)=((i+1:Nat):Int):=a_ (by have:=hp.1;omega);have aw:=aD (d:=(⟨0,0,⟨#[]⟩,⟨#[]⟩⟩:aP)) aR;have hd:ae.drop i=ae[i]'aR::ae.drop (i+1):=List.drop_eq_getElem_cons aR;rw[show ae.getD i ⟨0,0,⟨#[]⟩,⟨#[]⟩⟩=ae[i]'aR by simp[List.getD,List.getElem?_eq_getElem aR]] at aw;obtain⟨hr0,cB⟩:=hp.2 _ (List.getElem_mem aR);rw[aG,hσ];rw[hd,List.any_cons];generalize ae[i]=x at *;have B5:=aD (d:=bD) cB;have hri:x.at_ < (ah.length:Int):=by omega
   have hfx:fixF ah q x=((ah.getD x.at_.toNat bD).op==1&&(ah.getD x.at_.toNat bD).n==q):=rfl;rw[hfx];generalize ah.getD x.at_.toNat bD=y at *;cases hv:(y.op==1) <;> cases Qn:(y.n==q)
   all_goals
    simp only[go_sem,Pk,h1,cY,hw,aw,hr0,hri,B5,hv,Qn];try simp only[BL]
    first
    | (simp[post,St.fin,aQ,aA];done)
    | exact ih (i+1) _ (by omega) (by simp only[go_sem])
theorem ahH (q:Int) (hp:ae.length≤100000∧∀ r ∈ ae,0≤r.at_∧r.at_.toNat < ah.length) (A:Nat→Prop):ak (env 33 4294969463 D97 [] [] A) (H97) (100010) f97 [(cd ah ab ag ae),.int .i64 q]=some (.bool (ae.any (fixF ah q))):=by
 have cB:=hp.1;have hl:=Pm ah ab ag ae q hp A 100010 ae.length 0;simp only[f97,sub,Option.getD_some,Ji,List.drop_zero] at hl;simp only[ak,ai,f97];simp only[go_sem,Pk,Ji];rw[aY (hl _ (by simp) (by simp only[go_sem])) (by omega)];cases h:(ae.any (fixF ah q))
 all_goals
  simp only[BL];simp only[go_sem,Pk,Ji];try rfl
noncomputable def c97:=bk (α:=(List bp) × (List Int) × (List ByteArray) × (List aP) × Int) (fun (ah,ab,ag,ae,q)=>ae.length≤100000∧∀ r ∈ ae,0≤r.at_∧r.at_.toNat < ah.length) (fun (ah,ab,ag,ae,q)=>[(cd ah ab ag ae),.int .i64 q]) (fun (ah,ab,ag,ae,q)=> .bool (ae.any (fixF ah q)))
theorem GS (q:Int) (hp:ae.length≤100000∧∀ r ∈ ae,0≤r.at_∧r.at_.toNat < ah.length):c97 [(cd ah ab ag ae),.int .i64 q]=some (.bool (ae.any (fixF ah q))):=aJ (fun X Y hp bZ h'=>by
 obtain⟨ah,ab,ag,ae,q⟩:=X;obtain⟨c7,bJ,bL,bK,q'⟩:=Y;simp only[cJ] at h';obtain⟨rfl,rfl,rfl,rfl,rfl⟩:=h';rfl) (ah,ab,ag,ae,q) hp
theorem UR:cI 97 c97:=aE h97 rfl rfl fun (ah,ab,ag,ae,q) hp=>rc h97 (fun A=>ahH ah ab ag ae q hp A) (fun i=>match i with | 4=>[0,1,0,4,0,28,60,124,255,511,0,2047] | _=>[]) rfl rfl rfl (by kernel_rfl) trivial trivial
theorem ahI:Tryz.prog.funcs[104]? = some f104:=by kernel_rfl
theorem aaH (o d a b n:Int) (A:Nat→Prop):ak (env 18 55 D0 [(42,CG)] [] A) hN (5) f104 [.st 80 [.int .i64 o,.int .i64 d,.int .i64 a,.int .i64 b,.int .i64 n]]=some (.bool (gl o)):=by
 cases h7:(o==7)
 ·cases h8:(o==8)
  ·cases h9:(o==9)
   ·cases dR:(o==10)
    ·cases fi:(o==26)
     ·cases e_:(o==27)
      ·cases K1:(o==37)
       ·cases vl:(o==39)
        ·have e7:¬ (o=7):=by simpa using h7
         have e8:¬ (o=8):=by simpa using h8
         have e9:¬ (o=9):=by simpa using h9
         have qp:¬ (o=10):=by simpa using dR
         have e26:¬ (o=26):=by simpa using fi
         have e27:¬ (o=27):=by simpa using e_
         have e37:¬ (o=37):=by simpa using K1
         have A0:¬ (o=39):=by simpa using vl
         have ET:gl o=(a7 o).d:=by unfold gl;simp only[e7,e8,e9,qp,e26,e27,e37,A0,BL]
         rw[ET];simp only[ak,ai,f104];simp only[go_sem,fV,h7,h8,h9,dR,fi,e_,K1,vl,bw];try rfl
        ·have ET:gl o=false:=by
          have e:o=39:=by simpa using vl
          subst e;rfl
         rw[ET];simp only[ak,ai,f104];simp only[go_sem,fV,h7,h8,h9,dR,fi,e_,K1,vl];try rfl
       ·have ET:gl o=false:=by
         have e:o=37:=by simpa using K1
         subst e;rfl
        rw[ET];simp only[ak,ai,f104];simp only[go_sem,fV,h7,h8,h9,dR,fi,e_,K1];try rfl
      ·have ET:gl o=false:=by
        have e:o=27:=by simpa using e_
        subst e;rfl
       rw[ET];simp only[ak,ai,f104];simp only[go_sem,fV,h7,h8,h9,dR,fi,e_];try rfl
     ·have ET:gl o=false:=by
       have e:o=26:=by simpa using fi
       subst e;rfl
      rw[ET];simp only[ak,ai,f104];simp only[go_sem,fV,h7,h8,h9,dR,fi];try rfl
    ·have ET:gl o=false:=by
      have e:o=10:=by simpa using dR
      subst e;rfl
     rw[ET];simp only[ak,ai,f104];simp only[go_sem,fV,h7,h8,h9,dR];try rfl
   ·have ET:gl o=false:=by
     have e:o=9:=by simpa using h9
     subst e;rfl
    rw[ET];simp only[ak,ai,f104];simp only[go_sem,fV,h7,h8,h9];try rfl
  ·have ET:gl o=false:=by
    have e:o=8:=by simpa using h8
    subst e;rfl
   rw[ET];simp only[ak,ai,f104];simp only[go_sem,fV,h7,h8];try rfl
 ·have ET:gl o=false:=by
   have e:o=7:=by simpa using h7
   subst e;rfl
  rw[ET];simp only[ak,ai,f104];simp only[go_sem,fV,h7];try rfl
noncomputable def aaI:=bk (α:=Int × Int × Int × Int × Int) (fun _=>True) (fun (o,d,a,b,n)=>[.st 80 [.int .i64 o,.int .i64 d,.int .i64 a,.int .i64 b,.int .i64 n]]) (fun (o,d,a,b,n)=> .bool (gl o))
theorem SP (o d a b n:Int):aaI [.st 80 [.int .i64 o,.int .i64 d,.int .i64 a,.int .i64 b,.int .i64 n]]=some (.bool (gl o)):=aJ (fun X Y hp bZ h'=>by
 obtain⟨o,d,a,b,n⟩:=X;obtain⟨o',d',a',b',n'⟩:=Y;simp only[cJ] at h';obtain⟨rfl,rfl,rfl,rfl,rfl⟩:=h';rfl) (o,d,a,b,n) trivial
theorem aaJ:cI 104 aaI:=aE ahI rfl rfl fun (o,d,a,b,n) _=>rc ahI (fun A=>aaH o d a b n A) (fun _=>[]) rfl rfl rfl (by kernel_rfl) ⟨uT,trivial⟩ trivial
def Cy (n:Int):Int:=if IntKind.i64.wrap (-n) > n then IntKind.i64.wrap (-n) else n
def mK (a b:Int):Bool:=if ((decide (a < 0)) != (decide (b < 0)))=true then (decide (0 < b)&&decide (b < IntKind.i64.wrap (-a))) else decide (Cy b≤Cy a)
theorem ahJ:Tryz.prog.funcs[105]? = some f105:=by kernel_rfl
theorem aaK (a b:Int) (A:Nat→Prop):ak (env 27 531 D0 [] [] A) hN (5) f105 [.int .i64 a,.int .i64 b]=some (.bool (mK a b)):=by
 cases h1:decide (a < 0)
 ·cases h2:decide (b < 0)
  ·simp only[mK,Cy,bne,kd,h1,h2,BL];simp only[ak,ai,f105];simp only[go_sem,h1,h2,bne,kd];try rfl
  ·cases h3:decide (0 < b)
   ·simp only[mK,Cy,bne,kd,h1,h2,h3,BL];simp only[ak,ai,f105];simp only[go_sem,h1,h2,h3,bne,kd];try rfl
   ·simp only[mK,Cy,bne,kd,h1,h2,h3,BL];simp only[ak,ai,f105];simp only[go_sem,h1,h2,h3,bne,kd];try rfl
 ·cases h2:decide (b < 0)
  ·cases h3:decide (0 < b)
   ·simp only[mK,Cy,bne,kd,h1,h2,h3,BL];simp only[ak,ai,f105];simp only[go_sem,h1,h2,h3,bne,kd];try rfl
   ·simp only[mK,Cy,bne,kd,h1,h2,h3,BL];simp only[ak,ai,f105];simp only[go_sem,h1,h2,h3,bne,kd];try rfl
  ·simp only[mK,Cy,bne,kd,h1,h2,BL];simp only[ak,ai,f105];simp only[go_sem,h1,h2,bne,kd];try rfl
noncomputable def aaL:=bk (α:=Int × Int) (fun _=>True) (fun (a,b)=>[.int .i64 a,.int .i64 b]) (fun (a,b)=> .bool (mK a b))
theorem SQ (a b:Int):aaL [.int .i64 a,.int .i64 b]=some (.bool (mK a b)):=aJ (fun X Y hp bZ h'=>by
 obtain⟨a,b⟩:=X;obtain⟨a',b'⟩:=Y;simp only[cJ] at h';obtain⟨rfl,rfl⟩:=h';rfl) (a,b) trivial
theorem aaM:cI 105 aaL:=aE ahJ rfl rfl fun (a,b) _=>rc ahJ (fun A=>aaK a b A) (fun _=>[]) rfl rfl rfl (by kernel_rfl) trivial trivial
theorem dR:Tryz.prog.funcs[10]? = some f10:=by kernel_rfl
theorem ahK (hp:LM ah ab ag ae) (lo:Option Nat) (A L:Nat→Prop):ai (ej 29 15 D0 [] [] lo A L) hN (5) f10 [(cd ah ab ag ae)] []=some (.st 27 [.own 8 80 0 ah.length,.own 14 2 0 ab.length,.own 20 9 0 ag.length,.own 26 90 0 ae.length],[(8,⟨.row 80,false,ah.map dD⟩),(14,⟨.row 2,false,ab.map eI⟩),(20,⟨.row 9,false,ag.map eS⟩),(26,⟨.row 90,false,ae.map b_⟩)]):=by
 obtain⟨l1,l2,l3,l4⟩:=hp;have r1:decide (ah.length * 40≤140737488355328)=true:=by simp;omega
 have r2:decide (ab.length * 8≤140737488355328)=true:=by simp;omega
 have r3:decide (ag.length * 16≤140737488355328)=true:=by simp;omega
 have r4:decide (ae.length * 48≤140737488355328)=true:=by simp;omega
 have q1:ah.length≤140737488355328:=by omega
 have q2:ab.length≤140737488355328:=by omega
 have q3:ag.length≤140737488355328:=by omega
 have q4:ae.length≤140737488355328:=by omega
 simp only[ak,ai,f10];simp only[go_sem,r1,r2,r3,r4,q1,q2,q3,q4];try rfl
noncomputable def SU:=mD (α:=(List bp) × (List Int) × (List ByteArray) × (List aP)) (fun (ah,ab,ag,ae)=>ah.length≤100000∧ab.length≤100000∧ag.length≤100000∧ae.length≤100000) (fun (ah,ab,ag,ae)=>[(cd ah ab ag ae)]) (fun (ah,ab,ag,ae)=>[]) (fun (ah,ab,ag,ae)=>(.st 27 [.own 8 80 0 ah.length,.own 14 2 0 ab.length,.own 20 9 0 ag.length,.own 26 90 0 ae.length],[(8,⟨.row 80,false,ah.map dD⟩),(14,⟨.row 2,false,ab.map eI⟩),(20,⟨.row 9,false,ag.map eS⟩),(26,⟨.row 90,false,ae.map b_⟩)]))
theorem tb (hp:LM ah ab ag ae):SU [(cd ah ab ag ae)] []=some (.st 27 [.own 8 80 0 ah.length,.own 14 2 0 ab.length,.own 20 9 0 ag.length,.own 26 90 0 ae.length],[(8,⟨.row 80,false,ah.map dD⟩),(14,⟨.row 2,false,ab.map eI⟩),(20,⟨.row 9,false,ag.map eS⟩),(26,⟨.row 90,false,ae.map b_⟩)]):=je (fun X Y hp bZ h' my=>by
 obtain⟨ah,ab,ag,ae⟩:=X;obtain⟨c7,bJ,bL,bK⟩:=Y;simp only[cJ] at h';obtain⟨rfl,rfl,rfl,rfl⟩:=h';rfl) (ah,ab,ag,ae) hp
theorem A2:sR 10 SU:=gr dR rfl rfl fun (ah,ab,ag,ae) hp=>rm dR (fun lo A L=>ahK ah ab ag ae hp lo A L) (fun _=>[]) rfl rfl rfl (by kernel_rfl) trivial trivial
def EU (ah:List bp) (ab:List Int) (ag:List ByteArray) (ae:List aP) (n:Int):AV × List (Nat × Abs.Obj):=
 if bS (oX ah ab ae n) 0 ab.length=ab.length then (if 200≤ab.length then (.cE [.st 27 [.own 1000000 80 0 ah.length,.own 1000001 2 0 ab.length,.own 1000002 9 0 ag.length,.own 1000003 90 0 ae.length],.int .i64 0,.bool false],[(1000000,⟨.row 80,false,ah.map dD⟩),(1000001,⟨.row 2,false,ab.map eI⟩),(1000002,⟨.row 9,false,ag.map eS⟩),(1000003,⟨.row 90,false,ae.map b_⟩)])
  else (.cE [.st 27 [.own 1000000 80 0 ah.length,.own 39 2 0 (ab.length+1),.own 1000002 9 0 ag.length,.own 1000003 90 0 ae.length],.int .i64 ab.length,.bool true],[(1000000,⟨.row 80,false,ah.map dD⟩),(39,⟨.row 2,false,(ab++[n]).map eI⟩),(1000002,⟨.row 9,false,ag.map eS⟩),(1000003,⟨.row 90,false,ae.map b_⟩)]))
 else (.cE [.st 27 [.own 1000000 80 0 ah.length,.own 1000001 2 0 ab.length,.own 1000002 9 0 ag.length,.own 1000003 90 0 ae.length],.int .i64 (bS (oX ah ab ae n) 0 ab.length:Nat),.bool true],[(1000000,⟨.row 80,false,ah.map dD⟩),(1000001,⟨.row 2,false,ab.map eI⟩),(1000002,⟨.row 9,false,ag.map eS⟩),(1000003,⟨.row 90,false,ae.map b_⟩)])
theorem ahL:Tryz.prog.funcs[134]? = some f134:=by kernel_rfl
def aaN:Nat→Option (List DH × List Nat):=fun i=>match i with | 9=>some ([⟨[],[],[]⟩,⟨[4],[],[]⟩,⟨[4],[],[]⟩,⟨[4],[],[]⟩,⟨[4],[],[]⟩,⟨[],[4],[]⟩,⟨[],[],[]⟩,⟨[],[],[]⟩],[]) | _=>none
theorem yA:aaN 9=some ([⟨[],[],[]⟩,⟨[4],[],[]⟩,⟨[4],[],[]⟩,⟨[4],[],[]⟩,⟨[4],[],[]⟩,⟨[],[4],[]⟩,⟨[],[],[]⟩,⟨[],[],[]⟩],[]):=rfl
def GU:Nat→Hint:=fun i=>if i=2 then ({ tm:=[1,2,4,7],ob:=[2,4,1000000,1000001,1000002,1000003],fin:=some ([1,2,4,5,6],[2,4,1000000,1000001,1000002,1000003]) }:Hint) else { tm:=[],ob:=[] }
theorem tc:GU 2=({ tm:=[1,2,4,7],ob:=[2,4,1000000,1000001,1000002,1000003],fin:=some ([1,2,4,5,6],[2,4,1000000,1000001,1000002,1000003]) }:Hint):=by simp[GU]
theorem KC (n:Int) (hp:(LM ah ab ag ae)∧∀ r ∈ ae,0≤r.at_∧r.at_.toNat < ah.length) (lo:Option Nat) (L:Nat→Prop) (A:Nat→Prop) (k:Nat):∀ (m i:Nat) (σ:St),i+m=ab.length→
 σ.cA (GU 2)=⟨[(1,.int .i64 n),(2,.ptr 2 (.box 27) []),(4,.ptr 4 (.box 27) []),(7,.int .i64 i)],[(2,⟨.box 27,true,[.st 27 [.own 1000000 80 0 ah.length,.own 1000001 2 0 ab.length,.own 1000002 9 0 ag.length,.own 1000003 90 0 ae.length]]⟩),(4,⟨.box 27,true,[n4]⟩),(1000000,⟨.row 80,false,ah.map dD⟩),(1000001,⟨.row 2,false,ab.map eI⟩),(1000002,⟨.row 9,false,ag.map eS⟩),(1000003,⟨.row 90,false,ae.map b_⟩)]⟩→
 post (GU 2) (aG ty (a9 (ej 46 8724156663 aaN [(97,c97)] [] lo A L) GU k (sub (f134.body.getD .skip) [1,0,1,0,0])) (GU 2) (m+1) σ)=some (if bS (oX ah ab ae n) i m=ab.length then (.exit 0,⟨[(1,.int .i64 n),(2,.ptr 2 (.box 27) []),(4,.ptr 4 (.box 27) [])],[(2,⟨.box 27,true,[.st 27 [.own 1000000 80 0 ah.length,.own 1000001 2 0 ab.length,.own 1000002 9 0 ag.length,.own 1000003 90 0 ae.length]]⟩),(4,⟨.box 27,true,[n4]⟩),(1000000,⟨.row 80,false,ah.map dD⟩),(1000001,⟨.row 2,false,ab.map eI⟩),(1000002,⟨.row 9,false,ag.map eS⟩),(1000003,⟨.row 90,false,ae.map b_⟩)]⟩) else (.ret,⟨[(1,.int .i64 n),(2,.ptr 2 (.box 27) []),(4,.ptr 4 (.box 27) []),(5,.int .i64 (bS (oX ah ab ae n) i m:Nat)),(6,.bool true)],[(2,⟨.box 27,true,[.st 27 [.own 1000000 80 0 ah.length,.own 1000001 2 0 ab.length,.own 1000002 9 0 ag.length,.own 1000003 90 0 ae.length]]⟩),(4,⟨.box 27,true,[.st 27 [.own 1000000 80 0 ah.length,.own 1000001 2 0 ab.length,.own 1000002 9 0 ag.length,.own 1000003 90 0 ae.length]]⟩),(1000000,⟨.row 80,false,ah.map dD⟩),(1000001,⟨.row 2,false,ab.map eI⟩),(1000002,⟨.row 9,false,ag.map eS⟩),(1000003,⟨.row 90,false,ae.map b_⟩)]⟩)):=by
 simp only[f134,sub,Option.getD_some,tc];intro m
 induction m with
 | zero=>
   intro i σ hi hσ;have h1:¬ ((i:Int) < ((ab.length:Nat):Int)):=by omega
   have dO:=hp.1;have hie:i=ab.length:=by omega
   rw[aG,hσ];simp only[go_sem,h1];simp[post,St.fin,aQ,aA,bS,hie]
 | succ m ih=>
   intro i σ hi hσ;have h1:(i:Int) < ((ab.length:Nat):Int):=by omega
   have aR:i < ab.length:=by omega
   have cY:(0:Int)≤(i:Int):=Int.natCast_nonneg i;have hw:IntKind.i64.wrap ((i:Int)+1)=((i+1:Nat):Int):=a_ (by have:=hp.1;omega);have aw:=aD (d:=(0:Int)) aR;have K9:=GS ah ab ag ae i ⟨hp.1.2.2.2,hp.2⟩;have yI:oX ah ab ae n i=(ab.getD i 0==n&& !(ae.any (fixF ah i))):=rfl;generalize ab.getD i 0=x at *;generalize ae.any (fixF ah i)=fx at *;have d_:i ≠ ab.length:=by omega
   rw[aG,hσ];cases hv:(x==n) <;> cases fx;all_goals
    simp only[hv,BL] at yI;simp only[bS,yI,BL];simp only[go_sem,yA,h1,cY,hw,aw,K9,hv];first
    | (simp[post,St.fin,aQ,aA,d_];done)
    | exact ih (i+1) _ (by omega) (by simp only[go_sem])
theorem aaP (n:Int) (hp:(LM ah ab ag ae)∧∀ r ∈ ae,0≤r.at_∧r.at_.toNat < ah.length) (lo:Option Nat) (A L:Nat→Prop):ai (ej 46 8724156663 aaN [(97,c97)] [] lo A L) (GU) (100010) f134 [.st 27 [.own 1000000 80 0 ah.length,.own 1000001 2 0 ab.length,.own 1000002 9 0 ag.length,.own 1000003 90 0 ae.length],.int .i64 n] [(1000000,⟨.row 80,false,ah.map dD⟩),(1000001,⟨.row 2,false,ab.map eI⟩),(1000002,⟨.row 9,false,ag.map eS⟩),(1000003,⟨.row 90,false,ae.map b_⟩)]=some ((EU ah ab ag ae n).1,(EU ah ab ag ae n).2):=by
 obtain⟨⟨l1,l2,l3,l4⟩,hr⟩:=id hp;have hap:decide ((ab.length+1) * 8≤140737488355328)=true:=by simp;omega
 have x_:ab.length+1≤140737488355328:=by omega
 have ya:IntKind.i64.wrap (((ab.length+1:Nat):Int) - 1)=(ab.length:Int):=by rw[wrap_i64 (by omega) (by omega)];omega
 have yb:ab.map eI++[AV.int .i64 n]=(ab++[n]).map eI:=by simp[eI]
 have hl:=KC ah ab ag ae n hp lo L A 100010 ab.length 0;simp only[f134,sub,Option.getD_some,tc] at hl;unfold EU;simp only[ak,ai,f134];simp only[go_sem,yA,tc,hap,x_,ya,yb];rw[aY (hl _ (by simp) (by simp only[go_sem])) (by omega)];generalize bS (oX ah ab ae n) 0 ab.length=j at *;by_cases hj:j=ab.length
 ·simp only[if_pos hj];by_cases h2:200≤ab.length
  ·have h3:(200:Int)≤(ab.length:Int):=by omega
   simp only[if_pos h2];simp only[go_sem,yA,tc,hap,x_,ya,yb,h3,hj];try rfl
  ·have h3:¬ ((200:Int)≤(ab.length:Int)):=by omega
   simp only[if_neg h2];simp only[go_sem,yA,tc,hap,x_,ya,yb,h3,hj];try rfl
 ·simp only[if_neg hj];simp only[go_sem,yA,tc,hap,x_,ya,yb];try rfl
noncomputable def aaQ:=mD (α:=(List bp) × (List Int) × (List ByteArray) × (List aP) × Int) (fun (ah,ab,ag,ae,n)=>(LM ah ab ag ae)∧∀ r ∈ ae,0≤r.at_∧r.at_.toNat < ah.length) (fun (ah,ab,ag,ae,n)=>[.st 27 [.own 1000000 80 0 ah.length,.own 1000001 2 0 ab.length,.own 1000002 9 0 ag.length,.own 1000003 90 0 ae.length],.int .i64 n]) (fun (ah,ab,ag,ae,n)=>[(1000000,⟨.row 80,false,ah.map dD⟩),(1000001,⟨.row 2,false,ab.map eI⟩),(1000002,⟨.row 9,false,ag.map eS⟩),(1000003,⟨.row 90,false,ae.map b_⟩)]) (fun (ah,ab,ag,ae,n)=>((EU ah ab ag ae n).1,(EU ah ab ag ae n).2))
theorem SV (n:Int) (hp:(LM ah ab ag ae)∧∀ r ∈ ae,0≤r.at_∧r.at_.toNat < ah.length):aaQ [.st 27 [.own 1000000 80 0 ah.length,.own 1000001 2 0 ab.length,.own 1000002 9 0 ag.length,.own 1000003 90 0 ae.length],.int .i64 n] [(1000000,⟨.row 80,false,ah.map dD⟩),(1000001,⟨.row 2,false,ab.map eI⟩),(1000002,⟨.row 9,false,ag.map eS⟩),(1000003,⟨.row 90,false,ae.map b_⟩)]=some ((EU ah ab ag ae n).1,(EU ah ab ag ae n).2):=je (fun X Y hp bZ h' my=>by
 obtain⟨ah,ab,ag,ae,n⟩:=X;obtain⟨c7,bJ,bL,bK,n'⟩:=Y;simp only[cJ] at h';obtain⟨h1,h2,h3,h4,rfl⟩:=h';try dsimp only at hp bZ ⊢
 simp only[cJ] at my;obtain⟨rfl,rfl,rfl,rfl⟩:=my;rfl) (ah,ab,ag,ae,n) hp
theorem aaR:sR 134 aaQ:=gr ahL rfl rfl fun (ah,ab,ag,ae,n) hp=>rm ahL (fun lo A L=>aaP ah ab ag ae n hp lo A L) (fun i=>match i with | 9=>[0,0,2,6,14,1,63,127] | _=>[]) rfl rfl rfl (by kernel_rfl) ⟨UR,trivial⟩ trivial
def aT (x:aL × Bool):AV:= .st 87 [ax x.1,.bool x.2]
def eN:aL × Bool:=(⟨[],[],[],[]⟩,false)
structure RW (ah:List bp) (ab:List Int) (ag:List ByteArray) (ae:List aP) (q:Int) (f:List aB):Prop where
 lim:ah.length≤100000∧ab.length≤100000∧ag.length≤100000∧ae.length≤100000
 i200:ab.length≤200
 h0:0≤q
 aR:q.toNat < ah.length
 f8:f.length=8
 op:(0≤(ah.getD q.toNat bD).a∧(ah.getD q.toNat bD).a.toNat < 8)∧(0≤(ah.getD q.toNat bD).b∧(ah.getD q.toNat bD).b.toNat < 8)∧(0≤(ah.getD q.toNat bD).d∧(ah.getD q.toNat bD).d.toNat < 8)
 rel:∀ r ∈ ae,0≤r.at_∧r.at_.toNat < ah.length
 jmp:((ah.getD q.toNat bD).op==24 || (ah.getD q.toNat bD).op==25)=true→0≤(ah.getD q.toNat bD).n∧(ah.getD q.toNat bD).n.toNat < ah.length
 vE:∀ o ∈ ah,bM o.n
 fn:∀ x ∈ f,bM x.n
 rn:∀ r ∈ ae,bM r.at_
def oz (ah:List bp) (ab:List Int) (ag:List ByteArray) (ae:List aP) (q n:Int):aL × Bool:=
 if bS (oX ah ab ae n) 0 ab.length=ab.length then (if 200≤ab.length then (⟨ah.set q.toNat ⟨1,(ah.getD q.toNat bD).d,0,0,0⟩,ab,ag,ae⟩,false)
  else (⟨ah.set q.toNat ⟨1,(ah.getD q.toNat bD).d,0,0,ab.length⟩,ab++[n],ag,ae⟩,true))
 else (⟨ah.set q.toNat ⟨1,(ah.getD q.toNat bD).d,0,0,(bS (oX ah ab ae n) 0 ab.length:Nat)⟩,ab,ag,ae⟩,true)
theorem ahM:Tryz.prog.funcs[103]? = some f103:=by kernel_rfl
theorem aaS (q n:Int) (hp:(LM ah ab ag ae)∧(0≤q∧q.toNat < ah.length)∧∀ r ∈ ae,0≤r.at_∧r.at_.toNat < ah.length) :∃ r,wk r (aT (oz ah ab ag ae q n))∧∀ A,ak (env 33 975 D0 [] [(10,SU),(134,aaQ)] A) hN (5) f103 [(cd ah ab ag ae),.int .i64 q,.int .i64 n]=some r:=by
 obtain⟨hl,⟨h0,aR⟩,hr⟩:=hp;have qp:=tb ah ab ag ae hl;have GV:=SV ah ab ag ae n ⟨hl,hr⟩;have aO:q < (ah.length:Int):=by omega
 have aw:=aD (d:=bD) aR;have y5:(ab++[n]).length=ab.length+1:=by simp
 unfold EU at GV;unfold oz;generalize bS (oX ah ab ae n) 0 ab.length=j at *;generalize ah.getD q.toNat bD=x at *;by_cases hj:j=ab.length
 ·by_cases h2:200≤ab.length
  ·have bH:=cD dD ah q.toNat ⟨1,x.d,0,0,0⟩;simp only[dD] at bH;simp only[if_pos hj,if_pos h2] at GV;simp only[if_pos hj,if_pos h2];apply bu
   ·intro A;simp only[ak,ai,f103];simp only[go_sem,qp,GV,aw,bH,h0,aO,y5];try rfl
   ·simp[WK,aT,ax,eN]
  ·have bH:=cD dD ah q.toNat ⟨1,x.d,0,0,ab.length⟩;simp only[dD] at bH;simp only[if_pos hj,if_neg h2] at GV;simp only[if_pos hj,if_neg h2];apply bu
   ·intro A;simp only[ak,ai,f103];simp only[go_sem,qp,GV,aw,bH,h0,aO,y5];try rfl
   ·simp[WK,aT,ax,eN]
 ·have bH:=cD dD ah q.toNat ⟨1,x.d,0,0,j⟩;simp only[dD] at bH;simp only[if_neg hj] at GV;simp only[if_neg hj];apply bu
  ·intro A;simp only[ak,ai,f103];simp only[go_sem,qp,GV,aw,bH,h0,aO,y5];try rfl
  ·simp[WK,aT,ax,eN]
noncomputable def Cz:=bk (α:=(List bp) × (List Int) × (List ByteArray) × (List aP) × Int × Int) (fun (ah,ab,ag,ae,q,n)=>(LM ah ab ag ae)∧(0≤q∧q.toNat < ah.length)∧∀ r ∈ ae,0≤r.at_∧r.at_.toNat < ah.length) (fun (ah,ab,ag,ae,q,n)=>[(cd ah ab ag ae),.int .i64 q,.int .i64 n]) (fun (ah,ab,ag,ae,q,n)=>aT (oz ah ab ag ae q n))
theorem lZ (q n:Int) (hp:(LM ah ab ag ae)∧(0≤q∧q.toNat < ah.length)∧∀ r ∈ ae,0≤r.at_∧r.at_.toNat < ah.length):Cz [(cd ah ab ag ae),.int .i64 q,.int .i64 n]=some (aT (oz ah ab ag ae q n)):=aJ (fun X Y hp bZ h'=>by
 obtain⟨ah,ab,ag,ae,q,n⟩:=X;obtain⟨c7,bJ,bL,bK,q',n'⟩:=Y;simp only[db,cJ] at h';obtain⟨rfl,rfl,rfl,rfl,rfl,rfl⟩:=h';rfl) (ah,ab,ag,ae,q,n) hp
theorem Pn:cI 103 Cz:=aE ahM rfl rfl fun (ah,ab,ag,ae,q,n) hp=>let ⟨_,hw,hr⟩:=aaS ah ab ag ae q n hp;(rc ahM hr (fun i=>match i with | 2=>[0,1,0,0,8,0,56,120,248,0,1016,2047,4095] | _=>[]) rfl rfl rfl (by kernel_rfl) trivial ⟨A2,aaR,trivial⟩).eK hw
def sg (ah:List bp) (ab:List Int) (ag:List ByteArray) (ae:List aP) (q a:Int):aL × Bool:=(⟨ah.set q.toNat ⟨3,(ah.getD q.toNat bD).d,a,0,0⟩,ab,ag,ae⟩,true)
theorem ahN:Tryz.prog.funcs[106]? = some f106:=by kernel_rfl
theorem aaT (q a:Int) (hp:(LM ah ab ag ae)∧0≤q∧q.toNat < ah.length) :∃ r,wk r (aT (sg ah ab ag ae q a))∧∀ A,ak (env 24 207 D0 [] [(10,SU)] A) hN (5) f106 [(cd ah ab ag ae),.int .i64 q,.int .i64 a]=some r:=by
 obtain⟨hl,h0,aR⟩:=hp;have qp:=tb ah ab ag ae hl;have aO:q < (ah.length:Int):=by omega
 have aw:=aD (d:=bD) aR;unfold sg;generalize ah.getD q.toNat bD=x at *;have bH:=cD dD ah q.toNat ⟨3,x.d,a,0,0⟩;simp only[dD] at bH;apply bu
 ·intro A;simp only[ak,ai,f106];simp only[go_sem,qp,aw,bH,h0,aO];try rfl
 ·simp[WK,aT,ax,eN]
noncomputable def CA:=bk (α:=(List bp) × (List Int) × (List ByteArray) × (List aP) × Int × Int) (fun (ah,ab,ag,ae,q,a)=>(LM ah ab ag ae)∧0≤q∧q.toNat < ah.length) (fun (ah,ab,ag,ae,q,a)=>[(cd ah ab ag ae),.int .i64 q,.int .i64 a]) (fun (ah,ab,ag,ae,q,a)=>aT (sg ah ab ag ae q a))
theorem Jj (q a:Int) (hp:(LM ah ab ag ae)∧0≤q∧q.toNat < ah.length):CA [(cd ah ab ag ae),.int .i64 q,.int .i64 a]=some (aT (sg ah ab ag ae q a)):=aJ (fun X Y hp bZ h'=>by
 obtain⟨ah,ab,ag,ae,q,a⟩:=X;obtain⟨c7,bJ,bL,bK,q',a'⟩:=Y;simp only[db,cJ] at h';obtain⟨rfl,rfl,rfl,rfl,rfl,rfl⟩:=h';rfl) (ah,ab,ag,ae,q,a) hp
theorem Po:cI 106 CA:=aE ahN rfl rfl fun (ah,ab,ag,ae,q,a) hp=>let ⟨_,hw,hr⟩:=aaT ah ab ag ae q a hp;(rc ahN hr (fun i=>match i with | 2=>[0,1,0,0,8,0,56,120,248,0,1016,2047,4095] | _=>[]) rfl rfl rfl (by kernel_rfl) trivial ⟨A2,trivial⟩).eK hw
end Go.Proofs.Tryz
end
