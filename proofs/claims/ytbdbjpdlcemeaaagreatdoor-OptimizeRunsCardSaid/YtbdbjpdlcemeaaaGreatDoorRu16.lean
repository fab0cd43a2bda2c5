/- A part of a proof. -/
import Derived.Test.YtbdbjpdlcemeaaaGreatDoorRu06
import Derived.Test.YtbdbjpdlcemeaaaGreatDoorRu09
import Derived.Test.YtbdbjpdlcemeaaaGreatDoorRu10
set_option linter.unusedSimpArgs false
set_option linter.unusedVariables false
section
set_option maxHeartbeats 4000000
set_option maxRecDepth 20000
namespace Go.Proofs.Tryz
open Go Go.Abs
theorem ahp:Q 146=some f146:=by kernel_rfl
theorem ZR (g:Bool) (A:NP):ak (env 21 1048583 D0 [] [] A) hN (5) f146 [.st 133 [J 8,.bool g]]=some (J 0):=by
 simp only[ak,ai,f146];simp only[go_sem];try rfl
noncomputable def SE:=bk (α:=Bool) (fun _=>True) (fun g=>[.st 133 [J 8,.bool g]]) (fun g=>J 0)
theorem Ja (g:Bool):SE [.st 133 [J 8,.bool g]]=some (J 0):=aJ (fun g g' hp bZ h'=>by
 simp only[cJ] at h';obtain rfl:=h';rfl) (g) trivial
theorem Pb:cI 146 SE:=aE ahp rfl rfl fun g _=>rc ahp (fun A=>ZR g A) (fun _=>[]) rfl rfl rfl (by kernel_rfl) trivial trivial
def CJ (s:Int) (g:Bool) (v:Int):Int:=
 if (s==1)=true then (if g=true then IntKind.i64.wrap (IntKind.i8.wrap v) else IntKind.i64.wrap (IntKind.u8.wrap v)) else if (s==2)=true then (if g=true then IntKind.i64.wrap (IntKind.i16.wrap v) else IntKind.i64.wrap (IntKind.u16.wrap v))
 else if (s==4)=true then (if g=true then IntKind.i64.wrap (IntKind.i32.wrap v) else IntKind.i64.wrap (IntKind.u32.wrap v)) else v
theorem qh (g:Bool) (v:Int):CJ 8 g v=v:=rfl
theorem ahq:Q 132=some f132:=by kernel_rfl
theorem ZS (s:Int) (g:Bool) (v:Int) (A:NP):ak (env 38 1209140439 D0 [] [] A) hN (5) f132 [.st 133 [J s,.bool g],J v]=some (J (CJ s g v)):=by
 cases h1:(s==1)
 ·cases h2:(s==2)
  ·cases h4:(s==4)
   ·simp only[CJ,h1,h2,h4,BL];simp only[ak,ai,f132];simp only[go_sem,h1,h2,h4];try rfl
   ·cases g
    ·simp only[CJ,h1,h2,h4,BL];simp only[ak,ai,f132];simp only[go_sem,h1,h2,h4];try rfl
    ·simp only[CJ,h1,h2,h4,BL];simp only[ak,ai,f132];simp only[go_sem,h1,h2,h4];try rfl
  ·cases g
   ·simp only[CJ,h1,h2,BL];simp only[ak,ai,f132];simp only[go_sem,h1,h2];try rfl
   ·simp only[CJ,h1,h2,BL];simp only[ak,ai,f132];simp only[go_sem,h1,h2];try rfl
 ·cases g
  ·simp only[CJ,h1,BL];simp only[ak,ai,f132];simp only[go_sem,h1];try rfl
  ·simp only[CJ,h1,BL];simp only[ak,ai,f132];simp only[go_sem,h1];try rfl
noncomputable def Cu:=bk (α:=Int × Bool × Int) (fun _=>True) (fun (s,g,v)=>[.st 133 [J s,.bool g],J v]) (fun (s,g,v)=>J (CJ s g v))
theorem dc (s:Int) (g:Bool) (v:Int):Cu [.st 133 [J s,.bool g],J v]=some (J (CJ s g v)):=aJ (fun X Y hp bZ h'=>by
 obtain⟨s,g,v⟩:=X;obtain⟨s',g',v'⟩:=Y;simp only[cJ] at h';obtain⟨rfl,rfl,rfl⟩:=h';rfl) (s,g,v) trivial
theorem yw:cI 132 Cu:=aE ahq rfl rfl fun (s,g,v) _=>rc ahq (fun A=>ZS s g v A) (fun _=>[]) rfl rfl rfl (by kernel_rfl) trivial trivial
theorem ahr:Q 149=some f149:=by kernel_rfl
theorem ZT (g h:Bool) (A:NP):ak (env 13 4127 D0 [(146,SE)] [] A) hN (5) f149 [.st 133 [J 8,.bool g],.st 133 [J 8,.bool h]]=some (J 0):=by
 simp only[ak,ai,f149];simp only[go_sem,Ja];try rfl
noncomputable def ZU:=bk (α:=Bool × Bool) (fun _=>True) (fun (g,h)=>[.st 133 [J 8,.bool g],.st 133 [J 8,.bool h]]) (fun (g,h)=>J 0)
theorem r_ (g h:Bool):ZU [.st 133 [J 8,.bool g],.st 133 [J 8,.bool h]]=some (J 0):=aJ (fun X Y hp bZ h'=>by
 obtain⟨g,h⟩:=X;obtain⟨g',h'⟩:=Y;simp only[cJ] at h';obtain⟨rfl,rfl⟩:=h';rfl) (g,h) trivial
theorem ZV:cI 149 ZU:=aE ahr rfl rfl fun (g,h) _=>rc ahr (fun A=>ZT g h A) (fun _=>[]) rfl rfl rfl (by kernel_rfl) ⟨Pb,trivial⟩ trivial
theorem kd:((true==true)=true∧(false==false)=true∧(true==false)=false∧(false==true)=false)∧(!true)=false∧(!false)=true:=⟨⟨rfl,rfl,rfl,rfl⟩,rfl,rfl⟩
def gP (g:Bool) (a b:Int):Int:=
 if (!g&&((decide (a < 0)) != (decide (b < 0))))=true then (if (decide (b < a))=true then -1 else if (decide (a < b))=true then 1 else 0)
 else if (decide (a < b))=true then -1 else if (decide (b < a))=true then 1 else 0
theorem ahs:Q 152=some f152:=by kernel_rfl
theorem ZW (g:Bool) (a b:Int) (A:NP):ak (env 25 18939983 D0 [] [] A) hN (5) f152 [.st 133 [J 8,.bool g],J a,J b]=some (J (gP g a b)):=by
 cases g
 ·cases h1:decide (a < 0)
  ·cases h2:decide (b < 0)
   ·cases h3:decide (a < b)
    ·cases h4:decide (b < a)
     ·simp only[gP,h1,h2,h3,h4,bne,kd,BL];simp only[ak,ai,f152];simp only[go_sem,h1,h2,h3,h4,bne,kd];try rfl
     ·simp only[gP,h1,h2,h3,h4,bne,kd,BL];simp only[ak,ai,f152];simp only[go_sem,h1,h2,h3,h4,bne,kd];try rfl
    ·cases h4:decide (b < a)
     ·simp only[gP,h1,h2,h3,h4,bne,kd,BL];simp only[ak,ai,f152];simp only[go_sem,h1,h2,h3,h4,bne,kd];try rfl
     ·simp only[gP,h1,h2,h3,h4,bne,kd,BL];simp only[ak,ai,f152];simp only[go_sem,h1,h2,h3,h4,bne,kd];try rfl
   ·cases h3:decide (a < b)
    ·cases h4:decide (b < a)
     ·simp only[gP,h1,h2,h3,h4,bne,kd,BL];simp only[ak,ai,f152];simp only[go_sem,h1,h2,h3,h4,bne,kd];try rfl
     ·simp only[gP,h1,h2,h3,h4,bne,kd,BL];simp only[ak,ai,f152];simp only[go_sem,h1,h2,h3,h4,bne,kd];try rfl
    ·cases h4:decide (b < a)
     ·simp only[gP,h1,h2,h3,h4,bne,kd,BL];simp only[ak,ai,f152];simp only[go_sem,h1,h2,h3,h4,bne,kd];try rfl
     ·simp only[gP,h1,h2,h3,h4,bne,kd,BL];simp only[ak,ai,f152];simp only[go_sem,h1,h2,h3,h4,bne,kd];try rfl
  ·cases h2:decide (b < 0)
   ·cases h3:decide (a < b)
    ·cases h4:decide (b < a)
     ·simp only[gP,h1,h2,h3,h4,bne,kd,BL];simp only[ak,ai,f152];simp only[go_sem,h1,h2,h3,h4,bne,kd];try rfl
     ·simp only[gP,h1,h2,h3,h4,bne,kd,BL];simp only[ak,ai,f152];simp only[go_sem,h1,h2,h3,h4,bne,kd];try rfl
    ·cases h4:decide (b < a)
     ·simp only[gP,h1,h2,h3,h4,bne,kd,BL];simp only[ak,ai,f152];simp only[go_sem,h1,h2,h3,h4,bne,kd];try rfl
     ·simp only[gP,h1,h2,h3,h4,bne,kd,BL];simp only[ak,ai,f152];simp only[go_sem,h1,h2,h3,h4,bne,kd];try rfl
   ·cases h3:decide (a < b)
    ·cases h4:decide (b < a)
     ·simp only[gP,h1,h2,h3,h4,bne,kd,BL];simp only[ak,ai,f152];simp only[go_sem,h1,h2,h3,h4,bne,kd];try rfl
     ·simp only[gP,h1,h2,h3,h4,bne,kd,BL];simp only[ak,ai,f152];simp only[go_sem,h1,h2,h3,h4,bne,kd];try rfl
    ·cases h4:decide (b < a)
     ·simp only[gP,h1,h2,h3,h4,bne,kd,BL];simp only[ak,ai,f152];simp only[go_sem,h1,h2,h3,h4,bne,kd];try rfl
     ·simp only[gP,h1,h2,h3,h4,bne,kd,BL];simp only[ak,ai,f152];simp only[go_sem,h1,h2,h3,h4,bne,kd];try rfl
 ·cases h3:decide (a < b)
  ·cases h4:decide (b < a)
   ·simp only[gP,h3,h4,bne,kd,BL];simp only[ak,ai,f152];simp only[go_sem,h3,h4,bne,kd];try rfl
   ·simp only[gP,h3,h4,bne,kd,BL];simp only[ak,ai,f152];simp only[go_sem,h3,h4,bne,kd];try rfl
  ·cases h4:decide (b < a)
   ·simp only[gP,h3,h4,bne,kd,BL];simp only[ak,ai,f152];simp only[go_sem,h3,h4,bne,kd];try rfl
   ·simp only[gP,h3,h4,bne,kd,BL];simp only[ak,ai,f152];simp only[go_sem,h3,h4,bne,kd];try rfl
noncomputable def ZX:=bk (α:=Bool × Int × Int) (fun _=>True) (fun (g,a,b)=>[.st 133 [J 8,.bool g],J a,J b]) (fun (g,a,b)=>J (gP g a b))
theorem sc (g:Bool) (a b:Int):ZX [.st 133 [J 8,.bool g],J a,J b]=some (J (gP g a b)):=aJ (fun X Y hp bZ h'=>by
 obtain⟨g,a,b⟩:=X;obtain⟨g',a',b'⟩:=Y;simp only[cJ] at h';obtain⟨rfl,rfl,rfl⟩:=h';rfl) (g,a,b) trivial
theorem ZY:cI 152 ZX:=aE ahs rfl rfl fun (g,a,b) _=>rc ahs (fun A=>ZW g a b A) (fun _=>[]) rfl rfl rfl (by kernel_rfl) trivial trivial
def as7 (g:Bool) (a b:Int):Int × Int:=
 if g=true then (if (b== -1)=true then (IntKind.i64.wrap (-a),0) else (IntKind.i64.wrap (a.tdiv b),a.tmod b))
 else (IntKind.i64.wrap (IntKind.u64.wrap ((IntKind.u64.wrap a).tdiv (IntKind.u64.wrap b))),IntKind.i64.wrap ((IntKind.u64.wrap a).tmod (IntKind.u64.wrap b)))
theorem Jc (g:Bool) (a b:Int):as7 g a b=(rT (if g=true then 7 else 8) a b,rT (if g=true then 9 else 10) a b):=by
 cases g
 ·rfl
 ·unfold as7;rw[if_pos rfl];split
  ·rename_i h;have:b = -1:=by simpa using h
   subst this;show _=(IntKind.i64.wrap (a.tdiv (-1)),a.tmod (-1));rw[Int.tdiv_neg,Int.tdiv_one,Int.tmod_neg,Int.tmod_one]
  ·rfl
theorem aht:Q 158=some f158:=by kernel_rfl
theorem ZZ (g:Bool) (a b:Int) (hp:bM b∧b ≠ 0) (A:NP):ak (env 32 2767 D0 [] [] A) hN (5) f158 [.st 133 [J 8,.bool g],J a,J b]=some (.cE [J (as7 g a b).1,J (as7 g a b).2]):=by
 obtain⟨hr,hb⟩:=hp;have hu:=uR hr hb;cases g
 ·simp only[as7,BL];simp only[ak,ai,f158];simp only[go_sem,hb,hu];try rfl
 ·cases h1:(b== -1)
  all_goals
   simp only[as7,h1,BL];simp only[ak,ai,f158];simp only[go_sem,hb,hu,h1];try rfl
noncomputable def Z1:=bk (α:=Bool × Int × Int) (fun (g,a,b)=>bM b∧b ≠ 0) (fun (g,a,b)=>[.st 133 [J 8,.bool g],J a,J b]) (fun (g,a,b)=> .cE [J (as7 g a b).1,J (as7 g a b).2])
theorem Jd (g:Bool) (a b:Int) (hp:bM b∧b ≠ 0):Z1 [.st 133 [J 8,.bool g],J a,J b]=some (.cE [J (as7 g a b).1,J (as7 g a b).2]):=aJ (fun X Y hp bZ h'=>by
 obtain⟨g,a,b⟩:=X;obtain⟨g',a',b'⟩:=Y;simp only[cJ] at h';obtain⟨rfl,rfl,rfl⟩:=h';rfl) (g,a,b) hp
theorem Z2:cI 158 Z1:=aE aht rfl rfl fun (g,a,b) hp=>rc aht (fun A=>ZZ g a b hp A) (fun i=>match i with | 4=>[0,0,3,0,0,24,7,127] | 5=>[0,1,0,4,15,31,0,64,0,256,960,1984,63,8191] | _=>[]) rfl rfl rfl (by kernel_rfl) trivial trivial
def mJ (g:Bool) (r:Int × Int):AV:=if (r.2==0)=true then .st 181 [.st 133 [J 8,.bool g],J r.1,J 0] else .st 181 [.st 133 [J 0,.bool false],J 0,J r.2]
def ox (g:Bool) (o a b:Int):Int × Int:=
 if (o==1)=true then (IntKind.i64.wrap (a+b),0) else if (o==2)=true then (IntKind.i64.wrap (a - b),0) else if (o==3)=true then (IntKind.i64.wrap (a * b),0)
 else if (o==6)=true then (bV .and .i64 a b,0) else if (o==7)=true then (bV .or .i64 a b,0) else if (o==8)=true then (bV .xor .i64 a b,0)
 else if (b==0)=true then (0,12) else if (o==5)=true then ((as7 g a b).2,0) else ((as7 g a b).1,0)
theorem SF:((12:Int)==0)=false∧((0:Int)==0)=true∧((10:Int)==0)=false∧((11:Int)==0)=false:=by decide
theorem ahu:Q 153=some f153:=by kernel_rfl
theorem Z3 (o:Int) (g:Bool) (a b:Int) (hp:bM b) (A:NP):ak (env 62 4648877063954223 D0 [(132,Cu),(158,Z1)] [] A) hN (5) f153 [J o,.st 133 [J 8,.bool g],J a,J b]=some (mJ g (ox g o a b)):=by
 cases h1:(o==1)
 ·cases h2:(o==2)
  ·cases h3:(o==3)
   ·cases h6:(o==6)
    ·cases h7:(o==7)
     ·cases h8:(o==8)
      ·cases hb:(b==0)
       ·cases h5:(o==5)
        ·have Z4:=Jd g a b ⟨hp,by simpa using hb⟩;simp only[ox,mJ,SF,h1,h2,h3,h6,h7,h8,hb,h5,BL];simp only[ak,ai,f153];simp only[go_sem,dc,qh,h1,h2,h3,h6,h7,h8,hb,h5,Z4];try rfl
        ·have Z4:=Jd g a b ⟨hp,by simpa using hb⟩;simp only[ox,mJ,SF,h1,h2,h3,h6,h7,h8,hb,h5,BL];simp only[ak,ai,f153];simp only[go_sem,dc,qh,h1,h2,h3,h6,h7,h8,hb,h5,Z4];try rfl
       ·simp only[ox,mJ,SF,h1,h2,h3,h6,h7,h8,hb,BL];simp only[ak,ai,f153];simp only[go_sem,dc,qh,h1,h2,h3,h6,h7,h8,hb];try rfl
      ·simp only[ox,mJ,SF,h1,h2,h3,h6,h7,h8,BL];simp only[ak,ai,f153];simp only[go_sem,dc,qh,h1,h2,h3,h6,h7,h8];try rfl
     ·simp only[ox,mJ,SF,h1,h2,h3,h6,h7,BL];simp only[ak,ai,f153];simp only[go_sem,dc,qh,h1,h2,h3,h6,h7];try rfl
    ·simp only[ox,mJ,SF,h1,h2,h3,h6,BL];simp only[ak,ai,f153];simp only[go_sem,dc,qh,h1,h2,h3,h6];try rfl
   ·simp only[ox,mJ,SF,h1,h2,h3,BL];simp only[ak,ai,f153];simp only[go_sem,dc,qh,h1,h2,h3];try rfl
  ·simp only[ox,mJ,SF,h1,h2,BL];simp only[ak,ai,f153];simp only[go_sem,dc,qh,h1,h2];try rfl
 ·simp only[ox,mJ,SF,h1,BL];simp only[ak,ai,f153];simp only[go_sem,dc,qh,h1];try rfl
noncomputable def Z5:=bk (α:=Int × Bool × Int × Int) (fun (o,g,a,b)=>bM b) (fun (o,g,a,b)=>[J o,.st 133 [J 8,.bool g],J a,J b]) (fun (o,g,a,b)=>mJ g (ox g o a b))
theorem SG (o:Int) (g:Bool) (a b:Int) (hp:bM b):Z5 [J o,.st 133 [J 8,.bool g],J a,J b]=some (mJ g (ox g o a b)):=aJ (fun X Y hp bZ h'=>by
 obtain⟨o,g,a,b⟩:=X;obtain⟨o',g',a',b'⟩:=Y;simp only[cJ] at h';obtain⟨rfl,rfl,rfl,rfl⟩:=h';rfl) (o,g,a,b) hp
theorem Z6:cI 153 Z5:=aE ahu rfl rfl fun (o,g,a,b) hp=>rc ahu (fun A=>Z3 o g a b hp A) (fun i=>match i with | 21=>[0,0,0,6,15,31] | _=>[]) rfl rfl rfl (by kernel_rfl) ⟨yw,Z2,trivial⟩ trivial
theorem w64:IntKind.i64.wrap 64=64:=rfl
def yx (l g:Bool) (a:Int):Int:=if l=true then IntKind.i64.wrap (a+a) else if g=true then IntKind.i64.wrap ((IntKind.i64.wrap (a - bV .and .i64 a 1)).tdiv 2) else IntKind.i64.wrap (IntKind.u64.wrap ((IntKind.u64.wrap a).tdiv 2))
def fh (l g:Bool):Nat→Int→Int
 | 0,a=>a
 | n+1,a=>fh l g n (yx l g a)
def Fc (b:Int):Int:=if (decide (b.tmod 64 < 0))=true then b.tmod 64+64 else b.tmod 64
theorem SH (b:Int):0≤Fc b∧Fc b≤63:=by
 unfold Fc;have h1:=Int.tmod_lt_of_pos b (show (0:Int) < 64 by omega);have h2:-64 < b.tmod 64:=by
  have:=Int.lt_tmod_of_pos b (show (0:Int) < 64 by omega);omega
 split <;> rename_i h <;> simp only[decide_eq_true_eq] at h <;> omega
theorem ahv:Q 150=some f150:=by kernel_rfl
def GN:Nat→Hint:=fun i=>if i=5 then ({ tm:=[0,2,5,9,10],ob:=[5],fin:=some ([2],[]) }:Hint) else { tm:=[],ob:=[] }
theorem GO:GN 5=({ tm:=[0,2,5,9,10],ob:=[5],fin:=some ([2],[]) }:Hint):=by simp[GN]
theorem Kz (o:Int) (g:Bool) (n:Nat) (hn:n≤64) (A:NP) (k:Nat):∀ (m i:Nat) (a:Int) (σ:St),i+m=n→
 σ.cA (GN 5)=⟨[(0,J o),(2,J a),(5,pb 5 133),(9,J n),(10,J i)],[(5,⟨.box 133,true,[.st 133 [J 8,.bool g]]⟩)]⟩→
 post (GN 5) (aG ty (a9 (env 49 1103840282415 D0 [(132,Cu)] [] A) GN k (sub (f150.body.getD .skip) [1,1,1,0,1,0,0])) (GN 5) (m+1) σ)=some (.exit 0,⟨[(2,J (fh (o==9) g m a))],[]⟩):=by
 simp only[f150,sub,Option.getD_some,GO];intro m
 induction m with
 | zero=>
   intro i a σ hi hσ;have h1:¬ ((i:Int) < ((n:Nat):Int)):=by omega
   rw[aG,hσ];simp only[go_sem,h1];simp[post,St.fin,aQ,aA,fh]
 | succ m ih=>
   intro i a σ hi hσ;have h1:(i:Int) < ((n:Nat):Int):=by omega
   have aR:i < n:=by omega
   have cY:(0:Int)≤(i:Int):=Int.natCast_nonneg i;have hw:IntKind.i64.wrap ((i:Int)+1)=((i+1:Nat):Int):=a_ (by omega);have alo:∀ v,Cu [.st 133 [J 8,.bool g],J v]=some (J v):=fun v=>dc 8 g v
   rw[fh];rw[aG,hσ];cases h9:(o==9) <;> cases g;all_goals
    rw[h9] at ih;simp only[yx,BL];simp only[go_sem,h1,cY,hw,alo,h9];exact ih (i+1) _ _ (by omega) (by simp only[go_sem])
theorem Z7 (o:Int) (g:Bool) (a b:Int) (A:NP):ak (env 49 1103840282415 D0 [(132,Cu)] [] A) (GN) (100) f150 [J o,.st 133 [J 8,.bool g],J a,J b]=some (J (fh (o==9) g (Fc b).toNat a)):=by
 obtain⟨r0,r1⟩:=SH b;obtain⟨n,hn⟩:=Int.eq_ofNat_of_zero_le r0;have hl:=Kz o g n (by omega) A 100 n 0;simp only[f150,sub,Option.getD_some,GO] at hl;have e64:IntKind.i64.wrap (b.tmod 64+64)=b.tmod 64+64:=wrap_i64 (by have:=Int.lt_tmod_of_pos b (show (0:Int) < 64 by omega);omega) (by have:=Int.tmod_lt_of_pos b (show (0:Int) < 64 by omega);omega);unfold Fc at hn;have hs:(Fc b).toNat=n:=by unfold Fc;rw[hn];simp
 rw[hs];cases h:decide (b.tmod 64 < 0);all_goals
  rw[h] at hn;simp only[BL] at hn;first | rw[hn] at h | rw[hn] at e64
  simp only[ak,ai,f150];simp only[go_sem,dc,GO,h,e64,hn,w64];rw[aY (hl a _ (by simp) (by simp only[go_sem])) (by omega)];simp only[go_sem,dc];try rfl
noncomputable def Z9:=bk (α:=Int × Bool × Int × Int) (fun _=>True) (fun (o,g,a,b)=>[J o,.st 133 [J 8,.bool g],J a,J b]) (fun (o,g,a,b)=>J (fh (o==9) g (Fc b).toNat a))
theorem sd (o:Int) (g:Bool) (a b:Int):Z9 [J o,.st 133 [J 8,.bool g],J a,J b]=some (J (fh (o==9) g (Fc b).toNat a)):=aJ (fun X Y hp bZ h'=>by
 obtain⟨o,g,a,b⟩:=X;obtain⟨o',g',a',b'⟩:=Y;simp only[cJ] at h';obtain⟨rfl,rfl,rfl,rfl⟩:=h';rfl) (o,g,a,b) trivial
theorem Z_:cI 150 Z9:=aE ahv rfl rfl fun (o,g,a,b) _=>rc ahv (fun A=>Z7 o g a b A) (fun _=>[]) rfl rfl rfl (by kernel_rfl) ⟨yw,trivial⟩ trivial
end Go.Proofs.Tryz
end
section
set_option maxHeartbeats 4000000
namespace Go.Proofs.Tryz
open Go Go.Abs
theorem dX (x:Int):IntKind.i64.wrap x=(x+9223372036854775808) % 18446744073709551616 - 9223372036854775808:=by
 have e:IntKind.i64.wrap x=if (IntKind.i64.signed&&decide (x % (2 ^ 64:Int) ≥ (2 ^ 63:Int)))=true then x % (2 ^ 64:Int) - (2 ^ 64:Int) else x % (2 ^ 64:Int):=rfl
 rw[e];have hs:IntKind.i64.signed=true:=rfl;simp only[hs,Bool.true_and,decide_eq_true_eq,ge_iff_le];split <;> omega
theorem eZ (x:Int):IntKind.u64.wrap x=x % 18446744073709551616:=by simp[IntKind.wrap,IntKind.bits,IntKind.signed]
theorem ofInt64 (b:Int):((BitVec.ofInt 64 b).toNat:Int)=b % 18446744073709551616:=by
 rw[BitVec.toNat_ofInt];have:(0:Int)≤b % ((2 ^ 64:Nat):Int):=Int.emod_nonneg _ (by decide);rw[Int.toNat_of_nonneg this];rfl
theorem yy (b:Int):bV .and .i64 b 63=b % 64:=by
 have e:bV .and .i64 b 63=IntKind.i64.wrap ((BitVec.ofInt 64 b &&& BitVec.ofInt 64 63).toNat:Int):=rfl;have h:(BitVec.ofInt 64 b &&& BitVec.ofInt 64 63).toNat=(BitVec.ofInt 64 b).toNat % 64:=by
  rw[BitVec.toNat_and];exact Nat.and_two_pow_sub_one_eq_mod _ 6
 have h2:=ofInt64 b;rw[e,h,wrap_i64 (by omega) (by omega)];omega
theorem SI (b:Int):bV .and .i64 b 1=b % 2:=by
 have e:bV .and .i64 b 1=IntKind.i64.wrap ((BitVec.ofInt 64 b &&& BitVec.ofInt 64 1).toNat:Int):=rfl;have h:(BitVec.ofInt 64 b &&& BitVec.ofInt 64 1).toNat=(BitVec.ofInt 64 b).toNat % 2:=by
  rw[BitVec.toNat_and];exact Nat.and_two_pow_sub_one_eq_mod _ 1
 have h2:=ofInt64 b;rw[e,h,wrap_i64 (by omega) (by omega)];omega
theorem GP (b:Int):Fc b=b % 64:=by
 have h:=Int.mul_tdiv_add_tmod b 64;have h1:=Int.tmod_lt_of_pos b (show (0:Int) < 64 by omega);have h2:-64 < b.tmod 64:=by have:=Int.lt_tmod_of_pos b (show (0:Int) < 64 by omega);omega
 unfold Fc;generalize b.tmod 64=t at *;generalize b.tdiv 64=d at *;split <;> rename_i h3 <;> simp only[decide_eq_true_eq] at h3 <;> omega
theorem Je (g:Bool):∀ (n:Nat) (a:Int),bM a→fh true g n a=IntKind.i64.wrap (a * 2 ^ n)
 | 0,a,h=>by rw[fh,wrap_i64 (by unfold bM at h;omega) (by unfold bM at h;omega)];omega
 | n+1,a,h=>by
   have hs:yx true g a=IntKind.i64.wrap (a+a):=rfl;have hr:bM (IntKind.i64.wrap (a+a)):=by rw[dX];unfold bM;omega
   rw[fh,hs,Je g n _ hr,dX (a+a),dX,dX,Int.pow_succ];generalize (2:Int) ^ n=p;have e:a * (p * 2)=(a+a) * p:=by rw[Int.mul_comm p 2,← Int.mul_assoc];congr 1;omega
   rw[e];obtain⟨k,hk⟩:∃ k,(a+a+9223372036854775808) % 18446744073709551616 - 9223372036854775808=(a+a)+18446744073709551616 * k:=⟨-((a+a+9223372036854775808) / 18446744073709551616),by omega⟩
   rw[hk,Int.add_mul,Int.mul_assoc,Int.add_right_comm,Int.add_mul_emod_self_left]
theorem Pc (n:Nat):∀ a:Int,bM a→fh false true n a=a / 2 ^ n:=by
 induction n with
 | zero=>intro a h;rw[fh];simp
 | succ n ih=>
   intro a h;have hs:yx false true a=a / 2:=by
    show IntKind.i64.wrap ((IntKind.i64.wrap (a - bV .and .i64 a 1)).tdiv 2)=_;unfold bM at h;rw[SI,wrap_i64 (x:=a - a % 2) (by omega) (by omega)];obtain⟨k,hk⟩:∃ k,a - a % 2=k * 2:=⟨a / 2,by omega⟩
    rw[hk,Int.mul_tdiv_cancel _ (by decide),wrap_i64 (by omega) (by omega)];omega
   rw[fh,hs,ih _ (by unfold bM at *;omega),Int.pow_succ,Int.mul_comm,Int.ediv_ediv_of_nonneg (by decide)]
theorem KA (n:Nat):∀ a:Int,bM a→fh false false n a=IntKind.i64.wrap (IntKind.u64.wrap a / 2 ^ n):=by
 induction n with
 | zero=>intro a h;rw[fh,dX,eZ];unfold bM at h;simp;omega
 | succ n ih=>
   intro a h;have hs:yx false false a=IntKind.i64.wrap (IntKind.u64.wrap a / 2):=by
    show IntKind.i64.wrap (IntKind.u64.wrap ((IntKind.u64.wrap a).tdiv 2))=_;have h0:0≤IntKind.u64.wrap a:=by rw[eZ];omega
    rw[Int.tdiv_eq_ediv_of_nonneg h0,eZ (IntKind.u64.wrap a / 2),eZ a];congr 1;omega
   rw[fh,hs,ih _ (by rw[dX];unfold bM;omega)];have e:IntKind.u64.wrap (IntKind.i64.wrap (IntKind.u64.wrap a / 2))=IntKind.u64.wrap a / 2:=by
    rw[eZ,dX,eZ];omega
   rw[e,Int.pow_succ,Int.mul_comm,Int.ediv_ediv_of_nonneg (by decide)]
end Go.Proofs.Tryz
end
section
set_option maxHeartbeats 4000000
set_option maxRecDepth 20000
namespace Go.Proofs.Tryz
open Go Go.Abs
def oy (b:Bool):AV:= .st 181 [.st 133 [J 4,.bool true],J (if b=true then 1 else 0),J 0]
theorem ahw:Q 156=some f156:=by kernel_rfl
theorem aaa  (A:NP):ak (env 3 1 D0 [] [] A) hN (5) f156 []=some (.st 133 [J 4,.bool true]):=by
 simp only[ak,ai,f156];simp only[go_sem,iP];try rfl
noncomputable def aab:=bk (α:=Unit) (fun _=>True) (fun _=>[]) (fun _=> .st 133 [J 4,.bool true])
theorem SJ :aab []=some (.st 133 [J 4,.bool true]):=aJ (fun _ _ _ _ _=>rfl) () trivial
theorem aac:cI 156 aab:=aE ahw rfl rfl fun _ _=>rc ahw (fun A=>aaa  A) (fun _=>[]) rfl rfl rfl (by kernel_rfl) trivial trivial
theorem ahx:Q 148=some f148:=by kernel_rfl
theorem aad (b:Bool) (A:NP):ak (env 8 13 D0 [(156,aab)] [] A) hN (5) f148 [.bool b]=some (oy b):=by
 cases b;all_goals
  simp only[oy,BL];simp only[ak,ai,f148];simp only[go_sem,SJ];try rfl
noncomputable def aae:=bk (α:=Bool) (fun _=>True) (fun b=>[.bool b]) (fun b=>oy b)
theorem se (b:Bool):aae [.bool b]=some (oy b):=aJ (fun b b' hp bZ h'=>by
 simp only[cJ] at h';obtain rfl:=h';rfl) (b) trivial
theorem aaf:cI 148 aae:=aE ahx rfl rfl fun b _=>rc ahx (fun A=>aad b A) (fun _=>[]) rfl rfl rfl (by kernel_rfl) ⟨aac,trivial⟩ trivial
theorem ahy:Q 147=some f147:=by kernel_rfl
theorem aag (g:Bool) (A:NP):ak (env 8 39 D0 [] [] A) hN (5) f147 [.st 133 [J 8,.bool g]]=some (.st 133 [J 8,.bool g]):=by
 simp only[ak,ai,f147];simp only[go_sem];try rfl
noncomputable def Pd:=bk (α:=Bool) (fun _=>True) (fun g=>[.st 133 [J 8,.bool g]]) (fun g=> .st 133 [J 8,.bool g])
theorem ns (g:Bool):Pd [.st 133 [J 8,.bool g]]=some (.st 133 [J 8,.bool g]):=aJ (fun g g' hp bZ h'=>by
 simp only[cJ] at h';obtain rfl:=h';rfl) (g) trivial
theorem GQ:cI 147 Pd:=aE ahy rfl rfl fun g _=>rc ahy (fun A=>aag g A) (fun _=>[]) rfl rfl rfl (by kernel_rfl) trivial trivial
theorem ahz:Q 157=some f157:=by kernel_rfl
def aah:Nat→Hint:=fun i=>if i=2 then ({ tm:=[1,3],ob:=[1],fin:=some ([1,2,3],[1]) }:Hint) else { tm:=[],ob:=[] }
theorem aai:aah 2=({ tm:=[1,3],ob:=[1],fin:=some ([1,2,3],[1]) }:Hint):=by simp[aah]
theorem aaj (g:Bool) (A:NP):ak (env 14 4143 D0 [] [] A) (aah) (9) f157 [.st 133 [J 8,.bool g]]=some (J (if g=true then 2 else 3)):=by
 have w1:IntKind.i64.wrap 1=1:=rfl;have w2:IntKind.i64.wrap 2=2:=rfl;have w3:IntKind.i64.wrap 3=3:=rfl;cases g;all_goals
  simp only[BL];simp only[ak,ai,f157];simp only[go_sem,aai,kd,iP,aG,post,St.fin,w1,w2,w3];try rfl
noncomputable def aak:=bk (α:=Bool) (fun _=>True) (fun g=>[.st 133 [J 8,.bool g]]) (fun g=>J (if g=true then 2 else 3))
theorem SK (g:Bool):aak [.st 133 [J 8,.bool g]]=some (J (if g=true then 2 else 3)):=aJ (fun g g' hp bZ h'=>by
 simp only[cJ] at h';obtain rfl:=h';rfl) (g) trivial
theorem aal:cI 157 aak:=aE ahz rfl rfl fun g _=>rc ahz (fun A=>aaj g A) (fun i=>match i with | 4=>[0,1,3,0,15] | _=>[]) rfl rfl rfl (by kernel_rfl) trivial trivial
theorem ahA:Q 151=some f151:=by kernel_rfl
theorem aam (g:Bool) (A:NP):ak (env 14 31 D0 [(147,Pd),(157,aak)] [] A) hN (5) f151 [.st 133 [J 8,.bool g],.st 133 [J 8,.bool g]]=some (.st 133 [J 8,.bool g]):=by
 have ahB:=SK g;cases g;all_goals
  simp only[BL] at ahB;simp only[ak,ai,f151];simp only[go_sem,ns,iP,ahB];try rfl
noncomputable def aan:=bk (α:=Bool) (fun _=>True) (fun g=>[.st 133 [J 8,.bool g],.st 133 [J 8,.bool g]]) (fun g=> .st 133 [J 8,.bool g])
theorem sf (g:Bool):aan [.st 133 [J 8,.bool g],.st 133 [J 8,.bool g]]=some (.st 133 [J 8,.bool g]):=aJ (fun g g' hp bZ h'=>by
 simp only[cJ] at h';obtain⟨rfl,_⟩:=h';rfl) (g) trivial
theorem aao:cI 151 aan:=aE ahA rfl rfl fun g _=>rc ahA (fun A=>aam g A) (fun i=>match i with | 1=>[0,1,3,0,15,31,63,127,255,511] | _=>[]) rfl rfl rfl (by kernel_rfl) ⟨GQ,aal,trivial⟩ trivial
theorem ahC:Q 131=some f131:=by kernel_rfl
theorem aap (o:Int) (g:Bool) (v:Int) (hp:o=1∨o=2) (A:NP):ak (env 44 275417928151 D0 [(146,SE),(147,Pd),(132,Cu)] [] A) hN (5) f131 [J o,.st 133 [J 8,.bool g],J v]=some (.st 181 [.st 133 [J 8,.bool g],J (if (o==1)=true then IntKind.i64.wrap (-v) else IntKind.i64.wrap (IntKind.i64.wrap (-v) - 1)),J 0]):=by
 rcases hp with rfl|rfl
 all_goals
  simp only[Int.reduceBEq,BL];simp only[ak,ai,f131];simp only[go_sem,Ja,ns,dc,qh];try rfl
noncomputable def aaq:=bk (α:=Int × Bool × Int) (fun (o,g,v)=>o=1∨o=2) (fun (o,g,v)=>[J o,.st 133 [J 8,.bool g],J v]) (fun (o,g,v)=> .st 181 [.st 133 [J 8,.bool g],J (if (o==1)=true then IntKind.i64.wrap (-v) else IntKind.i64.wrap (IntKind.i64.wrap (-v) - 1)),J 0])
theorem Jf (o:Int) (g:Bool) (v:Int) (hp:o=1∨o=2):aaq [J o,.st 133 [J 8,.bool g],J v]=some (.st 181 [.st 133 [J 8,.bool g],J (if (o==1)=true then IntKind.i64.wrap (-v) else IntKind.i64.wrap (IntKind.i64.wrap (-v) - 1)),J 0]):=aJ (fun X Y hp bZ h'=>by
 obtain⟨o,g,v⟩:=X;obtain⟨o',g',v'⟩:=Y;simp only[cJ] at h';obtain⟨rfl,rfl,rfl⟩:=h';rfl) (o,g,v) hp
theorem aar:cI 131 aaq:=aE ahC rfl rfl fun (o,g,v) hp=>rc ahC (fun A=>aap o g v hp A) (fun i=>match i with | 8=>[0,0,0,4,14,31,63] | 10=>[0,0,0,4,12,30,63,127] | _=>[]) rfl rfl rfl (by kernel_rfl) ⟨Pb,GQ,yw,trivial⟩ trivial
def yz (o:Int) (g:Bool) (a b:Int):Int × Bool:=if (o==9)=true then (8,g) else if (o==10)=true then (8,g) else if (o==11)=true then (4,true) else if (o==15)=true then (4,true) else if ((ox g o a b).2==0)=true then (8,g) else (0,false)
def nE (o:Int) (g:Bool) (a b:Int):Int × Int:=if (o==9)=true then (fh true g (Fc b).toNat a,0) else if (o==10)=true then (fh false g (Fc b).toNat a,0) else if (o==11)=true then (if (decide (gP g a b < 0))=true then 1 else 0,0) else if (o==15)=true then (if (gP g a b==0)=true then 1 else 0,0)
 else if ((ox g o a b).2==0)=true then ((ox g o a b).1,0) else (0,(ox g o a b).2)
def uX (o:Int):Prop:=(1≤o∧o≤8)∨o=9∨o=10∨o=11∨o=15
def fM (o:Int):Int × Bool:=if (o==4)=true then (1,true) else if (o==5)=true then (2,true) else if (o==6)=true then (3,true) else if (o==7)=true then (4,true) else if (o==8)=true then (4,false) else if (o==9)=true then (5,true) else if (o==10)=true then (5,false) else if (o==11)=true then (6,true) else if (o==12)=true then (7,true) else if (o==13)=true then (8,true) else if (o==14)=true then (9,true) else if (o==15)=true then (10,false) else if (o==16)=true then (10,true) else if (o==20)=true then (11,true) else if (o==21)=true then (11,false) else if (o==22)=true then (15,true) else (0,true)
theorem SL {c:Prop} [Decidable c] {x y:Int × Bool} (h:uX x.1) (h2:y=(0,true)∨uX y.1):(if c then x else y)=(0,true)∨uX (if c then x else y).1:=by split <;> first | exact .inr h | exact h2
theorem aas (o:Int):fM o=(0,true)∨uX (fM o).1:=by
 unfold fM;iterate 16 refine SL (by unfold uX;decide) ?_
 exact .inl rfl
theorem ahD:Q 133=some f133:=by kernel_rfl
theorem aat (o:Int) (g:Bool) (a b:Int) (hp:bM b∧uX o) (A:NP):ak (env 99 638936803098190566329449823 D0 [(149,ZU),(132,Cu),(147,Pd),(150,Z9),(151,aan),(152,ZX),(148,aae),(153,Z5)] [] A) hN (5) f133 [J o,.st 133 [J 8,.bool g],J a,.st 133 [J 8,.bool g],J b]=some (.st 181 [.st 133 [J (yz o g a b).1,.bool (yz o g a b).2],J (nE o g a b).1,J (nE o g a b).2]):=by
 obtain⟨hr,h | h | h | h | h⟩:=hp
 ·obtain⟨l1,l2⟩:=h;have d1:¬ (o < 1):=by omega
  have d2:¬ (16 < o):=by omega
  have n9:(o==9)=false:=by simp;omega
  have n10:(o==10)=false:=by simp;omega
  have n11:(o==11)=false:=by simp;omega
  have n12:(o==12)=false:=by simp;omega
  have n13:(o==13)=false:=by simp;omega
  have n14:(o==14)=false:=by simp;omega
  have n15:(o==15)=false:=by simp;omega
  have n16:(o==16)=false:=by simp;omega
  have aau:=SG o g a b hr;simp only[mJ] at aau;simp only[yz,nE,n9,n10,n11,n15,BL];cases hz:((ox g o a b).2==0)
  all_goals
   simp only[hz,BL] at aau ⊢;simp only[ak,ai,f133];simp only[go_sem,r_,dc,ns,sd,sf,sc,se,qh,d1,d2,aau,n9,n10,n11,n12,n13,n14,n15,n16];try rfl
 ·subst h;simp only[yz,nE,Int.reduceBEq,BL];simp only[ak,ai,f133];simp only[go_sem,r_,dc,ns,sd,sf,sc,se,qh,oy,beq_self_eq_true];try rfl
 ·subst h;simp only[yz,nE,Int.reduceBEq,BL];simp only[ak,ai,f133];simp only[go_sem,r_,dc,ns,sd,sf,sc,se,qh,oy,beq_self_eq_true];try rfl
 ·subst h;simp only[yz,nE,Int.reduceBEq,BL];simp only[ak,ai,f133];simp only[go_sem,r_,dc,ns,sd,sf,sc,se,qh,oy,beq_self_eq_true];try rfl
 ·subst h;simp only[yz,nE,Int.reduceBEq,BL];simp only[ak,ai,f133];simp only[go_sem,r_,dc,ns,sd,sf,sc,se,qh,oy,beq_self_eq_true];try rfl
noncomputable def aav:=bk (α:=Int × Bool × Int × Int) (fun (o,g,a,b)=>bM b∧uX o) (fun (o,g,a,b)=>[J o,.st 133 [J 8,.bool g],J a,.st 133 [J 8,.bool g],J b]) (fun (o,g,a,b)=> .st 181 [.st 133 [J (yz o g a b).1,.bool (yz o g a b).2],J (nE o g a b).1,J (nE o g a b).2])
theorem SM (o:Int) (g:Bool) (a b:Int) (hp:bM b∧uX o):aav [J o,.st 133 [J 8,.bool g],J a,.st 133 [J 8,.bool g],J b]=some (.st 181 [.st 133 [J (yz o g a b).1,.bool (yz o g a b).2],J (nE o g a b).1,J (nE o g a b).2]):=aJ (fun X Y hp bZ h'=>by
 obtain⟨o,g,a,b⟩:=X;obtain⟨o',g',a',b'⟩:=Y;simp only[cJ] at h';obtain⟨rfl,rfl,rfl,_,rfl⟩:=h';rfl) (o,g,a,b) hp
theorem aaw:cI 133 aav:=aE ahD rfl rfl fun (o,g,a,b) hp=>rc ahD (fun A=>aat o g a b hp A) (fun i=>match i with | 10=>[0,0,0,0,0,30,63,127] | _=>[]) rfl rfl rfl (by kernel_rfl) ⟨ZV,yw,GQ,Z_,aao,ZY,aaf,Z6,trivial⟩ trivial
theorem ahE:Q 130=some f130:=by kernel_rfl
theorem aax (o:Int) (A:NP):ak (env 56 5146951982121789 D0 [] [] A) hN (5) f130 [J o]=some (.cE [J (fM o).1,.st 133 [J 8,.bool (fM o).2]]):=by
 have w1:∀ n:Int,0≤n→n≤100→IntKind.i64.wrap n=n:=fun n h1 h2=>wrap_i64 (by omega) (by omega)
 have w2:True:=trivial;cases h4:(o==4)
 ·cases h5:(o==5)
  ·cases h6:(o==6)
   ·cases h7:(o==7)
    ·cases h8:(o==8)
     ·cases h9:(o==9)
      ·cases dR:(o==10)
       ·cases cT:(o==11)
        ·cases mX:(o==12)
         ·cases ij:(o==13)
          ·cases mf:(o==14)
           ·cases nj:(o==15)
            ·cases mg:(o==16)
             ·cases nH:(o==20)
              ·cases rU:(o==21)
               ·cases vo:(o==22)
                ·have e:fM o=(0,true):=by unfold fM;simp only[h4,h5,h6,h7,h8,h9,dR,cT,mX,ij,mf,nj,mg,nH,rU,vo,BL]
                 rw[e];simp only[ak,ai,f130];simp only[go_sem,h4,h5,h6,h7,h8,h9,dR,cT,mX,ij,mf,nj,mg,nH,rU,vo];try rfl
                ·have e:o=22:=by simpa using vo
                 subst e;rw[show fM 22=(15,true) from rfl];simp only[ak,ai,f130];simp only[go_sem];try rfl
               ·have e:o=21:=by simpa using rU
                subst e;rw[show fM 21=(11,false) from rfl];simp only[ak,ai,f130];simp only[go_sem];try rfl
              ·have e:o=20:=by simpa using nH
               subst e;rw[show fM 20=(11,true) from rfl];simp only[ak,ai,f130];simp only[go_sem];try rfl
             ·have e:o=16:=by simpa using mg
              subst e;rw[show fM 16=(10,true) from rfl];simp only[ak,ai,f130];simp only[go_sem];try rfl
            ·have e:o=15:=by simpa using nj
             subst e;rw[show fM 15=(10,false) from rfl];simp only[ak,ai,f130];simp only[go_sem];try rfl
           ·have e:o=14:=by simpa using mf
            subst e;rw[show fM 14=(9,true) from rfl];simp only[ak,ai,f130];simp only[go_sem];try rfl
          ·have e:o=13:=by simpa using ij
           subst e;rw[show fM 13=(8,true) from rfl];simp only[ak,ai,f130];simp only[go_sem,w1,w2];try rfl
         ·have e:o=12:=by simpa using mX
          subst e;rw[show fM 12=(7,true) from rfl];simp only[ak,ai,f130];simp only[go_sem,w1,w2];try rfl
        ·have e:o=11:=by simpa using cT
         subst e;rw[show fM 11=(6,true) from rfl];simp only[ak,ai,f130];simp only[go_sem,w1,w2];try rfl
       ·have e:o=10:=by simpa using dR
        subst e;rw[show fM 10=(5,false) from rfl];simp only[ak,ai,f130];simp only[go_sem];try rfl
      ·have e:o=9:=by simpa using h9
       subst e;rw[show fM 9=(5,true) from rfl];simp only[ak,ai,f130];simp only[go_sem];try rfl
     ·have e:o=8:=by simpa using h8
      subst e;rw[show fM 8=(4,false) from rfl];simp only[ak,ai,f130];simp only[go_sem];try rfl
    ·have e:o=7:=by simpa using h7
     subst e;rw[show fM 7=(4,true) from rfl];simp only[ak,ai,f130];simp only[go_sem];try rfl
   ·have e:o=6:=by simpa using h6
    subst e;rw[show fM 6=(3,true) from rfl];simp only[ak,ai,f130];simp only[go_sem,w1,w2];try rfl
  ·have e:o=5:=by simpa using h5
   subst e;rw[show fM 5=(2,true) from rfl];simp only[ak,ai,f130];simp only[go_sem,w1,w2];try rfl
 ·have e:o=4:=by simpa using h4
  subst e;rw[show fM 4=(1,true) from rfl];simp only[ak,ai,f130];simp only[go_sem,w1,w2];try rfl
noncomputable def SO:=bk (α:=Int) (fun _=>True) (fun o=>[J o]) (fun o=> .cE [J (fM o).1,.st 133 [J 8,.bool (fM o).2]])
theorem kO (o:Int):SO [J o]=some (.cE [J (fM o).1,.st 133 [J 8,.bool (fM o).2]]):=aJ (fun o o' hp bZ h'=>by
 simp only[cJ] at h';obtain rfl:=h';rfl) (o) trivial
theorem Pe:cI 130 SO:=aE ahE rfl rfl fun o _=>rc ahE (fun A=>aax o A) (fun i=>match i with | 7=>[0,1,3,0,7,31] | 9=>[0,0,3] | 11=>[0,0,3] | 13=>[0,0,3] | 15=>[0,0,3] | 19=>[0,1,3,0,7,31] | 21=>[0,0,3] | 23=>[0,0,3] | 25=>[0,0,3] | 27=>[0,0,3] | 29=>[0,0,3] | 31=>[0,0,3] | 32=>[0,0,3] | _=>[]) rfl rfl rfl (by kernel_rfl) trivial trivial
def iG (o:Int):Bool:=((decide (0 < (fM o).1) || o==17) || o==18) || o==19
theorem ahF:Q 101=some f101:=by kernel_rfl
theorem aay (o:Int) (A:NP):ak (env 24 13 D0 [(130,SO)] [] A) hN (5) f101 [J o]=some (.bool (iG o)):=by
 have Cv:=kO o;unfold iG;generalize (fM o).1=n at *;generalize (fM o).2=g at *;cases h1:decide (0 < n)
 ·cases im:(o==17)
  ·cases kA:(o==18)
   ·cases bU:(o==19)
    ·simp only[h1,im,kA,bU,BL];simp only[ak,ai,f101];simp only[go_sem,Cv,h1,im,kA,bU];try rfl
    ·simp only[h1,im,kA,bU,BL];simp only[ak,ai,f101];simp only[go_sem,Cv,h1,im,kA,bU];try rfl
   ·simp only[h1,im,kA,BL];simp only[ak,ai,f101];simp only[go_sem,Cv,h1,im,kA];try rfl
  ·simp only[h1,im,BL];simp only[ak,ai,f101];simp only[go_sem,Cv,h1,im];try rfl
 ·simp only[h1,BL];simp only[ak,ai,f101];simp only[go_sem,Cv,h1];try rfl
noncomputable def Cw:=bk (α:=Int) (fun _=>True) (fun o=>[J o]) (fun o=> .bool (iG o))
theorem Jg (o:Int):Cw [J o]=some (.bool (iG o)):=aJ (fun o o' hp bZ h'=>by
 simp only[cJ] at h';obtain rfl:=h';rfl) (o) trivial
theorem Pf:cI 101 Cw:=aE ahF rfl rfl fun o _=>rc ahF (fun A=>aay o A) (fun _=>[]) rfl rfl rfl (by kernel_rfl) ⟨Pe,trivial⟩ trivial
def kP (o a b:Int):Int × Int:=
 if (o==17)=true then (IntKind.i64.wrap (-a),0) else if (o==18)=true then (IntKind.i64.wrap (IntKind.i64.wrap (-a) - 1),0)
 else if (o==19)=true then (match cn b with | none=>(0,10) | some (s,g)=>(CJ s g a,0))
 else if ((fM o).1==0)=true then (0,11) else nE (fM o).1 (fM o).2 a b
theorem ahG:Q 102=some f102:=by kernel_rfl
theorem aaz (o a b:Int) (hp:bM b) (A:NP):ak (env 62 563087933497287 D0 [(131,aaq),(74,c74),(132,Cu),(130,SO),(133,aav)] [] A) hN (5) f102 [J o,J a,J b]=some (.st 152 [J (kP o a b).1,J (kP o a b).2]):=by
 cases im:(o==17)
 ·cases kA:(o==18)
  ·cases bU:(o==19)
   ·cases h0:((fM o).1==0)
    ·have Cv:=kO o;have alp:=SM (fM o).1 (fM o).2 a b ⟨hp,(aas o).resolve_left (fun h=>by rw[h] at h0;cases h0)⟩;simp only[kP,im,kA,bU,h0,BL];simp only[ak,ai,f102];simp only[go_sem,cG,dc,kO,im,kA,bU,h0,Cv,alp];try rfl
    ·have Cv:=kO o;simp only[kP,im,kA,bU,h0,BL];simp only[ak,ai,f102];simp only[go_sem,cG,dc,kO,im,kA,bU,h0,Cv];try rfl
   ·have sW:=cG b;cases hi:cn b with
    | none=>
      rw[hi] at sW;simp only[bc] at sW;simp only[kP,im,kA,bU,hi,BL];simp only[ak,ai,f102];simp only[go_sem,cG,dc,kO,im,kA,bU,sW];try rfl
    | some p=>
      obtain⟨s,g⟩:=p;rw[hi] at sW;simp only[bc] at sW;simp only[kP,im,kA,bU,hi,BL];simp only[ak,ai,f102];simp only[go_sem,cG,dc,kO,im,kA,bU,sW];try rfl
  ·have Pg:=Jf 2 true a (Or.inr rfl);simp only[Int.reduceBEq,BL] at Pg;simp only[kP,im,kA,BL];simp only[ak,ai,f102];simp only[go_sem,cG,dc,kO,im,kA,Pg];try rfl
 ·have Pg:=Jf 1 true a (Or.inl rfl);simp only[Int.reduceBEq,BL] at Pg;simp only[kP,im,BL];simp only[ak,ai,f102];simp only[go_sem,cG,dc,kO,im,Pg];try rfl
noncomputable def aaA:=bk (α:=Int × Int × Int) (fun (o,a,b)=>bM b) (fun (o,a,b)=>[J o,J a,J b]) (fun (o,a,b)=> .st 152 [J (kP o a b).1,J (kP o a b).2])
theorem Jh (o a b:Int) (hp:bM b):aaA [J o,J a,J b]=some (.st 152 [J (kP o a b).1,J (kP o a b).2]):=aJ (fun X Y hp bZ h'=>by
 obtain⟨o,a,b⟩:=X;obtain⟨o',a',b'⟩:=Y;simp only[cJ] at h';obtain⟨rfl,rfl,rfl⟩:=h';rfl) (o,a,b) hp
theorem aaB:cI 102 aaA:=aE ahG rfl rfl fun (o,a,b) hp=>rc ahG (fun A=>aaz o a b hp A) (fun _=>[]) rfl rfl rfl (by kernel_rfl) ⟨aar,UA,yw,Pe,aaw,trivial⟩ trivial
theorem not_eq (a:Int):bV .xor .i64 (-1) a=IntKind.i64.wrap (IntKind.i64.wrap (-a) - 1):=by
 have e:bV .xor .i64 (-1) a=IntKind.i64.wrap ((BitVec.ofInt 64 (-1) ^^^ BitVec.ofInt 64 a).toNat:Int):=rfl;have h1:BitVec.ofInt 64 (-1)=BitVec.allOnes 64:=by decide
 have h:(BitVec.ofInt 64 (-1) ^^^ BitVec.ofInt 64 a).toNat=2 ^ 64 - 1 - (BitVec.ofInt 64 a).toNat:=by
  rw[h1,BitVec.allOnes_xor,BitVec.toNat_not]
 have h2:=ofInt64 a;have h3:=(BitVec.ofInt 64 a).isLt;rw[e,h];generalize (BitVec.ofInt 64 a).toNat=t at *;simp only[dX];omega
theorem aaC {a b:Int} (ha:bM a) (hb:bM b):decide (gP false a b < 0)=decide (IntKind.u64.wrap a < IntKind.u64.wrap b):=by
 unfold bM at ha hb;rw[eZ,eZ];unfold gP;apply decide_eq_decide.2;by_cases h1:a < 0 <;> by_cases h2:b < 0 <;> by_cases h3:a < b <;> by_cases h4:b < a <;> simp[h1,h2,h3,h4] <;> omega
theorem lt_eq {a b:Int}:decide (gP true a b < 0)=decide (a < b):=by
 unfold gP;apply decide_eq_decide.2;by_cases h3:a < b <;> by_cases h4:b < a <;> simp[h3,h4]
theorem eq_eq {a b:Int}:(gP true a b==0)=(a==b):=by
 unfold gP;by_cases h3:a < b <;> by_cases h4:b < a <;> simp[h3,h4] <;> omega
theorem GR (b:Int):((min (b % 64).toNat 64:Nat))=(b % 64).toNat:=by omega
theorem aaD (g:Bool) (a:Int):(dx 1 g=true∧iz 1 g a=CJ 1 g a)∧(dx 2 g=true∧iz 2 g a=CJ 2 g a)∧(dx 4 g=true∧iz 4 g a=CJ 4 g a)∧dx 8 g=true∧iz 8 g a=if g=true then a else IntKind.i64.wrap (IntKind.u64.wrap a):=by
 cases g <;> simp[dx,iz,jk,findF,IL,CJ]
theorem KB (s:Int) (g:Bool) (a b:Int) (ha:bM a) (h:cn b=some (s,g)):dx s g=true∧iz s g a=CJ s g a:=by
 unfold cn at h;have h8:IntKind.i64.wrap (IntKind.u64.wrap a)=a:=by unfold bM at ha;rw[dX,eZ];omega
 obtain⟨k1,k2,k4,k8,k9⟩:=aaD g a;dsimp only at h;generalize decide (b < 0)=d at h;split at h
 ·obtain⟨rfl,rfl⟩:=Prod.mk.inj (Option.some.inj h);exact k1
 split at h
 ·obtain⟨rfl,rfl⟩:=Prod.mk.inj (Option.some.inj h);exact k2
 split at h
 ·obtain⟨rfl,rfl⟩:=Prod.mk.inj (Option.some.inj h);exact k4
 split at h
 ·obtain⟨rfl,rfl⟩:=Prod.mk.inj (Option.some.inj h);rw[h8,ite_self] at k9;exact⟨k8,k9⟩
 ·cases h
theorem Ph (o a b:Int) (ha:bM a) (hb:bM b):kP o a b=eo o a b:=by
 have s14:fh true true (Fc b).toNat a=yL .i64 a (bV .and .i64 b 63):=by
  rw[Je _ _ _ ha,GP,yy];unfold yL;rw[show IntKind.i64.bits=64 from rfl,GR]
 have s15:fh false false (Fc b).toNat a=IntKind.i64.wrap (su .u64 (IntKind.u64.wrap a) (bV .and .i64 b 63)):=by
  rw[KA _ _ ha,GP,yy];unfold su;rw[show IntKind.u64.bits=64 from rfl,GR,Int.fdiv_eq_ediv_of_nonneg _ (Int.pow_nonneg (by decide))]
 have s16:fh false true (Fc b).toNat a=su .i64 a (bV .and .i64 b 63):=by
  rw[Pc _ _ ha,GP,yy];unfold su;rw[show IntKind.i64.bits=64 from rfl,GR,Int.fdiv_eq_ediv_of_nonneg _ (Int.pow_nonneg (by decide))]
 by_cases h:4≤o∧o≤22
 ·have:o=4∨o=5∨o=6∨o=7∨o=8∨o=9∨o=10∨o=11∨o=12∨o=13∨o=14∨o=15∨o=16∨o=17∨o=18∨o=19∨o=20∨o=21∨o=22:=by omega
  have q1:=Jc true a b;have q2:=Jc false a b;have b0:∀ v:Int,(if (b==0)=true then ((0:Int),(12:Int)) else (v,0))=(if ((if (b==0)=true then ((0:Int),(12:Int)) else (v,0)).2==0)=true then ((if (b==0)=true then ((0:Int),(12:Int)) else (v,0)).1,0) else (0,(if (b==0)=true then ((0:Int),(12:Int)) else (v,0)).2)):=fun v=>by cases b==0 <;> rfl
  rcases this with rfl|rfl|rfl|rfl|rfl|rfl|rfl|rfl|rfl|rfl|rfl|rfl|rfl|rfl|rfl|rfl|rfl|rfl|rfl
  ·rfl
  ·rfl
  ·rfl
  ·refine Eq.trans (b0 (as7 true a b).1).symm ?_;rw[q1];rfl
  ·refine Eq.trans (b0 (as7 false a b).1).symm ?_;rw[q2];rfl
  ·refine Eq.trans (b0 (as7 true a b).2).symm ?_;rw[q1];rfl
  ·refine Eq.trans (b0 (as7 false a b).2).symm ?_;rw[q2];rfl
  ·rfl
  ·rfl
  ·rfl
  ·exact congrArg (·,(0:Int)) s14
  ·exact congrArg (·,(0:Int)) s15
  ·exact congrArg (·,(0:Int)) s16
  ·rfl
  ·exact congrArg (·,(0:Int)) (not_eq a).symm
  ·show (match cn b with | none=>((0:Int),(10:Int)) | some (s,g)=>(CJ s g a,0))=(match cn b with | none=>(0,10) | some (s,g)=>(if dx s g=true then iz s g a else 0,if dx s g=true then 0 else 10));cases hi:cn b with
   | none=>rfl
   | some p=>
     obtain⟨s,g⟩:=p;obtain⟨h1,h2⟩:=KB s g a b ha hi;simp only[h1,h2,if_true]
  ·show ((if decide (gP true a b < 0)=true then (1:Int) else 0),(0:Int))=_;rw[lt_eq];rfl
  ·show ((if decide (gP false a b < 0)=true then (1:Int) else 0),(0:Int))=_;rw[aaC ha hb];rfl
  ·show ((if (gP true a b==0)=true then (1:Int) else 0),(0:Int))=_;rw[eq_eq];rfl
 ·have hn:∀ k:Int,4≤k→k≤22→(o==k)=false:=fun k h1 h2=>by simp;omega
  have hz:fM o=(0,true):=by unfold fM;simp only[hn,Int.reduceLE,if_false,Bool.false_eq_true]
  unfold kP eo;simp only[hz,hn,Int.reduceLE,if_false,Bool.false_eq_true];rfl
theorem Pj (o:Int):iG o=(((decide (4≤o)&&decide (o≤16)) || [20,21,22].any fun x=>o==x) || o==17 || o==18 || o==19):=by
 by_cases h:4≤o∧o≤22
 ·have:o=4∨o=5∨o=6∨o=7∨o=8∨o=9∨o=10∨o=11∨o=12∨o=13∨o=14∨o=15∨o=16∨o=17∨o=18∨o=19∨o=20∨o=21∨o=22:=by omega
  rcases this with rfl|rfl|rfl|rfl|rfl|rfl|rfl|rfl|rfl|rfl|rfl|rfl|rfl|rfl|rfl|rfl|rfl|rfl|rfl <;> decide
 ·have hn:∀ k:Int,4≤k→k≤22→(o==k)=false:=fun k h1 h2=>by simp;omega
  have hz:fM o=(0,true):=by unfold fM;simp only[hn,Int.reduceLE,if_false,Bool.false_eq_true]
  have h1:(decide (4≤o)&&decide (o≤16))=false:=by simp;omega
  unfold iG;simp only[hz,h1,hn,Int.reduceLE,List.any_cons,List.any_nil,Bool.or_false];rfl
end Go.Proofs.Tryz
end
