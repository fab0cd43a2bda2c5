/- A part of a proof. -/
import Derived.Test.YtbdbjpdlcemeaaaGreatDoorRu10
set_option linter.unusedSimpArgs false
set_option linter.unusedVariables false
section
set_option maxHeartbeats 4000000
set_option maxRecDepth 20000
namespace Go.Proofs.Tryz
open Go Go.Abs
variable (N : List bp) (V : List Int) (I : List ByteArray) (U : List aP) (ao : List (List aB)) (aj : List Bool) (au : List Int)
def UB (l:List UInt8):Bool:=l.all fun b=> !(((b.toNat:Nat):Int)==0)
theorem Ey (b:UInt8) (l:List UInt8):UB (b::l)=(!(((b.toNat:Nat):Int)==0)&&UB l):=rfl
theorem J6 (l:List UInt8):(!(decide (0≤Lib.indexByte l 0)))=UB l:=by
 induction l with
 | nil=>rfl
 | cons b l ih=>
   have hg:=Lib.indexByte_ge l 0;rw[Ey,← ih];have e0:Lib.indexByte (b::l) 0=if (b==0)=true then 0 else if (Lib.indexByte l 0== -1)=true then -1 else Lib.indexByte l 0+1:=rfl
   rw[e0];have hb:(b==0)=(((b.toNat:Nat):Int)==0):=by
    rw[Bool.eq_iff_iff];simp only[beq_iff_eq];constructor
    ·intro h;subst h;rfl
    ·intro h;have:b.toNat=0:=by omega
     exact UInt8.toNat_inj.1 this
   rw[← hb];cases hc:(b==0)
   ·simp only[BL];by_cases h1:Lib.indexByte l 0 = -1
    ·simp[h1]
    ·have h2:(Lib.indexByte l 0== -1)=false:=by simpa using h1
     rw[h2];simp only[BL];congr 1
     exact decide_eq_decide.2 (by omega)
   ·simp
theorem Sb (s:ByteArray):jl s=(UB s.data.toList&&decide ((s.size:Int)≤64)):=by
 have e:(!(decide (0≤fT s 0)))=UB s.data.toList:=J6 _;unfold jl;rw[e];by_cases h:64 < (s.size:Int)
 ·have h2:¬ ((s.size:Int)≤64):=by omega
  simp[h,h2]
 ·have h2:(s.size:Int)≤64:=by omega
  simp only[h,h2,BL]
theorem h41:Q 41=some f41:=by kernel_rfl
theorem Zh (s:ByteArray) (dO:s.size≤9223372036854775807) (A:NP) (k:Nat):∀ (m i:Nat) (σ:St),i+m=s.size→
 σ.cA ({ tm:=[0,3],ob:=[],fin:=some ([0,2],[]) }:Hint)=⟨[(0,.str s),(3,J i)],[]⟩→
 post ({ tm:=[0,3],ob:=[],fin:=some ([0,2],[]) }:Hint) (aG ty (a9 (env 17 8333 D0 [] [] A) (fun _=>({ tm:=[0,3],ob:=[],fin:=some ([0,2],[]) }:Hint)) k (sub (f41.body.getD .skip) [1,0,1,0,0])) ({ tm:=[0,3],ob:=[],fin:=some ([0,2],[]) }:Hint) (m+1) σ) =
 some (if UB (s.data.toList.drop i)=true then (.exit 0,⟨[(0,.str s)],[]⟩) else (.ret,⟨[(0,.str s),(2,.bool false)],[]⟩)):=by
 simp only[f41,sub,Option.getD_some];have cS:s.size=s.data.toList.length:=by simp
 intro m
 induction m with
 | zero=>
   intro i σ hi hσ;have h1:¬ ((i:Int) < (s.size:Int)):=by omega
   rw[aG,hσ];simp only[go_sem,h1];rw[List.drop_of_length_le (by omega)];simp[post,St.fin,aQ,aA,UB]
 | succ m ih=>
   intro i σ hi hσ;have h1:(i:Int) < (s.size:Int):=by omega
   have aR:i < s.size:=by omega
   have cY:(0:Int)≤(i:Int):=Int.natCast_nonneg i;have aw:=Gs s i aR;have hw:IntKind.i64.wrap ((i:Int)+1)=((i+1:Nat):Int):=by rw[wrap_i64 (by omega) (by omega)];omega
   have hd:s.data.toList.drop i=s.data.toList[i]::s.data.toList.drop (i+1):=List.drop_eq_getElem_cons (by omega);rw[aG,hσ,hd];generalize s.data.toList[i]=y at *;rw[Ey];cases hz:(((y.toNat:Nat):Int)==0)
   all_goals
    simp only[go_sem,h1,cY,aw,hw,hz];try simp only[BL]
    first
    | (simp[post,St.fin,aQ,aA];done)
    | exact ih (i+1) _ (by omega) (by simp only[go_sem])
theorem afQ (s:ByteArray) (hp:s.size≤9223372036854775807) (A:NP):ak (env 17 8333 D0 [] [] A) (fun _=>({ tm:=[0,3],ob:=[],fin:=some ([0,2],[]) }:Hint)) (s.size+1) f41 [.str s]=some (.bool (jl s)):=by
 have hl:=Zh s hp A (s.size+1) s.size 0;simp only[f41,sub,Option.getD_some,List.drop_zero] at hl;rw[Sb];simp only[ak,ai,f41];simp only[go_sem];rw[hl _ (by simp) (by simp only[go_sem])];cases h:UB s.data.toList
 ·simp only[go_sem];try rfl
 ·cases h2:decide ((s.size:Int)≤64);all_goals
   simp only[go_sem,h2];try rfl
noncomputable def c41:=bk (α:=ByteArray) (fun s=>s.size≤9223372036854775807) (fun s=>[.str s]) (fun s=> .bool (jl s))
theorem Gw (s:ByteArray) (hp:s.size≤9223372036854775807):c41 [.str s]=some (.bool (jl s)):=aJ (fun s s' hp bZ h'=>by
 simp only[cJ] at h';obtain rfl:=h';rfl) (s) hp
theorem afR:cI 41 c41:=aE h41 rfl rfl fun s hp=>rc h41 (fun A=>afQ s hp A) (fun _=>[]) rfl rfl rfl (by kernel_rfl) trivial trivial
theorem Gx:∀ k:Fin 256,letterF (k.val:Nat)=(((decide (97≤((k.val:Nat):Int))&&decide (((k.val:Nat):Int)≤122)) || (decide (65≤((k.val:Nat):Int))&&decide (((k.val:Nat):Int)≤90))) || (((k.val:Nat):Int)==95))∧BZ (k.val:Nat) = !(decide (((k.val:Nat):Int) < 48) || decide (57 < ((k.val:Nat):Int))):=by decide +kernel
theorem afS (i:Nat) (y:UInt8):R8 i y.toNat=(!((((decide (97≤((y.toNat:Nat):Int))&&decide (((y.toNat:Nat):Int)≤122)) || (decide (65≤((y.toNat:Nat):Int))&&decide (((y.toNat:Nat):Int)≤90))) || (((y.toNat:Nat):Int)==95)))&&(decide (i=0) || (decide (((y.toNat:Nat):Int) < 48) || decide (57 < ((y.toNat:Nat):Int))))):=by
 have h:=Gx ⟨y.toNat,y.toNat_lt⟩;unfold R8;rw[h.1,h.2,Bool.not_not]
theorem h75:Q 75=some f75:=by kernel_rfl
theorem Zi (s:ByteArray) (dO:s.size≤9223372036854775807) (A:NP) (k:Nat):∀ (m i:Nat) (σ:St),i+m=s.size→
 σ.cA ({ tm:=[0,3],ob:=[],fin:=some ([0,2],[]) }:Hint)=⟨[(0,.str s),(3,J i)],[]⟩→
 post ({ tm:=[0,3],ob:=[],fin:=some ([0,2],[]) }:Hint) (aG ty (a9 (env 55 70368744178237 D0 [] [] A) (fun _=>({ tm:=[0,3],ob:=[],fin:=some ([0,2],[]) }:Hint)) k (sub (f75.body.getD .skip) [1,0,1,0,0])) ({ tm:=[0,3],ob:=[],fin:=some ([0,2],[]) }:Hint) (m+1) σ) =
 some (if cR (s.data.toList.drop i) i=true then (.exit 0,⟨[(0,.str s)],[]⟩) else (.ret,⟨[(0,.str s),(2,.bool false)],[]⟩)):=by
 simp only[f75,sub,Option.getD_some];have cS:s.size=s.data.toList.length:=by simp
 intro m
 induction m with
 | zero=>
   intro i σ hi hσ;have h1:¬ ((i:Int) < (s.size:Int)):=by omega
   rw[aG,hσ];simp only[go_sem,h1];rw[List.drop_of_length_le (by omega)];simp[post,St.fin,aQ,aA,cR]
 | succ m ih=>
   intro i σ hi hσ;have h1:(i:Int) < (s.size:Int):=by omega
   have aR:i < s.size:=by omega
   have cY:(0:Int)≤(i:Int):=Int.natCast_nonneg i;have aw:=Gs s i aR;have hw:IntKind.i64.wrap ((i:Int)+1)=((i+1:Nat):Int):=by rw[wrap_i64 (by omega) (by omega)];omega
   have hd:s.data.toList.drop i=s.data.toList[i]::s.data.toList.drop (i+1):=List.drop_eq_getElem_cons (by omega);rw[aG,hσ,hd];generalize s.data.toList[i]=y at *;have hb:=afS i y;have hz:(((i:Nat):Int)==0)=decide (i=0):=by
    by_cases e:i=0
    ·subst e;rfl
    ·simp[e]
   cases b1:decide (97≤((y.toNat:Nat):Int))
   ·cases b3:decide (65≤((y.toNat:Nat):Int))
    ·cases b5:(((y.toNat:Nat):Int)==95)
     ·cases b6:decide (i=0)
      ·cases b7:decide (((y.toNat:Nat):Int) < 48)
       ·cases b8:decide (57 < ((y.toNat:Nat):Int))
        ·simp only[b1,b3,b5,b6,b7,b8,BL] at hb;simp only[go_sem,h1,cY,aw,hw,hz,b1,b3,b5,b6,b7,b8];simp only[cR,hb,BL];first
         | (simp[post,St.fin,aQ,aA];done)
         | exact ih (i+1) _ (by omega) (by simp only[go_sem])
        ·simp only[b1,b3,b5,b6,b7,b8,BL] at hb;simp only[go_sem,h1,cY,aw,hw,hz,b1,b3,b5,b6,b7,b8];simp only[cR,hb,BL];first
         | (simp[post,St.fin,aQ,aA];done)
         | exact ih (i+1) _ (by omega) (by simp only[go_sem])
       ·simp only[b1,b3,b5,b6,b7,BL] at hb;simp only[go_sem,h1,cY,aw,hw,hz,b1,b3,b5,b6,b7];simp only[cR,hb,BL];first
        | (simp[post,St.fin,aQ,aA];done)
        | exact ih (i+1) _ (by omega) (by simp only[go_sem])
      ·simp only[b1,b3,b5,b6,BL] at hb;simp only[go_sem,h1,cY,aw,hw,hz,b1,b3,b5,b6];simp only[cR,hb,BL];first
       | (simp[post,St.fin,aQ,aA];done)
       | exact ih (i+1) _ (by omega) (by simp only[go_sem])
     ·simp only[b1,b3,b5,BL] at hb;simp only[go_sem,h1,cY,aw,hw,hz,b1,b3,b5];simp only[cR,hb,BL];first
      | (simp[post,St.fin,aQ,aA];done)
      | exact ih (i+1) _ (by omega) (by simp only[go_sem])
    ·cases b4:decide (((y.toNat:Nat):Int)≤90)
     ·cases b5:(((y.toNat:Nat):Int)==95)
      ·cases b6:decide (i=0)
       ·cases b7:decide (((y.toNat:Nat):Int) < 48)
        ·cases b8:decide (57 < ((y.toNat:Nat):Int))
         ·simp only[b1,b3,b4,b5,b6,b7,b8,BL] at hb;simp only[go_sem,h1,cY,aw,hw,hz,b1,b3,b4,b5,b6,b7,b8];simp only[cR,hb,BL];first
          | (simp[post,St.fin,aQ,aA];done)
          | exact ih (i+1) _ (by omega) (by simp only[go_sem])
         ·simp only[b1,b3,b4,b5,b6,b7,b8,BL] at hb;simp only[go_sem,h1,cY,aw,hw,hz,b1,b3,b4,b5,b6,b7,b8];simp only[cR,hb,BL];first
          | (simp[post,St.fin,aQ,aA];done)
          | exact ih (i+1) _ (by omega) (by simp only[go_sem])
        ·simp only[b1,b3,b4,b5,b6,b7,BL] at hb;simp only[go_sem,h1,cY,aw,hw,hz,b1,b3,b4,b5,b6,b7];simp only[cR,hb,BL];first
         | (simp[post,St.fin,aQ,aA];done)
         | exact ih (i+1) _ (by omega) (by simp only[go_sem])
       ·simp only[b1,b3,b4,b5,b6,BL] at hb;simp only[go_sem,h1,cY,aw,hw,hz,b1,b3,b4,b5,b6];simp only[cR,hb,BL];first
        | (simp[post,St.fin,aQ,aA];done)
        | exact ih (i+1) _ (by omega) (by simp only[go_sem])
      ·simp only[b1,b3,b4,b5,BL] at hb;simp only[go_sem,h1,cY,aw,hw,hz,b1,b3,b4,b5];simp only[cR,hb,BL];first
       | (simp[post,St.fin,aQ,aA];done)
       | exact ih (i+1) _ (by omega) (by simp only[go_sem])
     ·simp only[b1,b3,b4,BL] at hb;simp only[go_sem,h1,cY,aw,hw,hz,b1,b3,b4];simp only[cR,hb,BL];first
      | (simp[post,St.fin,aQ,aA];done)
      | exact ih (i+1) _ (by omega) (by simp only[go_sem])
   ·cases b2:decide (((y.toNat:Nat):Int)≤122)
    ·cases b3:decide (65≤((y.toNat:Nat):Int))
     ·cases b5:(((y.toNat:Nat):Int)==95)
      ·cases b6:decide (i=0)
       ·cases b7:decide (((y.toNat:Nat):Int) < 48)
        ·cases b8:decide (57 < ((y.toNat:Nat):Int))
         ·simp only[b1,b2,b3,b5,b6,b7,b8,BL] at hb;simp only[go_sem,h1,cY,aw,hw,hz,b1,b2,b3,b5,b6,b7,b8];simp only[cR,hb,BL];first
          | (simp[post,St.fin,aQ,aA];done)
          | exact ih (i+1) _ (by omega) (by simp only[go_sem])
         ·simp only[b1,b2,b3,b5,b6,b7,b8,BL] at hb;simp only[go_sem,h1,cY,aw,hw,hz,b1,b2,b3,b5,b6,b7,b8];simp only[cR,hb,BL];first
          | (simp[post,St.fin,aQ,aA];done)
          | exact ih (i+1) _ (by omega) (by simp only[go_sem])
        ·simp only[b1,b2,b3,b5,b6,b7,BL] at hb;simp only[go_sem,h1,cY,aw,hw,hz,b1,b2,b3,b5,b6,b7];simp only[cR,hb,BL];first
         | (simp[post,St.fin,aQ,aA];done)
         | exact ih (i+1) _ (by omega) (by simp only[go_sem])
       ·simp only[b1,b2,b3,b5,b6,BL] at hb;simp only[go_sem,h1,cY,aw,hw,hz,b1,b2,b3,b5,b6];simp only[cR,hb,BL];first
        | (simp[post,St.fin,aQ,aA];done)
        | exact ih (i+1) _ (by omega) (by simp only[go_sem])
      ·simp only[b1,b2,b3,b5,BL] at hb;simp only[go_sem,h1,cY,aw,hw,hz,b1,b2,b3,b5];simp only[cR,hb,BL];first
       | (simp[post,St.fin,aQ,aA];done)
       | exact ih (i+1) _ (by omega) (by simp only[go_sem])
     ·cases b4:decide (((y.toNat:Nat):Int)≤90)
      ·cases b5:(((y.toNat:Nat):Int)==95)
       ·cases b6:decide (i=0)
        ·cases b7:decide (((y.toNat:Nat):Int) < 48)
         ·cases b8:decide (57 < ((y.toNat:Nat):Int))
          ·simp only[b1,b2,b3,b4,b5,b6,b7,b8,BL] at hb;simp only[go_sem,h1,cY,aw,hw,hz,b1,b2,b3,b4,b5,b6,b7,b8];simp only[cR,hb,BL];first
           | (simp[post,St.fin,aQ,aA];done)
           | exact ih (i+1) _ (by omega) (by simp only[go_sem])
          ·simp only[b1,b2,b3,b4,b5,b6,b7,b8,BL] at hb;simp only[go_sem,h1,cY,aw,hw,hz,b1,b2,b3,b4,b5,b6,b7,b8];simp only[cR,hb,BL];first
           | (simp[post,St.fin,aQ,aA];done)
           | exact ih (i+1) _ (by omega) (by simp only[go_sem])
         ·simp only[b1,b2,b3,b4,b5,b6,b7,BL] at hb;simp only[go_sem,h1,cY,aw,hw,hz,b1,b2,b3,b4,b5,b6,b7];simp only[cR,hb,BL];first
          | (simp[post,St.fin,aQ,aA];done)
          | exact ih (i+1) _ (by omega) (by simp only[go_sem])
        ·simp only[b1,b2,b3,b4,b5,b6,BL] at hb;simp only[go_sem,h1,cY,aw,hw,hz,b1,b2,b3,b4,b5,b6];simp only[cR,hb,BL];first
         | (simp[post,St.fin,aQ,aA];done)
         | exact ih (i+1) _ (by omega) (by simp only[go_sem])
       ·simp only[b1,b2,b3,b4,b5,BL] at hb;simp only[go_sem,h1,cY,aw,hw,hz,b1,b2,b3,b4,b5];simp only[cR,hb,BL];first
        | (simp[post,St.fin,aQ,aA];done)
        | exact ih (i+1) _ (by omega) (by simp only[go_sem])
      ·simp only[b1,b2,b3,b4,BL] at hb;simp only[go_sem,h1,cY,aw,hw,hz,b1,b2,b3,b4];simp only[cR,hb,BL];first
       | (simp[post,St.fin,aQ,aA];done)
       | exact ih (i+1) _ (by omega) (by simp only[go_sem])
    ·simp only[b1,b2,BL] at hb;simp only[go_sem,h1,cY,aw,hw,hz,b1,b2];simp only[cR,hb,BL];first
     | (simp[post,St.fin,aQ,aA];done)
     | exact ih (i+1) _ (by omega) (by simp only[go_sem])
theorem afT (s:ByteArray) (hp:s.size≤9223372036854775807) (A:NP):ak (env 55 70368744178237 D0 [] [] A) (fun _=>({ tm:=[0,3],ob:=[],fin:=some ([0,2],[]) }:Hint)) (s.size+1) f75 [.str s]=some (.bool (jy s)):=by
 have hl:=Zi s hp A (s.size+1) s.size 0;simp only[f75,sub,Option.getD_some,List.drop_zero] at hl;have hq:decide ((s.size:Int)≤31)=decide (s.size≤31):=by by_cases e:s.size≤31 <;> simp[e] <;> omega
 have jB:decide (0 < (s.size:Int)) = !(s.toList==(⟨#[]⟩:ByteArray).toList):=by
  rw[ByteArray.toList_eq,ByteArray.toList_eq];have cS:s.size=s.data.toList.length:=by simp
  rw[cS];cases s.data.toList <;> simp
 simp only[jy,← jB,← hq];simp only[ak,ai,f75];simp only[go_sem];rw[hl _ (by simp) (by simp only[go_sem])];cases h:cR s.data.toList 0
 ·simp only[go_sem];try rfl
 ·cases h2:decide (0 < (s.size:Int)) <;> cases h3:decide ((s.size:Int)≤31);all_goals
   simp only[go_sem,h2,h3];try rfl
noncomputable def c75:=bk (α:=ByteArray) (fun s=>s.size≤9223372036854775807) (fun s=>[.str s]) (fun s=> .bool (jy s))
theorem Oo (s:ByteArray) (hp:s.size≤9223372036854775807):c75 [.str s]=some (.bool (jy s)):=aJ (fun s s' hp bZ h'=>by
 simp only[cJ] at h';obtain rfl:=h';rfl) (s) hp
theorem afU:cI 75 c75:=aE h75 rfl rfl fun s hp=>rc h75 (fun A=>afT s hp A) (fun _=>[]) rfl rfl rfl (by kernel_rfl) trivial trivial
def h_ (lo li ls:Nat) (q:Int) (o n:Int):Bool:=
 if (o==1)=true then (decide (0≤n)&&decide (n < (li:Int))) else if (o==2)=true then (decide (0≤n)&&decide (n < (ls:Int)))
 else if (o==19)=true then (cn n).isSome else if (o==26)=true then (cn n).isSome else if (o==27)=true then (cn n).isSome
 else if (o==24)=true then (decide (q < n)&&decide (n < (lo:Int))) else if (o==25)=true then (decide (q < n)&&decide (n < (lo:Int)))
 else if (o==28)=true then (decide (1≤n)&&decide (n≤13)) else if (o==29)=true then (decide (0≤n)&&decide (n < 6)) else if (o==39)=true then (decide (1≤n)&&decide (n≤8))
 else if (a7 o).n=true then (decide (0≤n)&&decide (n < 20)) else n==0
theorem Sc (lo li ls:Nat) (q o n:Int):ey lo li ls q o n=h_ lo li ls q o n:=by
 have e1:∀ k:Nat,qa 0 ((k:Int) - 1) n=(decide (0≤n)&&decide (n < (k:Int))):=fun k=>by
  unfold qa;rw[show decide (n≤(k:Int) - 1)=decide (n < (k:Int)) from decide_eq_decide.2 (by omega)]
 have e2:qa (q+1) ((lo:Int) - 1) n=(decide (q < n)&&decide (n < (lo:Int))):=by
  unfold qa;rw[show decide (n≤(lo:Int) - 1)=decide (n < (lo:Int)) from decide_eq_decide.2 (by omega),show decide (q+1≤n)=decide (q < n) from decide_eq_decide.2 (by omega)]
 have e3:qa 0 5 n=(decide (0≤n)&&decide (n < 6)):=by
  unfold qa;rw[show decide (n≤5)=decide (n < 6) from decide_eq_decide.2 (by omega)]
 have e4:qa 0 19 n=(decide (0≤n)&&decide (n < 20)):=by
  unfold qa;rw[show decide (n≤19)=decide (n < 20) from decide_eq_decide.2 (by omega)]
 unfold ey h_;rw[e1,e1,e2,e3,e4];rfl
theorem h44:Q 44=some f44:=by kernel_rfl
theorem afV (q:Int) (hp:(LM N V I U)∧0≤q∧q.toNat < N.length) (A:NP):ak (env 99 1238546872602928061119594871 D0 [(42,CG),(74,c74)] [] A) hN (5) f44 [(cd N V I U),J q]=some (.bool (ey N.length V.length I.length q (N.getD q.toNat bD).op (N.getD q.toNat bD).n)):=by
 obtain⟨hl,h0,aR⟩:=hp;have aw:=aD (d:=bD) aR;generalize N.getD q.toNat bD=x at *;have jv:=fV x.op;rw[Sc];cases h1:(x.op==1)
 ·cases h2:(x.op==2)
  ·cases bU:(x.op==19)
   ·cases fi:(x.op==26)
    ·cases e_:(x.op==27)
     ·cases gM:(x.op==24)
      ·cases dU:(x.op==25)
       ·cases sV:(x.op==28)
        ·cases yd:(x.op==29)
         ·cases vl:(x.op==39)
          ·cases hf:(a7 x.op).n
           ·simp only[h_,h1,h2,bU,fi,e_,gM,dU,sV,yd,vl,hf,BL];simp only[ak,ai,f44];simp only[go_sem,cG,h1,h2,bU,fi,e_,gM,dU,sV,yd,vl,hf,aw,h0,jv,bw,bc];try rfl
           ·cases g1:decide (0≤x.n)
            ·simp only[h_,h1,h2,bU,fi,e_,gM,dU,sV,yd,vl,hf,g1,BL];simp only[ak,ai,f44];simp only[go_sem,cG,h1,h2,bU,fi,e_,gM,dU,sV,yd,vl,hf,g1,aw,h0,jv,bw,bc];try rfl
            ·cases g2:decide (x.n < 20)
             ·simp only[h_,h1,h2,bU,fi,e_,gM,dU,sV,yd,vl,hf,g1,g2,BL];simp only[ak,ai,f44];simp only[go_sem,cG,h1,h2,bU,fi,e_,gM,dU,sV,yd,vl,hf,g1,g2,aw,h0,jv,bw,bc];try rfl
             ·simp only[h_,h1,h2,bU,fi,e_,gM,dU,sV,yd,vl,hf,g1,g2,BL];simp only[ak,ai,f44];simp only[go_sem,cG,h1,h2,bU,fi,e_,gM,dU,sV,yd,vl,hf,g1,g2,aw,h0,jv,bw,bc];try rfl
          ·cases g1:decide (1≤x.n)
           ·simp only[h_,h1,h2,bU,fi,e_,gM,dU,sV,yd,vl,g1,BL];simp only[ak,ai,f44];simp only[go_sem,cG,h1,h2,bU,fi,e_,gM,dU,sV,yd,vl,g1,aw,h0,jv,bw,bc];try rfl
           ·cases g2:decide (x.n≤8)
            ·simp only[h_,h1,h2,bU,fi,e_,gM,dU,sV,yd,vl,g1,g2,BL];simp only[ak,ai,f44];simp only[go_sem,cG,h1,h2,bU,fi,e_,gM,dU,sV,yd,vl,g1,g2,aw,h0,jv,bw,bc];try rfl
            ·simp only[h_,h1,h2,bU,fi,e_,gM,dU,sV,yd,vl,g1,g2,BL];simp only[ak,ai,f44];simp only[go_sem,cG,h1,h2,bU,fi,e_,gM,dU,sV,yd,vl,g1,g2,aw,h0,jv,bw,bc];try rfl
         ·cases g1:decide (0≤x.n)
          ·simp only[h_,h1,h2,bU,fi,e_,gM,dU,sV,yd,g1,BL];simp only[ak,ai,f44];simp only[go_sem,cG,h1,h2,bU,fi,e_,gM,dU,sV,yd,g1,aw,h0,jv,bw,bc];try rfl
          ·cases g2:decide (x.n < 6)
           ·simp only[h_,h1,h2,bU,fi,e_,gM,dU,sV,yd,g1,g2,BL];simp only[ak,ai,f44];simp only[go_sem,cG,h1,h2,bU,fi,e_,gM,dU,sV,yd,g1,g2,aw,h0,jv,bw,bc];try rfl
           ·simp only[h_,h1,h2,bU,fi,e_,gM,dU,sV,yd,g1,g2,BL];simp only[ak,ai,f44];simp only[go_sem,cG,h1,h2,bU,fi,e_,gM,dU,sV,yd,g1,g2,aw,h0,jv,bw,bc];try rfl
        ·cases g1:decide (1≤x.n)
         ·simp only[h_,h1,h2,bU,fi,e_,gM,dU,sV,g1,BL];simp only[ak,ai,f44];simp only[go_sem,cG,h1,h2,bU,fi,e_,gM,dU,sV,g1,aw,h0,jv,bw,bc];try rfl
         ·cases g2:decide (x.n≤13)
          ·simp only[h_,h1,h2,bU,fi,e_,gM,dU,sV,g1,g2,BL];simp only[ak,ai,f44];simp only[go_sem,cG,h1,h2,bU,fi,e_,gM,dU,sV,g1,g2,aw,h0,jv,bw,bc];try rfl
          ·simp only[h_,h1,h2,bU,fi,e_,gM,dU,sV,g1,g2,BL];simp only[ak,ai,f44];simp only[go_sem,cG,h1,h2,bU,fi,e_,gM,dU,sV,g1,g2,aw,h0,jv,bw,bc];try rfl
       ·cases g1:decide (q < x.n)
        ·simp only[h_,h1,h2,bU,fi,e_,gM,dU,g1,BL];simp only[ak,ai,f44];simp only[go_sem,cG,h1,h2,bU,fi,e_,gM,dU,g1,aw,h0,jv,bw,bc];try rfl
        ·cases g2:decide (x.n < (N.length:Int))
         ·simp only[h_,h1,h2,bU,fi,e_,gM,dU,g1,g2,BL];simp only[ak,ai,f44];simp only[go_sem,cG,h1,h2,bU,fi,e_,gM,dU,g1,g2,aw,h0,jv,bw,bc];try rfl
         ·simp only[h_,h1,h2,bU,fi,e_,gM,dU,g1,g2,BL];simp only[ak,ai,f44];simp only[go_sem,cG,h1,h2,bU,fi,e_,gM,dU,g1,g2,aw,h0,jv,bw,bc];try rfl
      ·cases g1:decide (q < x.n)
       ·simp only[h_,h1,h2,bU,fi,e_,gM,g1,BL];simp only[ak,ai,f44];simp only[go_sem,cG,h1,h2,bU,fi,e_,gM,g1,aw,h0,jv,bw,bc];try rfl
       ·cases g2:decide (x.n < (N.length:Int))
        ·simp only[h_,h1,h2,bU,fi,e_,gM,g1,g2,BL];simp only[ak,ai,f44];simp only[go_sem,cG,h1,h2,bU,fi,e_,gM,g1,g2,aw,h0,jv,bw,bc];try rfl
        ·simp only[h_,h1,h2,bU,fi,e_,gM,g1,g2,BL];simp only[ak,ai,f44];simp only[go_sem,cG,h1,h2,bU,fi,e_,gM,g1,g2,aw,h0,jv,bw,bc];try rfl
     ·have sW:=cG x.n;cases hi:cn x.n with
      | none=>
        rw[hi] at sW;simp only[bc] at sW;simp only[h_,hi,Option.isSome_none,h1,h2,bU,fi,e_,BL];simp only[ak,ai,f44];simp only[go_sem,sW,h1,h2,bU,fi,e_,aw,h0,jv,bw,bc];try rfl
      | some p=>
        obtain⟨p1,p2⟩:=p;rw[hi] at sW;simp only[bc] at sW;simp only[h_,hi,Option.isSome_some,h1,h2,bU,fi,e_,BL];simp only[ak,ai,f44];simp only[go_sem,sW,h1,h2,bU,fi,e_,aw,h0,jv,bw,bc];try rfl
    ·have sW:=cG x.n;cases hi:cn x.n with
     | none=>
       rw[hi] at sW;simp only[bc] at sW;simp only[h_,hi,Option.isSome_none,h1,h2,bU,fi,BL];simp only[ak,ai,f44];simp only[go_sem,sW,h1,h2,bU,fi,aw,h0,jv,bw,bc];try rfl
     | some p=>
       obtain⟨p1,p2⟩:=p;rw[hi] at sW;simp only[bc] at sW;simp only[h_,hi,Option.isSome_some,h1,h2,bU,fi,BL];simp only[ak,ai,f44];simp only[go_sem,sW,h1,h2,bU,fi,aw,h0,jv,bw,bc];try rfl
   ·have sW:=cG x.n;cases hi:cn x.n with
    | none=>
      rw[hi] at sW;simp only[bc] at sW;simp only[h_,hi,Option.isSome_none,h1,h2,bU,BL];simp only[ak,ai,f44];simp only[go_sem,sW,h1,h2,bU,aw,h0,jv,bw,bc];try rfl
    | some p=>
      obtain⟨p1,p2⟩:=p;rw[hi] at sW;simp only[bc] at sW;simp only[h_,hi,Option.isSome_some,h1,h2,bU,BL];simp only[ak,ai,f44];simp only[go_sem,sW,h1,h2,bU,aw,h0,jv,bw,bc];try rfl
  ·cases g1:decide (0≤x.n)
   ·simp only[h_,h1,h2,g1,BL];simp only[ak,ai,f44];simp only[go_sem,cG,h1,h2,g1,aw,h0,jv,bw,bc];try rfl
   ·cases g2:decide (x.n < (I.length:Int))
    ·simp only[h_,h1,h2,g1,g2,BL];simp only[ak,ai,f44];simp only[go_sem,cG,h1,h2,g1,g2,aw,h0,jv,bw,bc];try rfl
    ·simp only[h_,h1,h2,g1,g2,BL];simp only[ak,ai,f44];simp only[go_sem,cG,h1,h2,g1,g2,aw,h0,jv,bw,bc];try rfl
 ·cases g1:decide (0≤x.n)
  ·simp only[h_,h1,g1,BL];simp only[ak,ai,f44];simp only[go_sem,cG,h1,g1,aw,h0,jv,bw,bc];try rfl
  ·cases g2:decide (x.n < (V.length:Int))
   ·simp only[h_,h1,g1,g2,BL];simp only[ak,ai,f44];simp only[go_sem,cG,h1,g1,g2,aw,h0,jv,bw,bc];try rfl
   ·simp only[h_,h1,g1,g2,BL];simp only[ak,ai,f44];simp only[go_sem,cG,h1,g1,g2,aw,h0,jv,bw,bc];try rfl
noncomputable def c44:=bk (α:=(List bp) × (List Int) × (List ByteArray) × (List aP) × Int) (fun (N,V,I,U,q)=>(LM N V I U)∧0≤q∧q.toNat < N.length) (fun (N,V,I,U,q)=>[(cd N V I U),J q]) (fun (N,V,I,U,q)=> .bool (ey N.length V.length I.length q (N.getD q.toNat bD).op (N.getD q.toNat bD).n))
theorem Gy (q:Int) (hp:(LM N V I U)∧0≤q∧q.toNat < N.length):c44 [(cd N V I U),J q]=some (.bool (ey N.length V.length I.length q (N.getD q.toNat bD).op (N.getD q.toNat bD).n)):=aJ (fun X Y hp bZ h'=>by
 obtain⟨N,V,I,U,q⟩:=X;obtain⟨c7,bJ,bL,bK,q'⟩:=Y;simp only[cJ] at h';obtain⟨rfl,rfl,rfl,rfl,rfl⟩:=h';rfl) (N,V,I,U,q) hp
theorem afW:cI 44 c44:=aE h44 rfl rfl fun (N,V,I,U,q) hp=>rc h44 (fun A=>afV N V I U q hp A) (fun _=>[]) rfl rfl rfl (by kernel_rfl) ⟨uT,UA,trivial⟩ trivial
theorem h50:Q 50=some f50:=by kernel_rfl
theorem afX (q:Int) (hp:(LM N V I U)∧0≤q∧q.toNat < N.length) :∃ r,wk r (.sl 3 gT ((eG N q).map eI))∧∀ A,ak (env 35 68202551 D0 [] [] A) hN (5) f50 [(cd N V I U),J q]=some r:=by
 obtain⟨hl,h0,aR⟩:=hp;have kz:IntKind.i64.wrap (q+1)=q+1:=wrap_i64 (by omega) (by omega);have aw:=aD (d:=bD) aR;simp only[eG];generalize N.getD q.toNat bD=x at *;cases IT:(x.op==40)
 rotate_left
 ·simp only[BL];apply bu
  ·intro A;simp only[ak,ai,f50];simp only[go_sem,IT,aw,h0,kz];try rfl
  ·simp[WK,aS,ax,y8,y7,y6,eI]
 cases gM:(x.op==24)
 rotate_left
 ·simp only[BL];apply bu
  ·intro A;simp only[ak,ai,f50];simp only[go_sem,IT,gM,aw,h0,kz];try rfl
  ·simp[WK,aS,ax,y8,y7,y6,eI]
 cases dU:(x.op==25)
 ·simp only[BL];apply bu
  ·intro A;simp only[ak,ai,f50];simp only[go_sem,IT,gM,dU,aw,h0,kz];try rfl
  ·simp[WK,aS,ax,y8,y7,y6,eI]
 cases hn:(x.n==q+1)
 all_goals
  simp only[BL];apply bu
  ·intro A;simp only[ak,ai,f50];simp only[go_sem,IT,gM,dU,hn,aw,h0,kz];try rfl
  ·simp[WK,aS,ax,y8,y7,y6,eI]
noncomputable def Qj:=bk (α:=(List bp) × (List Int) × (List ByteArray) × (List aP) × Int) (fun (N,V,I,U,q)=>(LM N V I U)∧0≤q∧q.toNat < N.length) (fun (N,V,I,U,q)=>[(cd N V I U),J q]) (fun (N,V,I,U,q)=> .sl 3 gT ((eG N q).map eI))
theorem Oq (q:Int) (hp:(LM N V I U)∧0≤q∧q.toNat < N.length):Qj [(cd N V I U),J q]=some (.sl 3 gT ((eG N q).map eI)):=aJ (fun X Y hp bZ h'=>by
 obtain⟨N,V,I,U,q⟩:=X;obtain⟨c7,bJ,bL,bK,q'⟩:=Y;simp only[cJ] at h';obtain⟨rfl,rfl,rfl,rfl,rfl⟩:=h';rfl) (N,V,I,U,q) hp
theorem UC:cI 50 Qj:=aE h50 rfl rfl fun (N,V,I,U,q) hp=>let ⟨_,hw,hr⟩:=afX N V I U q hp;(rc h50 hr (fun _=>[]) rfl rfl rfl (by kernel_rfl) trivial trivial).eK hw
def Gz (N:List bp) (U:List aP) (i:Int):Bool:=
 let r:=U.getD i.toNat ⟨0,0,⟨#[]⟩,⟨#[]⟩⟩
 if ((!(decide (0≤r.at_)&&decide (r.at_≤(N.length:Int) - 1)) || (decide (0 < i)&&decide (r.at_≤(U.getD (i - 1).toNat ⟨0,0,⟨#[]⟩,⟨#[]⟩⟩).at_))) || !jy r.str)=true then false
 else
  let op:=(N.getD r.at_.toNat ⟨0,0,0,0,0⟩).op
  if (r.kind==1)=true then op==1&&jy r.mem
  else if (r.kind==2)=true then op==1&&(r.mem.toList==(⟨#[]⟩:ByteArray).toList)
  else if (r.kind==3)=true then op==26&&jy r.mem else false
theorem Sd (N:List bp) (U:List aP) (i:Int):fU N U i=Gz N U i:=by
 simp only[fU,Gz,beq_iff_eq]
theorem h45:Q 45=some f45:=by kernel_rfl
theorem afY (i:Int) (hp:(LM N V I U)∧0≤i∧i.toNat < U.length∧(LS U)) (A:NP):ak (env 81 4731616894096450257015 D0 [(75,c75)] [] A) hN (5) f45 [(cd N V I U),J i]=some (.bool (fU N U i)):=by
 obtain⟨⟨mN,AM,Uk,K3⟩,h0,aR,cS⟩:=hp;have aw:=aD (d:=(⟨0,0,⟨#[]⟩,⟨#[]⟩⟩:aP)) aR;have nG:=List.mem_of_getElem? aw;have AO:0 < i→U[(i - 1).toNat]? = some (U.getD (i - 1).toNat ⟨0,0,⟨#[]⟩,⟨#[]⟩⟩):=fun h=>aD (by omega)
 have eX:IntKind.i64.wrap (i - 1)=i - 1:=wrap_i64 (by omega) (by omega);rw[Sd];simp only[Gz];obtain⟨r,hr⟩:∃ r,U.getD i.toNat ⟨0,0,⟨#[]⟩,⟨#[]⟩⟩=r:=⟨_,rfl⟩
 obtain⟨r1,Fz⟩:∃ r,U.getD (i - 1).toNat ⟨0,0,⟨#[]⟩,⟨#[]⟩⟩=r:=⟨_,rfl⟩
 have hs:=cS _ nG;simp only[hr,Fz] at aw AO hs ⊢;have e1:=Oo r.str hs.1;have e2:=Oo r.mem hs.2;obtain⟨n1,tB⟩:∃ b,jy r.str=b:=⟨_,rfl⟩
 obtain⟨n2,C9⟩:∃ b,jy r.mem=b:=⟨_,rfl⟩
 simp only[tB,C9] at e1 e2 ⊢;have hbb:(decide (r.at_ < 0)=true∨decide ((N.length:Int)≤r.at_)=true)→(decide (0≤r.at_)&&decide (r.at_≤(N.length:Int) - 1))=false:=fun h=>by
  simp only[decide_eq_true_eq] at h;simp only[Bool.and_eq_false_iff,decide_eq_false_iff_not];omega
 have hbc:decide (r.at_ < 0)=false→decide ((N.length:Int)≤r.at_)=false→(decide (0≤r.at_)&&decide (r.at_≤(N.length:Int) - 1))=true:=fun h1 h2=>by
  simp only[decide_eq_false_iff_not] at h1 h2;simp only[Bool.and_eq_true,decide_eq_true_eq];omega
 cases b0:decide (r.at_ < 0);rotate_left
 ·have hb:=hbb (.inl b0);simp only[hb,BL];simp only[ak,ai,f45];simp only[go_sem,b0,aw,h0];try rfl
 cases b1:decide ((N.length:Int)≤r.at_);rotate_left
 ·have hb:=hbb (.inr b1);simp only[hb,BL];simp only[ak,ai,f45];simp only[go_sem,b0,b1,aw,h0];try rfl
 have hb:=hbc b0 b1;have h2:0≤r.at_:=by simp only[decide_eq_false_iff_not] at b0;omega
 have jG:=aD (d:=bD) (show r.at_.toNat < N.length by simp only[decide_eq_false_iff_not] at b1;omega);rw[show N.getD r.at_.toNat ⟨0,0,0,0,0⟩=N.getD r.at_.toNat bD from rfl];generalize N.getD r.at_.toNat bD=op at *;by_cases Gg:0 < i
 ·have hi:decide (0 < i)=true:=by simpa using Gg
  have dh:=AO Gg;have vj:0≤i - 1:=by omega
  cases hc:decide (r.at_≤r1.at_)
  ·cases n1
   ·simp only[hb,hi,hc,BL];simp only[ak,ai,f45];simp only[go_sem,b0,b1,hc,aw,h0,hi,e1,e2,eX,dh,vj];try rfl
   ·cases k1:(r.kind==1)
    ·cases k2:(r.kind==2)
     ·cases k3:(r.kind==3)
      ·simp only[hb,hi,hc,k1,k2,k3,BL];simp only[ak,ai,f45];simp only[go_sem,b0,b1,hc,k1,k2,k3,aw,h0,hi,e1,e2,eX,dh,vj,jG,h2];try rfl
      ·cases ho:(op.op==26)
       ·simp only[hb,hi,hc,k1,k2,k3,ho,BL];simp only[ak,ai,f45];simp only[go_sem,b0,b1,hc,k1,k2,k3,ho,aw,h0,hi,e1,e2,eX,dh,vj,jG,h2];try rfl
       ·simp only[hb,hi,hc,k1,k2,k3,ho,BL];simp only[ak,ai,f45];simp only[go_sem,b0,b1,hc,k1,k2,k3,ho,aw,h0,hi,e1,e2,eX,dh,vj,jG,h2];try rfl
     ·cases ho:(op.op==1)
      ·simp only[hb,hi,hc,k1,k2,ho,BL];simp only[ak,ai,f45];simp only[go_sem,b0,b1,hc,k1,k2,ho,aw,h0,hi,e1,e2,eX,dh,vj,jG,h2];try rfl
      ·simp only[hb,hi,hc,k1,k2,ho,BL];simp only[ak,ai,f45];simp only[go_sem,b0,b1,hc,k1,k2,ho,aw,h0,hi,e1,e2,eX,dh,vj,jG,h2];try rfl
    ·cases ho:(op.op==1)
     ·simp only[hb,hi,hc,k1,ho,BL];simp only[ak,ai,f45];simp only[go_sem,b0,b1,hc,k1,ho,aw,h0,hi,e1,e2,eX,dh,vj,jG,h2];try rfl
     ·simp only[hb,hi,hc,k1,ho,BL];simp only[ak,ai,f45];simp only[go_sem,b0,b1,hc,k1,ho,aw,h0,hi,e1,e2,eX,dh,vj,jG,h2];try rfl
  ·simp only[hb,hi,hc,BL];simp only[ak,ai,f45];simp only[go_sem,b0,b1,hc,aw,h0,hi,e1,e2,eX,dh,vj];try rfl
 ·have hi:decide (0 < i)=false:=by simpa using Gg
  cases n1
  ·simp only[hb,hi,BL];simp only[ak,ai,f45];simp only[go_sem,b0,b1,aw,h0,hi,e1,e2,eX];try rfl
  ·cases k1:(r.kind==1)
   ·cases k2:(r.kind==2)
    ·cases k3:(r.kind==3)
     ·simp only[hb,hi,k1,k2,k3,BL];simp only[ak,ai,f45];simp only[go_sem,b0,b1,k1,k2,k3,aw,h0,hi,e1,e2,eX,jG,h2];try rfl
     ·cases ho:(op.op==26)
      ·simp only[hb,hi,k1,k2,k3,ho,BL];simp only[ak,ai,f45];simp only[go_sem,b0,b1,k1,k2,k3,ho,aw,h0,hi,e1,e2,eX,jG,h2];try rfl
      ·simp only[hb,hi,k1,k2,k3,ho,BL];simp only[ak,ai,f45];simp only[go_sem,b0,b1,k1,k2,k3,ho,aw,h0,hi,e1,e2,eX,jG,h2];try rfl
    ·cases ho:(op.op==1)
     ·simp only[hb,hi,k1,k2,ho,BL];simp only[ak,ai,f45];simp only[go_sem,b0,b1,k1,k2,ho,aw,h0,hi,e1,e2,eX,jG,h2];try rfl
     ·simp only[hb,hi,k1,k2,ho,BL];simp only[ak,ai,f45];simp only[go_sem,b0,b1,k1,k2,ho,aw,h0,hi,e1,e2,eX,jG,h2];try rfl
   ·cases ho:(op.op==1)
    ·simp only[hb,hi,k1,ho,BL];simp only[ak,ai,f45];simp only[go_sem,b0,b1,k1,ho,aw,h0,hi,e1,e2,eX,jG,h2];try rfl
    ·simp only[hb,hi,k1,ho,BL];simp only[ak,ai,f45];simp only[go_sem,b0,b1,k1,ho,aw,h0,hi,e1,e2,eX,jG,h2];try rfl
noncomputable def c45:=bk (α:=(List bp) × (List Int) × (List ByteArray) × (List aP) × Int) (fun (N,V,I,U,i)=>(LM N V I U)∧0≤i∧i.toNat < U.length∧(LS U)) (fun (N,V,I,U,i)=>[(cd N V I U),J i]) (fun (N,V,I,U,i)=> .bool (fU N U i))
theorem GA (i:Int) (hp:(LM N V I U)∧0≤i∧i.toNat < U.length∧(LS U)):c45 [(cd N V I U),J i]=some (.bool (fU N U i)):=aJ (fun X Y hp bZ h'=>by
 obtain⟨N,V,I,U,i⟩:=X;obtain⟨c7,bJ,bL,bK,i'⟩:=Y;simp only[cJ] at h';obtain⟨rfl,rfl,rfl,rfl,rfl⟩:=h';rfl) (N,V,I,U,i) hp
theorem afZ:cI 45 c45:=aE h45 rfl rfl fun (N,V,I,U,i) hp=>rc h45 (fun A=>afY N V I U i hp A) (fun i=>match i with | 2=>[0,1,3,7,15,31,15,79,207,511,1023,2047,4095,8191,16383,32767,65535,32767,163839,524287,1048575,2097151,32767,4227071,16777215,33554431,67108863,134217727,268435455,536870911,1073741823,2147483647,4294967295] | _=>[]) rfl rfl rfl (by kernel_rfl) ⟨afU,trivial⟩ trivial
end Go.Proofs.Tryz
end
