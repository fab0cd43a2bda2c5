/- Part of the proof of one statement of this seat: an abstract machine for the program, its contracts, and the statement (no condition of our own). -/
import Derived.Test.YtbdbjpdlcemeaaaGreatDoorKp10
set_option linter.unusedSimpArgs false
set_option linter.unusedVariables false
section
set_option maxHeartbeats 4000000
set_option maxRecDepth 20000
namespace Go.Proofs.Tryz
open Go Go.Abs
variable (ops : List XOp) (ints : List Int) (strs : List ByteArray) (rels : List XRel)
def noZ (l:List UInt8):Bool:=l.all fun b=> !(((b.toNat:Nat):Int)==0)
theorem noZ_cons (b:UInt8) (l:List UInt8):noZ (b::l)=(!(((b.toNat:Nat):Int)==0)&&noZ l):=rfl
theorem noZ_index (l:List UInt8):(!(decide (0≤Lib.indexByte l 0)))=noZ l:=by
 induction l with
 | nil=>rfl
 | cons b l ih=>
   have hg:=Lib.indexByte_ge l 0
   rw[noZ_cons,← ih]
   have e0:Lib.indexByte (b::l) 0=if (b==0)=true then 0 else if (Lib.indexByte l 0== -1)=true then -1 else Lib.indexByte l 0+1:=rfl
   rw[e0]
   have hb:(b==0)=(((b.toNat:Nat):Int)==0):=by
    rw[Bool.eq_iff_iff]
    simp only[beq_iff_eq]
    constructor
    ·intro h;subst h;rfl
    ·intro h
     have:b.toNat=0:=by omega
     exact UInt8.toNat_inj.1 this
   rw[← hb]
   cases hc:(b==0)
   ·simp only[BL]
    by_cases h1:Lib.indexByte l 0 = -1
    ·simp[h1]
    ·have h2:(Lib.indexByte l 0== -1)=false:=by simpa using h1
     rw[h2]
     simp only[BL]
     congr 1
     exact decide_eq_decide.2 (by omega)
   ·simp
theorem strOk_r (s:ByteArray):strOkF s=(noZ s.data.toList&&decide ((s.size:Int)≤64)):=by
 have e:(!(decide (0≤indexByteF s 0)))=noZ s.data.toList:=noZ_index _
 unfold strOkF
 rw[e]
 by_cases h:64 < (s.size:Int)
 ·have h2:¬ ((s.size:Int)≤64):=by omega
  simp[h,h2]
 ·have h2:(s.size:Int)≤64:=by omega
  simp only[h,h2,BL]
theorem h41:Tryz.prog.funcs[41]? = some f41:=by kernel_rfl
theorem loop41 (s:ByteArray) (hlim:s.size≤9223372036854775807) (A:Nat→Prop) (k:Nat):∀ (m i:Nat) (σ:St),i+m=s.size→
 σ.keep ({ tm:=[0,3],ob:=[],fin:=some ([0,2],[]) }:Hint)=⟨[(0,.str s),(3,.int .i64 i)],[]⟩→
 post ({ tm:=[0,3],ob:=[],fin:=some ([0,2],[]) }:Hint) (aloop ty (arun (env 17 8333 D0 [] [] A) (fun _=>({ tm:=[0,3],ob:=[],fin:=some ([0,2],[]) }:Hint)) k (sub (f41.body.getD .skip) [1,0,1,0,0])) ({ tm:=[0,3],ob:=[],fin:=some ([0,2],[]) }:Hint) (m+1) σ) =
 some (if noZ (s.data.toList.drop i)=true then (.exit 0,⟨[(0,.str s)],[]⟩) else (.ret,⟨[(0,.str s),(2,.bool false)],[]⟩)):=by
 simp only[f41,sub,Option.getD_some]
 have hsz:s.size=s.data.toList.length:=by simp
 intro m
 induction m with
 | zero=>
   intro i σ hi hσ
   have h1:¬ ((i:Int) < (s.size:Int)):=by omega
   rw[aloop,hσ]
   simp only[go_sem,simprocAttr,h1]
   rw[List.drop_of_length_le (by omega)]
   simp[post,St.fin,keepL,aget,noZ]
 | succ m ih=>
   intro i σ hi hσ
   have h1:(i:Int) < (s.size:Int):=by omega
   have hlt:i < s.size:=by omega
   have hni:(0:Int)≤(i:Int):=Int.natCast_nonneg i
   have hget:=ba_get s i hlt
   have hw:IntKind.i64.wrap ((i:Int)+1)=((i+1:Nat):Int):=by rw[wrap_i64 (by omega) (by omega)];omega
   have hd:s.data.toList.drop i=s.data.toList[i]::s.data.toList.drop (i+1):=List.drop_eq_getElem_cons (by omega)
   rw[aloop,hσ,hd]
   generalize s.data.toList[i]=y at *
   rw[noZ_cons]
   cases hz:(((y.toNat:Nat):Int)==0)
   all_goals
    simp only[go_sem,simprocAttr,h1,hni,hget,hw,hz]
    try simp only[BL]
    first
    | (simp[post,St.fin,keepL,aget];done)
    | exact ih (i+1) _ (by omega) (by simp only[go_sem,simprocAttr])
theorem run41 (s:ByteArray) (hp:s.size≤9223372036854775807) (A:Nat→Prop):acall (env 17 8333 D0 [] [] A) (fun _=>({ tm:=[0,3],ob:=[],fin:=some ([0,2],[]) }:Hint)) (s.size+1) f41 [.str s]=some (.bool (strOkF s)):=by
 have hl:=loop41 s hp A (s.size+1) s.size 0
 simp only[f41,sub,Option.getD_some,List.drop_zero] at hl
 rw[strOk_r]
 simp only[acall,macall,f41]
 simp only[go_sem,simprocAttr]
 rw[hl _ (by simp) (by simp only[go_sem,simprocAttr])]
 cases h:noZ s.data.toList
 ·simp only[go_sem,simprocAttr]
  try rfl
 ·cases h2:decide ((s.size:Int)≤64)
  all_goals
   simp only[go_sem,simprocAttr,h2]
   try rfl
noncomputable def c41:=famP (α:=ByteArray) (fun s=>s.size≤9223372036854775807) (fun s=>[.str s]) (fun s=> .bool (strOkF s))
theorem c41_eq (s:ByteArray) (hp:s.size≤9223372036854775807):c41 [.str s]=some (.bool (strOkF s)):=fam_eq (fun s s' hp hp' h'=>by
 simp only[INJ] at h'
 obtain rfl:=h'
 rfl) (s) hp
theorem snd41:Snd 41 c41:=fam_snd h41 rfl rfl fun s hp=>rc h41 (fun A=>run41 s hp A) (fun _=>[]) rfl rfl rfl (by kernel_rfl) trivial trivial
theorem letter_all:∀ k:Fin 256,letterF (k.val:Nat)=(((decide (97≤((k.val:Nat):Int))&&decide (((k.val:Nat):Int)≤122)) || (decide (65≤((k.val:Nat):Int))&&decide (((k.val:Nat):Int)≤90))) || (((k.val:Nat):Int)==95))∧digitF (k.val:Nat) = !(decide (((k.val:Nat):Int) < 48) || decide (57 < ((k.val:Nat):Int))):=by decide +kernel
theorem bad_r (i:Nat) (y:UInt8):badF i y.toNat=(!((((decide (97≤((y.toNat:Nat):Int))&&decide (((y.toNat:Nat):Int)≤122)) || (decide (65≤((y.toNat:Nat):Int))&&decide (((y.toNat:Nat):Int)≤90))) || (((y.toNat:Nat):Int)==95)))&&(decide (i=0) || (decide (((y.toNat:Nat):Int) < 48) || decide (57 < ((y.toNat:Nat):Int))))):=by
 have h:=letter_all ⟨y.toNat,y.toNat_lt⟩
 unfold badF
 rw[h.1,h.2,Bool.not_not]
theorem h75:Tryz.prog.funcs[75]? = some f75:=by kernel_rfl
theorem loop75 (s:ByteArray) (hlim:s.size≤9223372036854775807) (A:Nat→Prop) (k:Nat):∀ (m i:Nat) (σ:St),i+m=s.size→
 σ.keep ({ tm:=[0,3],ob:=[],fin:=some ([0,2],[]) }:Hint)=⟨[(0,.str s),(3,.int .i64 i)],[]⟩→
 post ({ tm:=[0,3],ob:=[],fin:=some ([0,2],[]) }:Hint) (aloop ty (arun (env 55 70368744178237 D0 [] [] A) (fun _=>({ tm:=[0,3],ob:=[],fin:=some ([0,2],[]) }:Hint)) k (sub (f75.body.getD .skip) [1,0,1,0,0])) ({ tm:=[0,3],ob:=[],fin:=some ([0,2],[]) }:Hint) (m+1) σ) =
 some (if okFrom (s.data.toList.drop i) i=true then (.exit 0,⟨[(0,.str s)],[]⟩) else (.ret,⟨[(0,.str s),(2,.bool false)],[]⟩)):=by
 simp only[f75,sub,Option.getD_some]
 have hsz:s.size=s.data.toList.length:=by simp
 intro m
 induction m with
 | zero=>
   intro i σ hi hσ
   have h1:¬ ((i:Int) < (s.size:Int)):=by omega
   rw[aloop,hσ]
   simp only[go_sem,simprocAttr,h1]
   rw[List.drop_of_length_le (by omega)]
   simp[post,St.fin,keepL,aget,okFrom]
 | succ m ih=>
   intro i σ hi hσ
   have h1:(i:Int) < (s.size:Int):=by omega
   have hlt:i < s.size:=by omega
   have hni:(0:Int)≤(i:Int):=Int.natCast_nonneg i
   have hget:=ba_get s i hlt
   have hw:IntKind.i64.wrap ((i:Int)+1)=((i+1:Nat):Int):=by rw[wrap_i64 (by omega) (by omega)];omega
   have hd:s.data.toList.drop i=s.data.toList[i]::s.data.toList.drop (i+1):=List.drop_eq_getElem_cons (by omega)
   rw[aloop,hσ,hd]
   generalize s.data.toList[i]=y at *
   have hb:=bad_r i y
   have hz:(((i:Nat):Int)==0)=decide (i=0):=by
    by_cases e:i=0
    ·subst e;rfl
    ·simp[e]
   cases b1:decide (97≤((y.toNat:Nat):Int))
   ·cases b3:decide (65≤((y.toNat:Nat):Int))
    ·cases b5:(((y.toNat:Nat):Int)==95)
     ·cases b6:decide (i=0)
      ·cases b7:decide (((y.toNat:Nat):Int) < 48)
       ·cases b8:decide (57 < ((y.toNat:Nat):Int))
        ·simp only[b1,b3,b5,b6,b7,b8,BL] at hb
         simp only[go_sem,simprocAttr,h1,hni,hget,hw,hz,b1,b3,b5,b6,b7,b8]
         simp only[okFrom,hb,BL]
         first
         | (simp[post,St.fin,keepL,aget];done)
         | exact ih (i+1) _ (by omega) (by simp only[go_sem,simprocAttr])
        ·simp only[b1,b3,b5,b6,b7,b8,BL] at hb
         simp only[go_sem,simprocAttr,h1,hni,hget,hw,hz,b1,b3,b5,b6,b7,b8]
         simp only[okFrom,hb,BL]
         first
         | (simp[post,St.fin,keepL,aget];done)
         | exact ih (i+1) _ (by omega) (by simp only[go_sem,simprocAttr])
       ·simp only[b1,b3,b5,b6,b7,BL] at hb
        simp only[go_sem,simprocAttr,h1,hni,hget,hw,hz,b1,b3,b5,b6,b7]
        simp only[okFrom,hb,BL]
        first
        | (simp[post,St.fin,keepL,aget];done)
        | exact ih (i+1) _ (by omega) (by simp only[go_sem,simprocAttr])
      ·simp only[b1,b3,b5,b6,BL] at hb
       simp only[go_sem,simprocAttr,h1,hni,hget,hw,hz,b1,b3,b5,b6]
       simp only[okFrom,hb,BL]
       first
       | (simp[post,St.fin,keepL,aget];done)
       | exact ih (i+1) _ (by omega) (by simp only[go_sem,simprocAttr])
     ·simp only[b1,b3,b5,BL] at hb
      simp only[go_sem,simprocAttr,h1,hni,hget,hw,hz,b1,b3,b5]
      simp only[okFrom,hb,BL]
      first
      | (simp[post,St.fin,keepL,aget];done)
      | exact ih (i+1) _ (by omega) (by simp only[go_sem,simprocAttr])
    ·cases b4:decide (((y.toNat:Nat):Int)≤90)
     ·cases b5:(((y.toNat:Nat):Int)==95)
      ·cases b6:decide (i=0)
       ·cases b7:decide (((y.toNat:Nat):Int) < 48)
        ·cases b8:decide (57 < ((y.toNat:Nat):Int))
         ·simp only[b1,b3,b4,b5,b6,b7,b8,BL] at hb
          simp only[go_sem,simprocAttr,h1,hni,hget,hw,hz,b1,b3,b4,b5,b6,b7,b8]
          simp only[okFrom,hb,BL]
          first
          | (simp[post,St.fin,keepL,aget];done)
          | exact ih (i+1) _ (by omega) (by simp only[go_sem,simprocAttr])
         ·simp only[b1,b3,b4,b5,b6,b7,b8,BL] at hb
          simp only[go_sem,simprocAttr,h1,hni,hget,hw,hz,b1,b3,b4,b5,b6,b7,b8]
          simp only[okFrom,hb,BL]
          first
          | (simp[post,St.fin,keepL,aget];done)
          | exact ih (i+1) _ (by omega) (by simp only[go_sem,simprocAttr])
        ·simp only[b1,b3,b4,b5,b6,b7,BL] at hb
         simp only[go_sem,simprocAttr,h1,hni,hget,hw,hz,b1,b3,b4,b5,b6,b7]
         simp only[okFrom,hb,BL]
         first
         | (simp[post,St.fin,keepL,aget];done)
         | exact ih (i+1) _ (by omega) (by simp only[go_sem,simprocAttr])
       ·simp only[b1,b3,b4,b5,b6,BL] at hb
        simp only[go_sem,simprocAttr,h1,hni,hget,hw,hz,b1,b3,b4,b5,b6]
        simp only[okFrom,hb,BL]
        first
        | (simp[post,St.fin,keepL,aget];done)
        | exact ih (i+1) _ (by omega) (by simp only[go_sem,simprocAttr])
      ·simp only[b1,b3,b4,b5,BL] at hb
       simp only[go_sem,simprocAttr,h1,hni,hget,hw,hz,b1,b3,b4,b5]
       simp only[okFrom,hb,BL]
       first
       | (simp[post,St.fin,keepL,aget];done)
       | exact ih (i+1) _ (by omega) (by simp only[go_sem,simprocAttr])
     ·simp only[b1,b3,b4,BL] at hb
      simp only[go_sem,simprocAttr,h1,hni,hget,hw,hz,b1,b3,b4]
      simp only[okFrom,hb,BL]
      first
      | (simp[post,St.fin,keepL,aget];done)
      | exact ih (i+1) _ (by omega) (by simp only[go_sem,simprocAttr])
   ·cases b2:decide (((y.toNat:Nat):Int)≤122)
    ·cases b3:decide (65≤((y.toNat:Nat):Int))
     ·cases b5:(((y.toNat:Nat):Int)==95)
      ·cases b6:decide (i=0)
       ·cases b7:decide (((y.toNat:Nat):Int) < 48)
        ·cases b8:decide (57 < ((y.toNat:Nat):Int))
         ·simp only[b1,b2,b3,b5,b6,b7,b8,BL] at hb
          simp only[go_sem,simprocAttr,h1,hni,hget,hw,hz,b1,b2,b3,b5,b6,b7,b8]
          simp only[okFrom,hb,BL]
          first
          | (simp[post,St.fin,keepL,aget];done)
          | exact ih (i+1) _ (by omega) (by simp only[go_sem,simprocAttr])
         ·simp only[b1,b2,b3,b5,b6,b7,b8,BL] at hb
          simp only[go_sem,simprocAttr,h1,hni,hget,hw,hz,b1,b2,b3,b5,b6,b7,b8]
          simp only[okFrom,hb,BL]
          first
          | (simp[post,St.fin,keepL,aget];done)
          | exact ih (i+1) _ (by omega) (by simp only[go_sem,simprocAttr])
        ·simp only[b1,b2,b3,b5,b6,b7,BL] at hb
         simp only[go_sem,simprocAttr,h1,hni,hget,hw,hz,b1,b2,b3,b5,b6,b7]
         simp only[okFrom,hb,BL]
         first
         | (simp[post,St.fin,keepL,aget];done)
         | exact ih (i+1) _ (by omega) (by simp only[go_sem,simprocAttr])
       ·simp only[b1,b2,b3,b5,b6,BL] at hb
        simp only[go_sem,simprocAttr,h1,hni,hget,hw,hz,b1,b2,b3,b5,b6]
        simp only[okFrom,hb,BL]
        first
        | (simp[post,St.fin,keepL,aget];done)
        | exact ih (i+1) _ (by omega) (by simp only[go_sem,simprocAttr])
      ·simp only[b1,b2,b3,b5,BL] at hb
       simp only[go_sem,simprocAttr,h1,hni,hget,hw,hz,b1,b2,b3,b5]
       simp only[okFrom,hb,BL]
       first
       | (simp[post,St.fin,keepL,aget];done)
       | exact ih (i+1) _ (by omega) (by simp only[go_sem,simprocAttr])
     ·cases b4:decide (((y.toNat:Nat):Int)≤90)
      ·cases b5:(((y.toNat:Nat):Int)==95)
       ·cases b6:decide (i=0)
        ·cases b7:decide (((y.toNat:Nat):Int) < 48)
         ·cases b8:decide (57 < ((y.toNat:Nat):Int))
          ·simp only[b1,b2,b3,b4,b5,b6,b7,b8,BL] at hb
           simp only[go_sem,simprocAttr,h1,hni,hget,hw,hz,b1,b2,b3,b4,b5,b6,b7,b8]
           simp only[okFrom,hb,BL]
           first
           | (simp[post,St.fin,keepL,aget];done)
           | exact ih (i+1) _ (by omega) (by simp only[go_sem,simprocAttr])
          ·simp only[b1,b2,b3,b4,b5,b6,b7,b8,BL] at hb
           simp only[go_sem,simprocAttr,h1,hni,hget,hw,hz,b1,b2,b3,b4,b5,b6,b7,b8]
           simp only[okFrom,hb,BL]
           first
           | (simp[post,St.fin,keepL,aget];done)
           | exact ih (i+1) _ (by omega) (by simp only[go_sem,simprocAttr])
         ·simp only[b1,b2,b3,b4,b5,b6,b7,BL] at hb
          simp only[go_sem,simprocAttr,h1,hni,hget,hw,hz,b1,b2,b3,b4,b5,b6,b7]
          simp only[okFrom,hb,BL]
          first
          | (simp[post,St.fin,keepL,aget];done)
          | exact ih (i+1) _ (by omega) (by simp only[go_sem,simprocAttr])
        ·simp only[b1,b2,b3,b4,b5,b6,BL] at hb
         simp only[go_sem,simprocAttr,h1,hni,hget,hw,hz,b1,b2,b3,b4,b5,b6]
         simp only[okFrom,hb,BL]
         first
         | (simp[post,St.fin,keepL,aget];done)
         | exact ih (i+1) _ (by omega) (by simp only[go_sem,simprocAttr])
       ·simp only[b1,b2,b3,b4,b5,BL] at hb
        simp only[go_sem,simprocAttr,h1,hni,hget,hw,hz,b1,b2,b3,b4,b5]
        simp only[okFrom,hb,BL]
        first
        | (simp[post,St.fin,keepL,aget];done)
        | exact ih (i+1) _ (by omega) (by simp only[go_sem,simprocAttr])
      ·simp only[b1,b2,b3,b4,BL] at hb
       simp only[go_sem,simprocAttr,h1,hni,hget,hw,hz,b1,b2,b3,b4]
       simp only[okFrom,hb,BL]
       first
       | (simp[post,St.fin,keepL,aget];done)
       | exact ih (i+1) _ (by omega) (by simp only[go_sem,simprocAttr])
    ·simp only[b1,b2,BL] at hb
     simp only[go_sem,simprocAttr,h1,hni,hget,hw,hz,b1,b2]
     simp only[okFrom,hb,BL]
     first
     | (simp[post,St.fin,keepL,aget];done)
     | exact ih (i+1) _ (by omega) (by simp only[go_sem,simprocAttr])
theorem run75 (s:ByteArray) (hp:s.size≤9223372036854775807) (A:Nat→Prop):acall (env 55 70368744178237 D0 [] [] A) (fun _=>({ tm:=[0,3],ob:=[],fin:=some ([0,2],[]) }:Hint)) (s.size+1) f75 [.str s]=some (.bool (nameF s)):=by
 have hl:=loop75 s hp A (s.size+1) s.size 0
 simp only[f75,sub,Option.getD_some,List.drop_zero] at hl
 have hq:decide ((s.size:Int)≤31)=decide (s.size≤31):=by by_cases e:s.size≤31 <;> simp[e] <;> omega
 have hq0:decide (0 < (s.size:Int)) = !(s.toList==(⟨#[]⟩:ByteArray).toList):=by
  rw[ByteArray.toList_eq,ByteArray.toList_eq]
  have hsz:s.size=s.data.toList.length:=by simp
  rw[hsz]
  cases s.data.toList <;> simp
 simp only[nameF,← hq0,← hq]
 simp only[acall,macall,f75]
 simp only[go_sem,simprocAttr]
 rw[hl _ (by simp) (by simp only[go_sem,simprocAttr])]
 cases h:okFrom s.data.toList 0
 ·simp only[go_sem,simprocAttr]
  try rfl
 ·cases h2:decide (0 < (s.size:Int)) <;> cases h3:decide ((s.size:Int)≤31)
  all_goals
   simp only[go_sem,simprocAttr,h2,h3]
   try rfl
noncomputable def c75:=famP (α:=ByteArray) (fun s=>s.size≤9223372036854775807) (fun s=>[.str s]) (fun s=> .bool (nameF s))
theorem c75_eq (s:ByteArray) (hp:s.size≤9223372036854775807):c75 [.str s]=some (.bool (nameF s)):=fam_eq (fun s s' hp hp' h'=>by
 simp only[INJ] at h'
 obtain rfl:=h'
 rfl) (s) hp
theorem snd75:Snd 75 c75:=fam_snd h75 rfl rfl fun s hp=>rc h75 (fun A=>run75 s hp A) (fun _=>[]) rfl rfl rfl (by kernel_rfl) trivial trivial
def numR (lo li ls:Nat) (q:Int) (o n:Int):Bool:=
 if (o==1)=true then (decide (0≤n)&&decide (n < (li:Int))) else if (o==2)=true then (decide (0≤n)&&decide (n < (ls:Int)))
 else if (o==19)=true then (intOfF n).isSome else if (o==26)=true then (intOfF n).isSome else if (o==27)=true then (intOfF n).isSome
 else if (o==24)=true then (decide (q < n)&&decide (n < (lo:Int))) else if (o==25)=true then (decide (q < n)&&decide (n < (lo:Int)))
 else if (o==28)=true then (decide (1≤n)&&decide (n≤13)) else if (o==29)=true then (decide (0≤n)&&decide (n < 6)) else if (o==39)=true then (decide (1≤n)&&decide (n≤8))
 else if (formF o).n=true then (decide (0≤n)&&decide (n < 20)) else n==0
theorem numR_eq (lo li ls:Nat) (q o n:Int):fitsF lo li ls q o n=numR lo li ls q o n:=by
 have e1:∀ k:Nat,inF 0 ((k:Int) - 1) n=(decide (0≤n)&&decide (n < (k:Int))):=fun k=>by
  unfold inF
  rw[show decide (n≤(k:Int) - 1)=decide (n < (k:Int)) from decide_eq_decide.2 (by omega)]
 have e2:inF (q+1) ((lo:Int) - 1) n=(decide (q < n)&&decide (n < (lo:Int))):=by
  unfold inF
  rw[show decide (n≤(lo:Int) - 1)=decide (n < (lo:Int)) from decide_eq_decide.2 (by omega),show decide (q+1≤n)=decide (q < n) from decide_eq_decide.2 (by omega)]
 have e3:inF 0 5 n=(decide (0≤n)&&decide (n < 6)):=by
  unfold inF
  rw[show decide (n≤5)=decide (n < 6) from decide_eq_decide.2 (by omega)]
 have e4:inF 0 19 n=(decide (0≤n)&&decide (n < 20)):=by
  unfold inF
  rw[show decide (n≤19)=decide (n < 20) from decide_eq_decide.2 (by omega)]
 unfold fitsF numR
 rw[e1,e1,e2,e3,e4]
 rfl
theorem h44:Tryz.prog.funcs[44]? = some f44:=by kernel_rfl
theorem run44 (q:Int) (hp:(ops.length≤100000∧ints.length≤100000∧strs.length≤100000∧rels.length≤100000)∧0≤q∧q.toNat < ops.length) (A:Nat→Prop):acall (env 99 1238546872602928061119594871 D0 [(42,c42),(74,c74)] [] A) (fun _=>{ tm:=[],ob:=[] }) (5) f44 [(cd ops ints strs rels),.int .i64 q]=some (.bool (fitsF ops.length ints.length strs.length q (ops.getD q.toNat op0).op (ops.getD q.toNat op0).n)):=by
 obtain⟨hl,h0,hlt⟩:=hp
 have hget:=getD_get (d:=op0) hlt
 generalize ops.getD q.toNat op0=x at *
 have e42:=c42_eq x.op
 rw[numR_eq]
 cases h1:(x.op==1)
 ·cases h2:(x.op==2)
  ·cases h19:(x.op==19)
   ·cases h26:(x.op==26)
    ·cases h27:(x.op==27)
     ·cases h24:(x.op==24)
      ·cases h25:(x.op==25)
       ·cases h28:(x.op==28)
        ·cases h29:(x.op==29)
         ·cases h39:(x.op==39)
          ·cases hf:(formF x.op).n
           ·simp only[numR,h1,h2,h19,h26,h27,h24,h25,h28,h29,h39,hf,BL]
            simp only[acall,macall,f44]
            simp only[go_sem,simprocAttr,c74_eq,h1,h2,h19,h26,h27,h24,h25,h28,h29,h39,hf,hget,h0,e42,eFormR,eIntOf]
            try rfl
           ·cases g1:decide (0≤x.n)
            ·simp only[numR,h1,h2,h19,h26,h27,h24,h25,h28,h29,h39,hf,g1,BL]
             simp only[acall,macall,f44]
             simp only[go_sem,simprocAttr,c74_eq,h1,h2,h19,h26,h27,h24,h25,h28,h29,h39,hf,g1,hget,h0,e42,eFormR,eIntOf]
             try rfl
            ·cases g2:decide (x.n < 20)
             ·simp only[numR,h1,h2,h19,h26,h27,h24,h25,h28,h29,h39,hf,g1,g2,BL]
              simp only[acall,macall,f44]
              simp only[go_sem,simprocAttr,c74_eq,h1,h2,h19,h26,h27,h24,h25,h28,h29,h39,hf,g1,g2,hget,h0,e42,eFormR,eIntOf]
              try rfl
             ·simp only[numR,h1,h2,h19,h26,h27,h24,h25,h28,h29,h39,hf,g1,g2,BL]
              simp only[acall,macall,f44]
              simp only[go_sem,simprocAttr,c74_eq,h1,h2,h19,h26,h27,h24,h25,h28,h29,h39,hf,g1,g2,hget,h0,e42,eFormR,eIntOf]
              try rfl
          ·cases g1:decide (1≤x.n)
           ·simp only[numR,h1,h2,h19,h26,h27,h24,h25,h28,h29,h39,g1,BL]
            simp only[acall,macall,f44]
            simp only[go_sem,simprocAttr,c74_eq,h1,h2,h19,h26,h27,h24,h25,h28,h29,h39,g1,hget,h0,e42,eFormR,eIntOf]
            try rfl
           ·cases g2:decide (x.n≤8)
            ·simp only[numR,h1,h2,h19,h26,h27,h24,h25,h28,h29,h39,g1,g2,BL]
             simp only[acall,macall,f44]
             simp only[go_sem,simprocAttr,c74_eq,h1,h2,h19,h26,h27,h24,h25,h28,h29,h39,g1,g2,hget,h0,e42,eFormR,eIntOf]
             try rfl
            ·simp only[numR,h1,h2,h19,h26,h27,h24,h25,h28,h29,h39,g1,g2,BL]
             simp only[acall,macall,f44]
             simp only[go_sem,simprocAttr,c74_eq,h1,h2,h19,h26,h27,h24,h25,h28,h29,h39,g1,g2,hget,h0,e42,eFormR,eIntOf]
             try rfl
         ·cases g1:decide (0≤x.n)
          ·simp only[numR,h1,h2,h19,h26,h27,h24,h25,h28,h29,g1,BL]
           simp only[acall,macall,f44]
           simp only[go_sem,simprocAttr,c74_eq,h1,h2,h19,h26,h27,h24,h25,h28,h29,g1,hget,h0,e42,eFormR,eIntOf]
           try rfl
          ·cases g2:decide (x.n < 6)
           ·simp only[numR,h1,h2,h19,h26,h27,h24,h25,h28,h29,g1,g2,BL]
            simp only[acall,macall,f44]
            simp only[go_sem,simprocAttr,c74_eq,h1,h2,h19,h26,h27,h24,h25,h28,h29,g1,g2,hget,h0,e42,eFormR,eIntOf]
            try rfl
           ·simp only[numR,h1,h2,h19,h26,h27,h24,h25,h28,h29,g1,g2,BL]
            simp only[acall,macall,f44]
            simp only[go_sem,simprocAttr,c74_eq,h1,h2,h19,h26,h27,h24,h25,h28,h29,g1,g2,hget,h0,e42,eFormR,eIntOf]
            try rfl
        ·cases g1:decide (1≤x.n)
         ·simp only[numR,h1,h2,h19,h26,h27,h24,h25,h28,g1,BL]
          simp only[acall,macall,f44]
          simp only[go_sem,simprocAttr,c74_eq,h1,h2,h19,h26,h27,h24,h25,h28,g1,hget,h0,e42,eFormR,eIntOf]
          try rfl
         ·cases g2:decide (x.n≤13)
          ·simp only[numR,h1,h2,h19,h26,h27,h24,h25,h28,g1,g2,BL]
           simp only[acall,macall,f44]
           simp only[go_sem,simprocAttr,c74_eq,h1,h2,h19,h26,h27,h24,h25,h28,g1,g2,hget,h0,e42,eFormR,eIntOf]
           try rfl
          ·simp only[numR,h1,h2,h19,h26,h27,h24,h25,h28,g1,g2,BL]
           simp only[acall,macall,f44]
           simp only[go_sem,simprocAttr,c74_eq,h1,h2,h19,h26,h27,h24,h25,h28,g1,g2,hget,h0,e42,eFormR,eIntOf]
           try rfl
       ·cases g1:decide (q < x.n)
        ·simp only[numR,h1,h2,h19,h26,h27,h24,h25,g1,BL]
         simp only[acall,macall,f44]
         simp only[go_sem,simprocAttr,c74_eq,h1,h2,h19,h26,h27,h24,h25,g1,hget,h0,e42,eFormR,eIntOf]
         try rfl
        ·cases g2:decide (x.n < (ops.length:Int))
         ·simp only[numR,h1,h2,h19,h26,h27,h24,h25,g1,g2,BL]
          simp only[acall,macall,f44]
          simp only[go_sem,simprocAttr,c74_eq,h1,h2,h19,h26,h27,h24,h25,g1,g2,hget,h0,e42,eFormR,eIntOf]
          try rfl
         ·simp only[numR,h1,h2,h19,h26,h27,h24,h25,g1,g2,BL]
          simp only[acall,macall,f44]
          simp only[go_sem,simprocAttr,c74_eq,h1,h2,h19,h26,h27,h24,h25,g1,g2,hget,h0,e42,eFormR,eIntOf]
          try rfl
      ·cases g1:decide (q < x.n)
       ·simp only[numR,h1,h2,h19,h26,h27,h24,g1,BL]
        simp only[acall,macall,f44]
        simp only[go_sem,simprocAttr,c74_eq,h1,h2,h19,h26,h27,h24,g1,hget,h0,e42,eFormR,eIntOf]
        try rfl
       ·cases g2:decide (x.n < (ops.length:Int))
        ·simp only[numR,h1,h2,h19,h26,h27,h24,g1,g2,BL]
         simp only[acall,macall,f44]
         simp only[go_sem,simprocAttr,c74_eq,h1,h2,h19,h26,h27,h24,g1,g2,hget,h0,e42,eFormR,eIntOf]
         try rfl
        ·simp only[numR,h1,h2,h19,h26,h27,h24,g1,g2,BL]
         simp only[acall,macall,f44]
         simp only[go_sem,simprocAttr,c74_eq,h1,h2,h19,h26,h27,h24,g1,g2,hget,h0,e42,eFormR,eIntOf]
         try rfl
     ·have e74:=c74_eq x.n
      cases hi:intOfF x.n with
      | none=>
        rw[hi] at e74
        simp only[eIntOf] at e74
        simp only[numR,hi,Option.isSome_none,h1,h2,h19,h26,h27,BL]
        simp only[acall,macall,f44]
        simp only[go_sem,simprocAttr,e74,h1,h2,h19,h26,h27,hget,h0,e42,eFormR,eIntOf]
        try rfl
      | some p=>
        obtain⟨p1,p2⟩:=p
        rw[hi] at e74
        simp only[eIntOf] at e74
        simp only[numR,hi,Option.isSome_some,h1,h2,h19,h26,h27,BL]
        simp only[acall,macall,f44]
        simp only[go_sem,simprocAttr,e74,h1,h2,h19,h26,h27,hget,h0,e42,eFormR,eIntOf]
        try rfl
    ·have e74:=c74_eq x.n
     cases hi:intOfF x.n with
     | none=>
       rw[hi] at e74
       simp only[eIntOf] at e74
       simp only[numR,hi,Option.isSome_none,h1,h2,h19,h26,BL]
       simp only[acall,macall,f44]
       simp only[go_sem,simprocAttr,e74,h1,h2,h19,h26,hget,h0,e42,eFormR,eIntOf]
       try rfl
     | some p=>
       obtain⟨p1,p2⟩:=p
       rw[hi] at e74
       simp only[eIntOf] at e74
       simp only[numR,hi,Option.isSome_some,h1,h2,h19,h26,BL]
       simp only[acall,macall,f44]
       simp only[go_sem,simprocAttr,e74,h1,h2,h19,h26,hget,h0,e42,eFormR,eIntOf]
       try rfl
   ·have e74:=c74_eq x.n
    cases hi:intOfF x.n with
    | none=>
      rw[hi] at e74
      simp only[eIntOf] at e74
      simp only[numR,hi,Option.isSome_none,h1,h2,h19,BL]
      simp only[acall,macall,f44]
      simp only[go_sem,simprocAttr,e74,h1,h2,h19,hget,h0,e42,eFormR,eIntOf]
      try rfl
    | some p=>
      obtain⟨p1,p2⟩:=p
      rw[hi] at e74
      simp only[eIntOf] at e74
      simp only[numR,hi,Option.isSome_some,h1,h2,h19,BL]
      simp only[acall,macall,f44]
      simp only[go_sem,simprocAttr,e74,h1,h2,h19,hget,h0,e42,eFormR,eIntOf]
      try rfl
  ·cases g1:decide (0≤x.n)
   ·simp only[numR,h1,h2,g1,BL]
    simp only[acall,macall,f44]
    simp only[go_sem,simprocAttr,c74_eq,h1,h2,g1,hget,h0,e42,eFormR,eIntOf]
    try rfl
   ·cases g2:decide (x.n < (strs.length:Int))
    ·simp only[numR,h1,h2,g1,g2,BL]
     simp only[acall,macall,f44]
     simp only[go_sem,simprocAttr,c74_eq,h1,h2,g1,g2,hget,h0,e42,eFormR,eIntOf]
     try rfl
    ·simp only[numR,h1,h2,g1,g2,BL]
     simp only[acall,macall,f44]
     simp only[go_sem,simprocAttr,c74_eq,h1,h2,g1,g2,hget,h0,e42,eFormR,eIntOf]
     try rfl
 ·cases g1:decide (0≤x.n)
  ·simp only[numR,h1,g1,BL]
   simp only[acall,macall,f44]
   simp only[go_sem,simprocAttr,c74_eq,h1,g1,hget,h0,e42,eFormR,eIntOf]
   try rfl
  ·cases g2:decide (x.n < (ints.length:Int))
   ·simp only[numR,h1,g1,g2,BL]
    simp only[acall,macall,f44]
    simp only[go_sem,simprocAttr,c74_eq,h1,g1,g2,hget,h0,e42,eFormR,eIntOf]
    try rfl
   ·simp only[numR,h1,g1,g2,BL]
    simp only[acall,macall,f44]
    simp only[go_sem,simprocAttr,c74_eq,h1,g1,g2,hget,h0,e42,eFormR,eIntOf]
    try rfl
noncomputable def c44:=famP (α:=(List XOp) × (List Int) × (List ByteArray) × (List XRel) × Int) (fun (ops,ints,strs,rels,q)=>(ops.length≤100000∧ints.length≤100000∧strs.length≤100000∧rels.length≤100000)∧0≤q∧q.toNat < ops.length) (fun (ops,ints,strs,rels,q)=>[(cd ops ints strs rels),.int .i64 q]) (fun (ops,ints,strs,rels,q)=> .bool (fitsF ops.length ints.length strs.length q (ops.getD q.toNat op0).op (ops.getD q.toNat op0).n))
theorem c44_eq (q:Int) (hp:(ops.length≤100000∧ints.length≤100000∧strs.length≤100000∧rels.length≤100000)∧0≤q∧q.toNat < ops.length):c44 [(cd ops ints strs rels),.int .i64 q]=some (.bool (fitsF ops.length ints.length strs.length q (ops.getD q.toNat op0).op (ops.getD q.toNat op0).n)):=fam_eq (fun X Y hp hp' h'=>by
 obtain⟨ops,ints,strs,rels,q⟩:=X;obtain⟨ops',ints',strs',rels',q'⟩:=Y;simp only[INJ] at h'
 obtain⟨rfl,rfl,rfl,rfl,rfl⟩:=h'
 rfl) (ops,ints,strs,rels,q) hp
theorem snd44:Snd 44 c44:=fam_snd h44 rfl rfl fun (ops,ints,strs,rels,q) hp=>rc h44 (fun A=>run44 ops ints strs rels q hp A) (fun _=>[]) rfl rfl rfl (by kernel_rfl) ⟨snd42,snd74,trivial⟩ trivial
def relOkR (ops:List XOp) (rels:List XRel) (i:Int):Bool:=
 let r:=rels.getD i.toNat ⟨0,0,⟨#[]⟩,⟨#[]⟩⟩
 if ((!(decide (0≤r.at_)&&decide (r.at_≤(ops.length:Int) - 1)) || (decide (0 < i)&&decide (r.at_≤(rels.getD (i - 1).toNat ⟨0,0,⟨#[]⟩,⟨#[]⟩⟩).at_))) || !nameF r.str)=true then false
 else
  let op:=(ops.getD r.at_.toNat ⟨0,0,0,0,0⟩).op
  if (r.kind==1)=true then op==1&&nameF r.mem
  else if (r.kind==2)=true then op==1&&(r.mem.toList==(⟨#[]⟩:ByteArray).toList)
  else if (r.kind==3)=true then op==26&&nameF r.mem else false
theorem relOk_r (ops:List XOp) (rels:List XRel) (i:Int):relOkF ops rels i=relOkR ops rels i:=by
 simp only[relOkF,relOkR,beq_iff_eq]
theorem h45:Tryz.prog.funcs[45]? = some f45:=by kernel_rfl
theorem run45 (i:Int) (hp:(ops.length≤100000∧ints.length≤100000∧strs.length≤100000∧rels.length≤100000)∧0≤i∧i.toNat < rels.length∧∀ r ∈ rels,r.str.size≤9223372036854775807∧r.mem.size≤9223372036854775807) (A:Nat→Prop):acall (env 81 4731616894096450257015 D0 [(75,c75)] [] A) (fun _=>{ tm:=[],ob:=[] }) (5) f45 [(cd ops ints strs rels),.int .i64 i]=some (.bool (relOkF ops rels i)):=by
 obtain⟨⟨hlo,hli,hls,hlr⟩,h0,hlt,hsz⟩:=hp
 have hget:=getD_get (d:=(⟨0,0,⟨#[]⟩,⟨#[]⟩⟩:XRel)) hlt
 have hmem:=List.mem_of_getElem? hget
 have hget1:0 < i→rels[(i - 1).toNat]? = some (rels.getD (i - 1).toNat ⟨0,0,⟨#[]⟩,⟨#[]⟩⟩):=fun h=>getD_get (by omega)
 have hw2:IntKind.i64.wrap (i - 1)=i - 1:=wrap_i64 (by omega) (by omega)
 rw[relOk_r]
 simp only[relOkR]
 obtain⟨r,hr⟩:∃ r,rels.getD i.toNat ⟨0,0,⟨#[]⟩,⟨#[]⟩⟩=r:=⟨_,rfl⟩
 obtain⟨r1,hr1⟩:∃ r,rels.getD (i - 1).toNat ⟨0,0,⟨#[]⟩,⟨#[]⟩⟩=r:=⟨_,rfl⟩
 have hs:=hsz _ hmem
 simp only[hr,hr1] at hget hget1 hs ⊢
 have e1:=c75_eq r.str hs.1
 have e2:=c75_eq r.mem hs.2
 obtain⟨n1,hn1⟩:∃ b,nameF r.str=b:=⟨_,rfl⟩
 obtain⟨n2,hn2⟩:∃ b,nameF r.mem=b:=⟨_,rfl⟩
 simp only[hn1,hn2] at e1 e2 ⊢
 have hbb:(decide (r.at_ < 0)=true∨decide ((ops.length:Int)≤r.at_)=true)→(decide (0≤r.at_)&&decide (r.at_≤(ops.length:Int) - 1))=false:=fun h=>by
  simp only[decide_eq_true_eq] at h
  simp only[Bool.and_eq_false_iff,decide_eq_false_iff_not]
  omega
 have hbc:decide (r.at_ < 0)=false→decide ((ops.length:Int)≤r.at_)=false→(decide (0≤r.at_)&&decide (r.at_≤(ops.length:Int) - 1))=true:=fun h1 h2=>by
  simp only[decide_eq_false_iff_not] at h1 h2
  simp only[Bool.and_eq_true,decide_eq_true_eq]
  omega
 cases b0:decide (r.at_ < 0)
 rotate_left
 ·have hb:=hbb (.inl b0)
  simp only[hb,BL]
  simp only[acall,macall,f45]
  simp only[go_sem,simprocAttr,b0,hget,h0]
  try rfl
 cases b1:decide ((ops.length:Int)≤r.at_)
 rotate_left
 ·have hb:=hbb (.inr b1)
  simp only[hb,BL]
  simp only[acall,macall,f45]
  simp only[go_sem,simprocAttr,b0,b1,hget,h0]
  try rfl
 have hb:=hbc b0 b1
 have h2:0≤r.at_:=by simp only[decide_eq_false_iff_not] at b0;omega
 have hgop:=getD_get (d:=op0) (show r.at_.toNat < ops.length by simp only[decide_eq_false_iff_not] at b1;omega)
 rw[show ops.getD r.at_.toNat ⟨0,0,0,0,0⟩=ops.getD r.at_.toNat op0 from rfl]
 generalize ops.getD r.at_.toNat op0=op at *
 by_cases hii:0 < i
 ·have hi:decide (0 < i)=true:=by simpa using hii
  have hget2:=hget1 hii
  have hi1:0≤i - 1:=by omega
  cases hc:decide (r.at_≤r1.at_)
  ·cases n1
   ·simp only[hb,hi,hc,BL]
    simp only[acall,macall,f45]
    simp only[go_sem,simprocAttr,b0,b1,hc,hget,h0,hi,e1,e2,hw2,hget2,hi1]
    try rfl
   ·cases k1:(r.kind==1)
    ·cases k2:(r.kind==2)
     ·cases k3:(r.kind==3)
      ·simp only[hb,hi,hc,k1,k2,k3,BL]
       simp only[acall,macall,f45]
       simp only[go_sem,simprocAttr,b0,b1,hc,k1,k2,k3,hget,h0,hi,e1,e2,hw2,hget2,hi1,hgop,h2]
       try rfl
      ·cases ho:(op.op==26)
       ·simp only[hb,hi,hc,k1,k2,k3,ho,BL]
        simp only[acall,macall,f45]
        simp only[go_sem,simprocAttr,b0,b1,hc,k1,k2,k3,ho,hget,h0,hi,e1,e2,hw2,hget2,hi1,hgop,h2]
        try rfl
       ·simp only[hb,hi,hc,k1,k2,k3,ho,BL]
        simp only[acall,macall,f45]
        simp only[go_sem,simprocAttr,b0,b1,hc,k1,k2,k3,ho,hget,h0,hi,e1,e2,hw2,hget2,hi1,hgop,h2]
        try rfl
     ·cases ho:(op.op==1)
      ·simp only[hb,hi,hc,k1,k2,ho,BL]
       simp only[acall,macall,f45]
       simp only[go_sem,simprocAttr,b0,b1,hc,k1,k2,ho,hget,h0,hi,e1,e2,hw2,hget2,hi1,hgop,h2]
       try rfl
      ·simp only[hb,hi,hc,k1,k2,ho,BL]
       simp only[acall,macall,f45]
       simp only[go_sem,simprocAttr,b0,b1,hc,k1,k2,ho,hget,h0,hi,e1,e2,hw2,hget2,hi1,hgop,h2]
       try rfl
    ·cases ho:(op.op==1)
     ·simp only[hb,hi,hc,k1,ho,BL]
      simp only[acall,macall,f45]
      simp only[go_sem,simprocAttr,b0,b1,hc,k1,ho,hget,h0,hi,e1,e2,hw2,hget2,hi1,hgop,h2]
      try rfl
     ·simp only[hb,hi,hc,k1,ho,BL]
      simp only[acall,macall,f45]
      simp only[go_sem,simprocAttr,b0,b1,hc,k1,ho,hget,h0,hi,e1,e2,hw2,hget2,hi1,hgop,h2]
      try rfl
  ·simp only[hb,hi,hc,BL]
   simp only[acall,macall,f45]
   simp only[go_sem,simprocAttr,b0,b1,hc,hget,h0,hi,e1,e2,hw2,hget2,hi1]
   try rfl
 ·have hi:decide (0 < i)=false:=by simpa using hii
  cases n1
  ·simp only[hb,hi,BL]
   simp only[acall,macall,f45]
   simp only[go_sem,simprocAttr,b0,b1,hget,h0,hi,e1,e2,hw2]
   try rfl
  ·cases k1:(r.kind==1)
   ·cases k2:(r.kind==2)
    ·cases k3:(r.kind==3)
     ·simp only[hb,hi,k1,k2,k3,BL]
      simp only[acall,macall,f45]
      simp only[go_sem,simprocAttr,b0,b1,k1,k2,k3,hget,h0,hi,e1,e2,hw2,hgop,h2]
      try rfl
     ·cases ho:(op.op==26)
      ·simp only[hb,hi,k1,k2,k3,ho,BL]
       simp only[acall,macall,f45]
       simp only[go_sem,simprocAttr,b0,b1,k1,k2,k3,ho,hget,h0,hi,e1,e2,hw2,hgop,h2]
       try rfl
      ·simp only[hb,hi,k1,k2,k3,ho,BL]
       simp only[acall,macall,f45]
       simp only[go_sem,simprocAttr,b0,b1,k1,k2,k3,ho,hget,h0,hi,e1,e2,hw2,hgop,h2]
       try rfl
    ·cases ho:(op.op==1)
     ·simp only[hb,hi,k1,k2,ho,BL]
      simp only[acall,macall,f45]
      simp only[go_sem,simprocAttr,b0,b1,k1,k2,ho,hget,h0,hi,e1,e2,hw2,hgop,h2]
      try rfl
     ·simp only[hb,hi,k1,k2,ho,BL]
      simp only[acall,macall,f45]
      simp only[go_sem,simprocAttr,b0,b1,k1,k2,ho,hget,h0,hi,e1,e2,hw2,hgop,h2]
      try rfl
   ·cases ho:(op.op==1)
    ·simp only[hb,hi,k1,ho,BL]
     simp only[acall,macall,f45]
     simp only[go_sem,simprocAttr,b0,b1,k1,ho,hget,h0,hi,e1,e2,hw2,hgop,h2]
     try rfl
    ·simp only[hb,hi,k1,ho,BL]
     simp only[acall,macall,f45]
     simp only[go_sem,simprocAttr,b0,b1,k1,ho,hget,h0,hi,e1,e2,hw2,hgop,h2]
     try rfl
noncomputable def c45:=famP (α:=(List XOp) × (List Int) × (List ByteArray) × (List XRel) × Int) (fun (ops,ints,strs,rels,i)=>(ops.length≤100000∧ints.length≤100000∧strs.length≤100000∧rels.length≤100000)∧0≤i∧i.toNat < rels.length∧∀ r ∈ rels,r.str.size≤9223372036854775807∧r.mem.size≤9223372036854775807) (fun (ops,ints,strs,rels,i)=>[(cd ops ints strs rels),.int .i64 i]) (fun (ops,ints,strs,rels,i)=> .bool (relOkF ops rels i))
theorem c45_eq (i:Int) (hp:(ops.length≤100000∧ints.length≤100000∧strs.length≤100000∧rels.length≤100000)∧0≤i∧i.toNat < rels.length∧∀ r ∈ rels,r.str.size≤9223372036854775807∧r.mem.size≤9223372036854775807):c45 [(cd ops ints strs rels),.int .i64 i]=some (.bool (relOkF ops rels i)):=fam_eq (fun X Y hp hp' h'=>by
 obtain⟨ops,ints,strs,rels,i⟩:=X;obtain⟨ops',ints',strs',rels',i'⟩:=Y;simp only[INJ] at h'
 obtain⟨rfl,rfl,rfl,rfl,rfl⟩:=h'
 rfl) (ops,ints,strs,rels,i) hp
theorem snd45:Snd 45 c45:=fam_snd h45 rfl rfl fun (ops,ints,strs,rels,i) hp=>rc h45 (fun A=>run45 ops ints strs rels i hp A) (fun i=>match i with | 2=>[0,1,3,7,15,31,15,79,207,511,1023,2047,4095,8191,16383,32767,65535,32767,163839,524287,1048575,2097151,32767,4227071,16777215,33554431,67108863,134217727,268435455,536870911,1073741823,2147483647,4294967295] | _=>[]) rfl rfl rfl (by kernel_rfl) ⟨snd75,trivial⟩ trivial
end Go.Proofs.Tryz
end
