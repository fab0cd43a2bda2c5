/- Part of the proof of one statement of this seat: an abstract machine for the program, its contracts, and the statement (no condition of our own). -/
import Derived.Lib.Strings
import Derived.Lib.Slices
import Derived.Lib.Walk
import Derived.Lib.Bytealg
import Derived.Test.YtbdbjpdlcemeaaaDoorDp05
set_option linter.unusedSimpArgs false
set_option linter.unusedVariables false
section
namespace Go.Proofs
open Go Go.Abs Go.RowKit
set_option maxHeartbeats 1000000 in
set_option maxRecDepth 100000 in
theorem Tryd.stringslite_IndexByte (s:ByteArray) (c:Int) (w:World) :
 Calls Tryd.prog 42 #[.string s,.int .u8 c] w fun e w'=>e = .returned (.int .i64 (Lib.indexByte s.data.toList c.toNat.toUInt8))∧w'=w:=by
 go_enter Tryd.func42,Tryd.ntmps42
 go_wp2
 rw[run_callFunc_extern Tryd.func58 (by kernel_rfl) (by kernel_rfl) (by kernel_rfl) (e:=Extern.BytealgIndexByte.indexByte) (by kernel_rfl),Lib.run_indexByteString];simp only[Result.andThen];rw[Oper.upon_value]
 go_wp2
 go_ret
 exact⟨rfl,rfl⟩
namespace Tryd
theorem h81:Tryd.prog.funcs[42]? = some f42:=by kernel_rfl
def indexByteF (s:ByteArray) (c:Int):Int:=Lib.indexByte s.data.toList c.toNat.toUInt8
theorem ret81 (s:ByteArray) (c:Int):Ret Tryd.prog ty G0 42 [.str s,.int .u8 c] (.int .i64 (indexByteF s c)):=by
 intro okA w vs hvs hG;have hlen:vs.length=2:=hvs.1.symm;obtain⟨a,b,rfl⟩:∃ a b,vs=[a,b]:=by
  match vs,hlen with
  | [a,b],_=>exact⟨a,b,rfl⟩
 have h1:LR ty w okA (.str s) a:=hvs.2 0 _ _ rfl rfl;have h2:LR ty w okA (.int .u8 c) b:=hvs.2 1 _ _ rfl rfl;cases h1;cases h2;refine Calls.mono (stringslite_IndexByte s c w) fun e w' he=>?_
 obtain⟨rfl,rfl⟩:=he;exact⟨_,rfl,Below.refl _ _,.int .i64 _⟩
end Tryd
end Go.Proofs
end
section
set_option maxHeartbeats 4000000
set_option maxRecDepth 20000
namespace Go.Proofs.Tryd
open Go Go.Abs
variable (ops : List XOp) (ints : List Int) (strs : List ByteArray) (rels : List XRel)
def R81 (l:List AV) (r:AV):Prop:=∃ (s:ByteArray) (c:Int),l=[.str s,.int .u8 c]∧r = .int .i64 (indexByteF s c)
noncomputable def c81:=famC R81
theorem c81_eq (s:ByteArray) (c:Int):c81 [.str s,.int .u8 c]=some (.int .i64 (indexByteF s c)):=by
 refine famC_eq (fun l r r'=>?_) ⟨s,c,rfl,rfl⟩;rintro⟨s,c,h,rfl⟩ ⟨s',c',h',rfl⟩;rw[h] at h';simp only[List.cons.injEq,AV.st.injEq,AV.sl.injEq,AV.int.injEq,AV.bool.injEq,AV.str.injEq,AV.ro.injEq,AV.fn.injEq,AV.own.injEq,Fl.mk.injEq,Prod.mk.injEq,Abs.Obj.mk.injEq,mOp_inj,mI_inj,mS_inj,mB_inj,mRel_inj,mStep_inj,mFacts_inj,mU_inj,and_true,true_and,and_assoc] at h';obtain⟨rfl,rfl⟩:=h';rfl
theorem snd81:Snd 42 c81:=fun l r h=>by
 obtain⟨s,c,rfl,rfl⟩:=famC_R h;exact⟨⟨f42,h81,rfl,by decide⟩,ret81 s c⟩
theorem h53:Tryd.prog.funcs[26]? = some f26:=by kernel_rfl
theorem run53 (s:ByteArray) (c:Int) (A:Nat→Prop):acall (env 8 19 D0 [(42,c81)] [] A) hN (5) f26 [.str s,.int .u8 c]=some (.int .i64 (indexByteF s c)):=by
 simp only[acall,macall,f26];simp only[go_sem,c81_eq]
noncomputable def c53:=famP (α:=ByteArray × Int) (fun _=>True) (fun (s,c)=>[.str s,.int .u8 c]) (fun (s,c)=> .int .i64 (indexByteF s c))
theorem c53_eq (s:ByteArray) (c:Int):c53 [.str s,.int .u8 c]=some (.int .i64 (indexByteF s c)):=fam_eq (fun X Y hp hp' h'=>by
 obtain⟨s,c⟩:=X;obtain⟨s',c'⟩:=Y;simp only[INJ] at h';obtain⟨rfl,rfl⟩:=h';rfl) (s,c) trivial
theorem snd53:Snd 26 c53:=fam_snd h53 rfl rfl fun (s,c) _=>rc h53 (fun A=>run53 s c A) (fun _=>[]) rfl rfl rfl (by kernel_rfl) ⟨snd81,trivial⟩ trivial
def letterF (y:Int):Bool:=y==95 || (decide (97≤IntKind.i64.wrap (bits2 .or .u8 y 32))&&decide (IntKind.i64.wrap (bits2 .or .u8 y 32)≤122))
def digitF (y:Int):Bool:=decide (48≤IntKind.i64.wrap y)&&decide (IntKind.i64.wrap y≤57)
def badF (i:Nat) (y:Int):Bool:= !letterF y&&(decide (i=0) || !digitF y)
def okFrom:List UInt8→Nat→Bool
 | [],_=>true
 | y::r,i=>if badF i y.toNat=true then false else okFrom r (i+1)
def nameF (s:ByteArray):Bool:=okFrom s.data.toList 0&&(!(s.toList==(⟨#[]⟩:ByteArray).toList)&&decide (s.size≤31))
theorem ba_get (s:ByteArray) (i:Nat) (h:i < s.size):s[i]? = some (s.data.toList[i]'(by simpa using h)):=by
 rw[getElem?_pos s i h];rfl
theorem h85:Tryd.prog.funcs[46]? = some f46:=by kernel_rfl
theorem loop85 (s:ByteArray) (hlim:s.size≤9223372036854775807) (A:Nat→Prop) (k:Nat):∀ (m i:Nat) (σ:St),i+m=s.size→
 σ.keep ({ tm:=[0,3],ob:=[],fin:=some ([0,2],[]) }:Hint)=⟨[(0,.str s),(3,.int .i64 i)],[]⟩→
 post ({ tm:=[0,3],ob:=[],fin:=some ([0,2],[]) }:Hint) (aloop ty (arun (env 42 17179869757 D0 [(25,c52)] [] A) (fun _=>({ tm:=[0,3],ob:=[],fin:=some ([0,2],[]) }:Hint)) k (sub (f46.body.getD .skip) [1,0,1,0,0])) ({ tm:=[0,3],ob:=[],fin:=some ([0,2],[]) }:Hint) (m+1) σ) =
 some (if okFrom (s.data.toList.drop i) i=true then (.exit 0,⟨[(0,.str s)],[]⟩) else (.ret,⟨[(0,.str s),(2,.bool false)],[]⟩)):=by
 simp only[f46,sub,Option.getD_some];have hsz:s.size=s.data.toList.length:=by simp
 intro m
 induction m with
 | zero=>
   intro i σ hi hσ;have h1:¬ ((i:Int) < (s.size:Int)):=by omega
   rw[aloop,hσ];simp only[go_sem,h1];rw[List.drop_of_length_le (by omega)];simp[post,St.fin,keepL,aget,okFrom]
 | succ m ih=>
   intro i σ hi hσ;have h1:(i:Int) < (s.size:Int):=by omega
   have hlt:i < s.size:=by omega
   have hget:=ba_get s i hlt;have hw:IntKind.i64.wrap ((i:Int)+1)=((i+1:Nat):Int):=by rw[wrap_i64 (by omega) (by omega)];omega
   have hd:s.data.toList.drop i=s.data.toList[i]::s.data.toList.drop (i+1):=List.drop_eq_getElem_cons (by omega);rw[aloop,hσ,hd];generalize s.data.toList[i]=y at *;have hb:badF i y.toNat=(!letterF y.toNat&&(decide (i=0) || !digitF y.toNat)):=rfl;have hz:(((i:Nat):Int)==0)=decide (i=0):=by
    by_cases e:i=0
    ·subst e;rfl
    ·simp[e]
   have hz95:(((y.toNat:Nat):Int)==95)=(((y.toNat:Nat):Int)==95):=rfl;simp only[letterF,digitF] at hb;generalize hl1:(((y.toNat:Nat):Int)==95)=b1 at *;generalize hl2:(decide (97≤IntKind.i64.wrap (bits2 .or .u8 y.toNat 32))&&decide (IntKind.i64.wrap (bits2 .or .u8 y.toNat 32)≤122))=b2 at *;generalize hl3:(decide (48≤IntKind.i64.wrap (y.toNat:Int))&&decide (IntKind.i64.wrap (y.toNat:Int)≤57))=b3 at *;generalize hl4:decide (i=0)=b4 at *;cases b1 <;> cases b2 <;> cases b4 <;> cases b3;all_goals
    simp only[BL] at hb;simp only[go_sem,h1,hget,hw,hz,c52_eq,hl1,hl2,hl3,hl4];simp only[okFrom,hb,BL];first
    | (simp[post,St.fin,keepL,aget];done)
    | exact ih (i+1) _ (by omega) (by simp only[go_sem])
theorem run85 (s:ByteArray) (hp:s.size≤9223372036854775807) (A:Nat→Prop):acall (env 42 17179869757 D0 [(25,c52)] [] A) (fun _=>({ tm:=[0,3],ob:=[],fin:=some ([0,2],[]) }:Hint)) (s.size+1) f46 [.str s]=some (.bool (nameF s)):=by
 have hl:=loop85 s hp A (s.size+1) s.size 0;simp only[f46,sub,Option.getD_some,List.drop_zero] at hl;have hq:decide ((s.size:Int)≤31)=decide (s.size≤31):=by by_cases e:s.size≤31 <;> simp[e] <;> omega
 simp only[nameF];simp only[acall,macall,f46];simp only[go_sem,c52_eq];rw[hl _ (by simp) (by simp only[go_sem])];cases h:okFrom s.data.toList 0
 ·simp only[go_sem,c52_eq]
 ·cases h2:(s.toList==(⟨#[]⟩:ByteArray).toList)
  all_goals
   simp only[go_sem,c52_eq,h2,hq]
noncomputable def c85:=famP (α:=ByteArray) (fun s=>s.size≤9223372036854775807) (fun s=>[.str s]) (fun s=> .bool (nameF s))
theorem c85_eq (s:ByteArray) (hp:s.size≤9223372036854775807):c85 [.str s]=some (.bool (nameF s)):=fam_eq (fun s s' hp hp' h'=>by
 simp only[INJ] at h';obtain rfl:=h';rfl) (s) hp
theorem snd85:Snd 46 c85:=fam_snd h85 rfl rfl fun s hp=>rc h85 (fun A=>run85 s hp A) (fun _=>[]) rfl rfl rfl (by kernel_rfl) ⟨snd52,trivial⟩ trivial
def relOkF (ops:List XOp) (rels:List XRel) (i:Int):Bool:=
 let r:=rels.getD i.toNat ⟨0,0,⟨#[]⟩,⟨#[]⟩⟩
 if ((!(decide (0≤r.at_)&&decide (r.at_≤(ops.length:Int) - 1)) || (decide (0 < i)&&decide (r.at_≤(rels.getD (i - 1).toNat ⟨0,0,⟨#[]⟩,⟨#[]⟩⟩).at_))) || !nameF r.str)=true then false
 else
  let op:=(ops.getD r.at_.toNat ⟨0,0,0,0,0⟩).op
  if r.kind=1 then op==1&&nameF r.mem
  else if r.kind=2 then op==1&&(r.mem.toList==(⟨#[]⟩:ByteArray).toList)
  else if r.kind=3 then op==26&&nameF r.mem else false
theorem h55:Tryd.prog.funcs[28]? = some f28:=by kernel_rfl
theorem run55 (i:Int) (hp:ops.length≤100000∧rels.length≤100000∧0≤i∧i.toNat < rels.length∧∀ r ∈ rels,r.str.size≤9223372036854775807∧r.mem.size≤9223372036854775807) (A:Nat→Prop):acall (env 78 591452111762056282231 D0 [(25,c52),(46,c85)] [] A) hN (5) f28 [(cd ops ints strs rels),.int .i64 i]=some (.bool (relOkF ops rels i)):=by
 obtain⟨hlo,hlr,h0,hlt,hsz⟩:=hp;have hget:=getD_get (d:=(⟨0,0,⟨#[]⟩,⟨#[]⟩⟩:XRel)) hlt;have hmem:=List.mem_of_getElem? hget;have hget1:0 < i→rels[(i - 1).toNat]? = some (rels.getD (i - 1).toNat ⟨0,0,⟨#[]⟩,⟨#[]⟩⟩):=fun h=>getD_get (by omega)
 have hw1:IntKind.i64.wrap ((ops.length:Int) - 1)=(ops.length:Int) - 1:=wrap_i64 (by omega) (by omega);have hw2:IntKind.i64.wrap (i - 1)=i - 1:=wrap_i64 (by omega) (by omega);simp only[relOkF];obtain⟨r,hr⟩:∃ r,rels.getD i.toNat ⟨0,0,⟨#[]⟩,⟨#[]⟩⟩=r:=⟨_,rfl⟩
 obtain⟨r1,hr1⟩:∃ r,rels.getD (i - 1).toNat ⟨0,0,⟨#[]⟩,⟨#[]⟩⟩=r:=⟨_,rfl⟩
 have hs:=hsz _ hmem;simp only[hr,hr1] at hget hget1 hs ⊢;have e1:=c85_eq r.str hs.1;have e2:=c85_eq r.mem hs.2;have e52:=c52_eq r.at_ 0 ((ops.length:Int) - 1);obtain⟨n1,hn1⟩:∃ b,nameF r.str=b:=⟨_,rfl⟩
 obtain⟨n2,hn2⟩:∃ b,nameF r.mem=b:=⟨_,rfl⟩
 obtain⟨b1,hb1⟩:∃ b,(decide (0≤r.at_)&&decide (r.at_≤(ops.length:Int) - 1))=b:=⟨_,rfl⟩
 simp only[hn1,hn2,hb1] at e1 e2 e52 ⊢;cases b1
 ·simp only[BL];simp only[acall,macall,f28];simp only[go_sem,e52,hget,h0,hw1]
 simp only[Bool.and_eq_true,decide_eq_true_eq] at hb1;have h2:0≤r.at_:=hb1.1;have hgop:=getD_get (d:=(⟨0,0,0,0,0⟩:XOp)) (show r.at_.toNat < ops.length by omega);obtain⟨op,hop⟩:∃ o,ops.getD r.at_.toNat ⟨0,0,0,0,0⟩=o:=⟨_,rfl⟩
 simp only[hop] at hgop ⊢;have fin:∀ (G:Prop),(n1=true→((0 < i)=True∧decide (r.at_≤r1.at_)=false∨(0 < i)=False)→G)→(n1=false∨((0 < i)=True∧decide (r.at_≤r1.at_)=true)→G)→G:=fun G hA hB=>by
  cases n1
  ·exact hB (.inl rfl)
  ·by_cases hi:0 < i
   ·cases hc:decide (r.at_≤r1.at_)
    ·exact hA rfl (.inl ⟨by simp[hi],hc⟩)
    ·exact hB (.inr ⟨by simp[hi],hc⟩)
   ·exact hA rfl (.inr (by simp[hi]))
 refine fin _ (fun hn hA=>?_) fun hB=>?_
 ·subst hn;rcases hA with ⟨hi,hc⟩ | hi
  all_goals
   first
   | (have hget2:=hget1 (of_eq_true hi)
      have hi1:0≤i - 1:=by have:=of_eq_true hi;omega
      simp only[hi,hc,BL])
   | simp only[hi,BL]
   by_cases k1:r.kind=1
   ·cases ho:(op.op==1)
    all_goals
     simp only[k1,ho,BL];simp only[acall,macall,f28];first | (simp only[go_sem,e52,e1,e2,hget,hgop,h0,h2,hi,hw1,hw2,hget2,hi1,hc,ho,k1];done) | (simp only[go_sem,e52,e1,e2,hget,hgop,h0,h2,hi,hw1,hw2,ho,k1];done)
   by_cases k2:r.kind=2
   ·cases ho:(op.op==1)
    all_goals
     simp only[k2,ho,BL];simp only[acall,macall,f28];first | (simp only[go_sem,e52,e1,e2,hget,hgop,h0,h2,hi,hw1,hw2,hget2,hi1,hc,ho,k2];done) | (simp only[go_sem,e52,e1,e2,hget,hgop,h0,h2,hi,hw1,hw2,ho,k2];done)
   by_cases k3:r.kind=3
   ·cases ho:(op.op==26)
    all_goals
     simp only[k3,ho,BL];simp only[acall,macall,f28];first | (simp only[go_sem,e52,e1,e2,hget,hgop,h0,h2,hi,hw1,hw2,hget2,hi1,hc,ho,k3];done) | (simp only[go_sem,e52,e1,e2,hget,hgop,h0,h2,hi,hw1,hw2,ho,k3];done)
   ·have q1:(r.kind==1)=false:=by simp[k1]
    have q2:(r.kind==2)=false:=by simp[k2]
    have q3:(r.kind==3)=false:=by simp[k3]
    simp only[k1,k2,k3,BL];simp only[acall,macall,f28];first | (simp only[go_sem,e52,e1,e2,hget,hgop,h0,h2,hi,hw1,hw2,hget2,hi1,hc,q1,q2,q3];done) | (simp only[go_sem,e52,e1,e2,hget,hgop,h0,h2,hi,hw1,hw2,q1,q2,q3];done)
 ·by_cases hi:0 < i
  ·have hget2:=hget1 hi;have hi1:0≤i - 1:=by omega
   cases hc:decide (r.at_≤r1.at_)
   ·have hn:n1=false:=by
     rcases hB with h | h
     ·exact h
     ·rw[hc] at h;cases h.2
    subst hn;simp only[hi,hc,BL];simp only[acall,macall,f28];simp only[go_sem,e52,e1,e2,hget,hgop,h0,h2,hi,hw1,hw2,hget2,hi1,hc]
   ·simp only[hi,hc,BL];simp only[acall,macall,f28];simp only[go_sem,e52,e1,e2,hget,hgop,h0,h2,hi,hw1,hw2,hget2,hi1,hc]
  ·have hn:n1=false:=by
    rcases hB with h | h
    ·exact h
    ·exact absurd (of_eq_true h.1) hi
   subst hn;simp only[hi,BL];simp only[acall,macall,f28];simp only[go_sem,e52,e1,e2,hget,hgop,h0,h2,hi,hw1,hw2]
noncomputable def c55:=famP (α:=(List XOp) × (List Int) × (List ByteArray) × (List XRel) × Int) (fun (ops,ints,strs,rels,i)=>ops.length≤100000∧rels.length≤100000∧0≤i∧i.toNat < rels.length∧∀ r ∈ rels,r.str.size≤9223372036854775807∧r.mem.size≤9223372036854775807) (fun (ops,ints,strs,rels,i)=>[(cd ops ints strs rels),.int .i64 i]) (fun (ops,ints,strs,rels,i)=> .bool (relOkF ops rels i))
theorem c55_eq (i:Int) (hp:ops.length≤100000∧rels.length≤100000∧0≤i∧i.toNat < rels.length∧∀ r ∈ rels,r.str.size≤9223372036854775807∧r.mem.size≤9223372036854775807):c55 [(cd ops ints strs rels),.int .i64 i]=some (.bool (relOkF ops rels i)):=fam_eq (fun X Y hp hp' h'=>by
 obtain⟨ops,ints,strs,rels,i⟩:=X;obtain⟨ops',ints',strs',rels',i'⟩:=Y;simp only[INJ] at h';obtain⟨rfl,rfl,rfl,rfl,rfl⟩:=h';rfl) (ops,ints,strs,rels,i) hp
theorem snd55:Snd 28 c55:=fam_snd h55 rfl rfl fun (ops,ints,strs,rels,i) hp=>rc h55 (fun A=>run55 ops ints strs rels i hp A) (fun i=>match i with | 2=>[0,1,0,4,12,28,63,127,255,511,1023,2047,4095,8191,4095,20479,65535,131071,262143,4095,528383,2097151,4194303,8388607,16777215,33554431,67108863,134217727,268435455,536870911] | _=>[]) rfl rfl rfl (by kernel_rfl) ⟨snd52,snd85,trivial⟩ trivial
def inF (lo hi n:Int):Bool:=decide (lo≤n)&&decide (n≤hi)
def fitsF (lo li ls:Nat) (q:Int) (o n:Int):Bool:=
 if (o==1)=true then inF 0 ((li:Int) - 1) n else if (o==2)=true then inF 0 ((ls:Int) - 1) n
 else if (o==19)=true then (intOfF n).isSome else if (o==26)=true then (intOfF n).isSome else if (o==27)=true then (intOfF n).isSome
 else if (o==24)=true then inF (q+1) ((lo:Int) - 1) n else if (o==25)=true then inF (q+1) ((lo:Int) - 1) n
 else if (o==28)=true then inF 1 13 n else if (o==29)=true then inF 0 5 n else if (o==39)=true then inF 1 8 n
 else if (formF o).n=true then inF 0 19 n else n==0
theorem h84:Tryd.prog.funcs[45]? = some f45:=by kernel_rfl
theorem run84 (q:Int) (o d a b n:Int) (hp:(LM ops ints strs rels)∧0≤q∧q≤100000) (A:Nat→Prop):acall (env 77 1185351926623591468399 D0 [(59,c108),(60,c109),(43,c82)] [] A) hN (5) f45 [(cd ops ints strs rels),.int .i64 q,.st 36 [.int .i64 o,.int .i64 d,.int .i64 a,.int .i64 b,.int .i64 n]]=some (.bool (fitsF ops.length ints.length strs.length q o n)):=by
 obtain⟨⟨hlo,hli,hls,hlr⟩,h0q,hqq⟩:=hp;have hwi:IntKind.i64.wrap ((ints.length:Int) - 1)=(ints.length:Int) - 1:=wrap_i64 (by omega) (by omega);have hws:IntKind.i64.wrap ((strs.length:Int) - 1)=(strs.length:Int) - 1:=wrap_i64 (by omega) (by omega);have hwo:IntKind.i64.wrap ((ops.length:Int) - 1)=(ops.length:Int) - 1:=wrap_i64 (by omega) (by omega);have hwq:IntKind.i64.wrap (q+1)=q+1:=wrap_i64 (by omega) (by omega);cases h1:(o==1)
 rotate_left
 ·simp only[fitsF,inF,h1,BL];simp only[acall,macall,f45];simp only[go_sem,c108_eq,c109_eq,c82_eq,h1,hwi,hws,hwo,hwq,eIntOf];try rfl
 cases h2:(o==2)
 rotate_left
 ·simp only[fitsF,inF,h1,h2,BL];simp only[acall,macall,f45];simp only[go_sem,c108_eq,c109_eq,c82_eq,h1,h2,hwi,hws,hwo,hwq,eIntOf];try rfl
 cases h3:(o==19)
 rotate_left
 ·simp only[fitsF,inF,h1,h2,h3,BL];simp only[acall,macall,f45];have e109:=c109_eq n;cases hi:intOfF n with
  | none=>
    rw[hi] at e109;simp only[go_sem,c108_eq,e109,c82_eq,h1,h2,h3,hwi,hws,hwo,hwq,eIntOf,hi];try rfl
  | some p=>
    obtain⟨p1,p2⟩:=p;rw[hi] at e109;simp only[go_sem,c108_eq,e109,c82_eq,h1,h2,h3,hwi,hws,hwo,hwq,eIntOf,hi];try rfl
  try rfl
 cases h4:(o==26)
 rotate_left
 ·simp only[fitsF,inF,h1,h2,h3,h4,BL];simp only[acall,macall,f45];have e109:=c109_eq n;cases hi:intOfF n with
  | none=>
    rw[hi] at e109;simp only[go_sem,c108_eq,e109,c82_eq,h1,h2,h3,h4,hwi,hws,hwo,hwq,eIntOf,hi];try rfl
  | some p=>
    obtain⟨p1,p2⟩:=p;rw[hi] at e109;simp only[go_sem,c108_eq,e109,c82_eq,h1,h2,h3,h4,hwi,hws,hwo,hwq,eIntOf,hi];try rfl
  try rfl
 cases h5:(o==27)
 rotate_left
 ·simp only[fitsF,inF,h1,h2,h3,h4,h5,BL];simp only[acall,macall,f45];have e109:=c109_eq n;cases hi:intOfF n with
  | none=>
    rw[hi] at e109;simp only[go_sem,c108_eq,e109,c82_eq,h1,h2,h3,h4,h5,hwi,hws,hwo,hwq,eIntOf,hi];try rfl
  | some p=>
    obtain⟨p1,p2⟩:=p;rw[hi] at e109;simp only[go_sem,c108_eq,e109,c82_eq,h1,h2,h3,h4,h5,hwi,hws,hwo,hwq,eIntOf,hi];try rfl
  try rfl
 cases h6:(o==24)
 rotate_left
 ·simp only[fitsF,inF,h1,h2,h3,h4,h5,h6,BL];simp only[acall,macall,f45];simp only[go_sem,c108_eq,c109_eq,c82_eq,h1,h2,h3,h4,h5,h6,hwi,hws,hwo,hwq,eIntOf];try rfl
 cases h7:(o==25)
 rotate_left
 ·simp only[fitsF,inF,h1,h2,h3,h4,h5,h6,h7,BL];simp only[acall,macall,f45];simp only[go_sem,c108_eq,c109_eq,c82_eq,h1,h2,h3,h4,h5,h6,h7,hwi,hws,hwo,hwq,eIntOf];try rfl
 cases h8:(o==28)
 rotate_left
 ·simp only[fitsF,inF,h1,h2,h3,h4,h5,h6,h7,h8,BL];simp only[acall,macall,f45];simp only[go_sem,c108_eq,c109_eq,c82_eq,h1,h2,h3,h4,h5,h6,h7,h8,hwi,hws,hwo,hwq,eIntOf];try rfl
 cases h9:(o==29)
 rotate_left
 ·simp only[fitsF,inF,h1,h2,h3,h4,h5,h6,h7,h8,h9,BL];simp only[acall,macall,f45];simp only[go_sem,c108_eq,c109_eq,c82_eq,h1,h2,h3,h4,h5,h6,h7,h8,h9,hwi,hws,hwo,hwq,eIntOf];try rfl
 cases h10:(o==39)
 rotate_left
 ·simp only[fitsF,inF,h1,h2,h3,h4,h5,h6,h7,h8,h9,h10,BL];simp only[acall,macall,f45];simp only[go_sem,c108_eq,c109_eq,c82_eq,h1,h2,h3,h4,h5,h6,h7,h8,h9,h10,hwi,hws,hwo,hwq,eIntOf];try rfl
 cases h11:(formF o).n;rotate_left
 ·simp only[fitsF,inF,h1,h2,h3,h4,h5,h6,h7,h8,h9,h10,h11,BL];simp only[acall,macall,f45];simp only[go_sem,c108_eq,c109_eq,c82_eq,h1,h2,h3,h4,h5,h6,h7,h8,h9,h10,h11,hwi,hws,hwo,hwq,eIntOf];try rfl
 simp only[fitsF,inF,h1,h2,h3,h4,h5,h6,h7,h8,h9,h10,h11,BL];simp only[acall,macall,f45];simp only[go_sem,c108_eq,c109_eq,c82_eq,h1,h2,h3,h4,h5,h6,h7,h8,h9,h10,h11,hwi,hws,hwo,hwq,eIntOf];try rfl
noncomputable def c84:=famP (α:=(List XOp) × (List Int) × (List ByteArray) × (List XRel) × Int × Int × Int × Int × Int × Int) (fun (ops,ints,strs,rels,q,o,d,a,b,n)=>(LM ops ints strs rels)∧0≤q∧q≤100000) (fun (ops,ints,strs,rels,q,o,d,a,b,n)=>[(cd ops ints strs rels),.int .i64 q,.st 36 [.int .i64 o,.int .i64 d,.int .i64 a,.int .i64 b,.int .i64 n]]) (fun (ops,ints,strs,rels,q,o,d,a,b,n)=> .bool (fitsF ops.length ints.length strs.length q o n))
theorem c84_eq (q:Int) (o d a b n:Int) (hp:(LM ops ints strs rels)∧0≤q∧q≤100000):c84 [(cd ops ints strs rels),.int .i64 q,.st 36 [.int .i64 o,.int .i64 d,.int .i64 a,.int .i64 b,.int .i64 n]]=some (.bool (fitsF ops.length ints.length strs.length q o n)):=fam_eq (fun X Y hp hp' h'=>by
 obtain⟨ops,ints,strs,rels,q,o,d,a,b,n⟩:=X;obtain⟨ops',ints',strs',rels',q',o',d',a',b',n'⟩:=Y;simp only[INJ] at h';obtain⟨rfl,rfl,rfl,rfl,rfl,rfl,rfl,rfl,rfl,rfl⟩:=h';rfl) (ops,ints,strs,rels,q,o,d,a,b,n) hp
theorem snd84:Snd 45 c84:=fam_snd h84 rfl rfl fun (ops,ints,strs,rels,q,o,d,a,b,n) hp=>rc h84 (fun A=>run84 ops ints strs rels q o d a b n hp A) (fun _=>[]) rfl rfl rfl (by kernel_rfl) ⟨snd108,snd109,snd82,trivial⟩ trivial
def unusedF (ops:List XOp) (alive:List Int) (q:Int):Bool:=
 let o:=ops.getD q.toNat op0
 pureF o.op&&(decide (q+1 < (ops.length:Int))&& !(hasF (alive.getD (q+1).toNat 0) o.d))
def deadF (ops:List XOp) (ints:List Int) (strs:List ByteArray) (rels:List XRel) (alive:List Int) (q:Int):Option XCode:=
 let o:=ops.getD q.toNat op0
 if (!(unusedF ops alive q)&&(!(o.op==3) || !(o.d==o.a)))=true then none else some (removedF ops ints strs rels q)
theorem h91:Tryd.prog.funcs[52]? = some f52:=by kernel_rfl
theorem run91 (before:List (List XFact)) (reached:List Bool) (alive:List Int) (q:Int) (hp:((LM ops ints strs rels)∧0≤q∧q.toNat < ops.length∧(∀ o ∈ ops,o.n < 9223372036854775808)∧(∀ r ∈ rels,r.at_ < 9223372036854775808))∧alive.length=ops.length∧∀ o ∈ ops,0≤o.d) :∃ r,wk r (eOut (deadF ops ints strs rels alive q))∧∀ A,acall (env 63 72057594037928179 D0 [(69,c117),(70,c48),(71,c118)] [] A) hN (5) f52 [(wv ops ints strs rels before reached alive),.int .i64 q]=some r:=by
 obtain⟨hp1,hj⟩:=hp;have hlim:=hp1.1;have h0:=hp1.2.1;have hlt:=hp1.2.2.1;have hwq:IntKind.i64.wrap (q+1)=q+1:=wrap_i64 (by omega) (by omega);have e118:=c118_eq ops ints strs rels before reached alive q hp1;have hget:=getD_get (d:=op0) hlt;obtain⟨hal,hd⟩:=hj;have hmem:ops.getD q.toNat op0 ∈ ops:=List.mem_of_getElem? hget;have hdx:=hd _ hmem;have h01:0≤q+1:=by omega
 have hget2:q+1 < (ops.length:Int)→alive[(q+1).toNat]? = some (alive.getD (q+1).toNat 0):=fun h=>getD_get (by omega)
 simp only[deadF,unusedF];obtain⟨x,hx⟩:∃ x,ops.getD q.toNat op0=x:=⟨_,rfl⟩
 obtain⟨s,hs0⟩:∃ s,alive.getD (q+1).toNat 0=s:=⟨_,rfl⟩
 simp only[hx,hs0] at hmem hdx hget hget2 ⊢;have e48:=c48_eq s x.d hdx;have e117:=c117_eq x.op x.d x.a x.b x.n;obtain⟨hs,hs1⟩:∃ hs,hasF s x.d=hs:=⟨_,rfl⟩
 obtain⟨pu,pu1⟩:∃ pu,pureF x.op=pu:=⟨_,rfl⟩
 simp only[hs1,pu1] at e48 e117 ⊢;cases pu <;> cases h2:decide (q+1 < (ops.length:Int)) <;> cases hs;all_goals
  simp only[decide_eq_true_eq,decide_eq_false_iff_not] at h2;simp only[BL];first
  | (have hget3:=hget2 h2
     apply wkI
     ·intro A;simp only[acall,macall,f52];simp only[go_sem,e48,e117,e118,hget,hget3,h2,h0,h01,hwq];try rfl
     ·simp[WK,eOut,eCode,removedF]
     done)
  | (cases h4:(x.op==3) <;> cases h5:(x.d==x.a)
     all_goals
      simp only[BL];first
      | (
         apply wkI
         ·intro A;simp only[acall,macall,f52];simp only[go_sem,e117,hget,h2,h4,h5,h0,h01,hwq];try rfl
         ·simp[WK,eOut,eCode]
         done)
      | (
         apply wkI
         ·intro A;simp only[acall,macall,f52];simp only[go_sem,e117,e118,hget,h2,h4,h5,h0,h01,hwq];try rfl
         ·simp[WK,eOut,eCode,removedF]
         done)
      | (have hget3:=hget2 h2
         apply wkI
         ·intro A;simp only[acall,macall,f52];simp only[go_sem,e48,e117,hget,hget3,h2,h4,h5,h0,h01,hwq];try rfl
         ·simp[WK,eOut,eCode]
         done)
      | (have hget3:=hget2 h2
         apply wkI
         ·intro A;simp only[acall,macall,f52];simp only[go_sem,e48,e117,e118,hget,hget3,h2,h4,h5,h0,h01,hwq];try rfl
         ·simp[WK,eOut,eCode,removedF]
         done))
noncomputable def c91:=famP (α:=(List XOp) × (List Int) × (List ByteArray) × (List XRel) × (List (List XFact)) × (List Bool) × (List Int) × Int) (fun (ops,ints,strs,rels,before,reached,alive,q)=>((LM ops ints strs rels)∧0≤q∧q.toNat < ops.length∧(∀ o ∈ ops,o.n < 9223372036854775808)∧(∀ r ∈ rels,r.at_ < 9223372036854775808))∧alive.length=ops.length∧∀ o ∈ ops,0≤o.d) (fun (ops,ints,strs,rels,before,reached,alive,q)=>[(wv ops ints strs rels before reached alive),.int .i64 q]) (fun (ops,ints,strs,rels,before,reached,alive,q)=>eOut (deadF ops ints strs rels alive q))
theorem c91_eq (before:List (List XFact)) (reached:List Bool) (alive:List Int) (q:Int) (hp:((LM ops ints strs rels)∧0≤q∧q.toNat < ops.length∧(∀ o ∈ ops,o.n < 9223372036854775808)∧(∀ r ∈ rels,r.at_ < 9223372036854775808))∧alive.length=ops.length∧∀ o ∈ ops,0≤o.d):c91 [(wv ops ints strs rels before reached alive),.int .i64 q]=some (eOut (deadF ops ints strs rels alive q)):=fam_eq (fun X Y hp hp' h'=>by
 obtain⟨ops,ints,strs,rels,before,reached,alive,q⟩:=X;obtain⟨ops',ints',strs',rels',before',reached',alive',q'⟩:=Y;simp only[INJ] at h';obtain⟨rfl,rfl,rfl,rfl,rfl,rfl,rfl,rfl⟩:=h';rfl) (ops,ints,strs,rels,before,reached,alive,q) hp
theorem snd91:Snd 52 c91:=fam_snd h91 rfl rfl fun (ops,ints,strs,rels,before,reached,alive,q) hp=>let ⟨_,hw,hr⟩:=run91 ops ints strs rels before reached alive q hp;(rc h91 hr (fun i=>match i with | 2=>[0,1,3,7,15,7,39,103,231,487,999,2047,4095,8191,16383,32767,65535,131071,16383,278527,1048575,2097151,16383,4210687,16777215,33554431,67108863,134217727] | _=>[]) rfl rfl rfl (by kernel_rfl) ⟨snd117,snd48,snd118,trivial⟩ trivial).weak hw
def regF (has:Bool) (n:Int):Bool:=(has&&(decide (0≤n)&&decide (n≤7))) || (!has&&n==0)
theorem regF_eq (has:Bool) (n:Int):((has&&(decide (0≤n)&&decide (n≤7))) || (!has&&n==0))=regF has n:=rfl
def rightF (ops:List XOp) (li ls:Nat) (q:Int):Bool:=
 let o:=ops.getD q.toNat op0
 if (!((formF o.op).name.toList==(⟨#[]⟩:ByteArray).toList))=true then
  (if regF (formF o.op).d o.d=true then (if regF (formF o.op).a o.a=true then (if regF (formF o.op).b o.b=true then fitsF ops.length li ls q o.op o.n else false) else false) else false) else false
theorem h54:Tryd.prog.funcs[27]? = some f27:=by kernel_rfl
theorem run54 (q:Int) (hp:(LM ops ints strs rels)∧0≤q∧q.toNat < ops.length) (A:Nat→Prop):acall (env 49 247 D0 [(43,c82),(44,c83),(45,c84)] [] A) hN (5) f27 [(cd ops ints strs rels),.int .i64 q]=some (.bool (rightF ops ints.length strs.length q)):=by
 obtain⟨hl,h0,hlt⟩:=hp;have hget:=getD_get (d:=op0) hlt;simp only[rightF];obtain⟨x,hx⟩:∃ x,ops.getD q.toNat op0=x:=⟨_,rfl⟩
 simp only[hx] at hget ⊢;have e82:=c82_eq x.op;have e83d:=c83_eq (formF x.op).d x.d;have e83a:=c83_eq (formF x.op).a x.a;have e83b:=c83_eq (formF x.op).b x.b;have e84:=c84_eq ops ints strs rels q x.op x.d x.a x.b x.n ⟨hl,h0,by omega⟩;rw[regF_eq] at e83d e83a e83b;generalize regF (formF x.op).d x.d=r1 at *;generalize regF (formF x.op).a x.a=r2 at *;generalize regF (formF x.op).b x.b=r3 at *;generalize fitsF ops.length ints.length strs.length q x.op x.n=r4 at *;cases h1:((formF x.op).name.toList==(⟨#[]⟩:ByteArray).toList) <;> cases r1 <;> cases r2 <;> cases r3;all_goals
  simp only[BL];simp only[acall,macall,f27];simp only[go_sem,h1,e82,e83d,e83a,e83b,e84,hget,h0];try rfl
noncomputable def c54:=famP (α:=(List XOp) × (List Int) × (List ByteArray) × (List XRel) × Int) (fun (ops,ints,strs,rels,q)=>(LM ops ints strs rels)∧0≤q∧q.toNat < ops.length) (fun (ops,ints,strs,rels,q)=>[(cd ops ints strs rels),.int .i64 q]) (fun (ops,ints,strs,rels,q)=> .bool (rightF ops ints.length strs.length q))
theorem c54_eq (q:Int) (hp:(LM ops ints strs rels)∧0≤q∧q.toNat < ops.length):c54 [(cd ops ints strs rels),.int .i64 q]=some (.bool (rightF ops ints.length strs.length q)):=fam_eq (fun X Y hp hp' h'=>by
 obtain⟨ops,ints,strs,rels,q⟩:=X;obtain⟨ops',ints',strs',rels',q'⟩:=Y;simp only[INJ] at h';obtain⟨rfl,rfl,rfl,rfl,rfl⟩:=h';rfl) (ops,ints,strs,rels,q) hp
theorem snd54:Snd 27 c54:=fam_snd h54 rfl rfl fun (ops,ints,strs,rels,q) hp=>rc h54 (fun A=>run54 ops ints strs rels q hp A) (fun _=>[]) rfl rfl rfl (by kernel_rfl) ⟨snd82,snd83,snd84,trivial⟩ trivial
def allF (p:Nat→Bool):Nat→Nat→Bool
 | _,0=>true
 | i,m+1=>p i&&allF p (i+1) m
def strOkF (s:ByteArray):Bool:=if (decide (64 < (s.size:Int)))=true then false else !(decide (0≤indexByteF s 0))
def checkF (ops:List XOp) (ints:List Int) (strs:List ByteArray) (rels:List XRel):Bool:=
 if (decide (1≤(ops.length:Int))&&decide ((ops.length:Int)≤500))=true then
  (if decide (200 < (ints.length:Int))=true then false else if decide (200 < (strs.length:Int))=true then false else if decide (500 < (rels.length:Int))=true then false
   else if (!((ops.getD (ops.length - 1) op0).op==40))=true then false
   else if allF (fun i=>strOkF (strs.getD i ⟨#[]⟩)) 0 strs.length=true then (if allF (fun i=>rightF ops ints.length strs.length i) 0 ops.length=true then allF (fun i=>relOkF ops rels i) 0 rels.length else false) else false)
 else false
def errF (b:Bool):Int:=if b=true then 0 else 150
theorem h33:Tryd.prog.funcs[16]? = some f16:=by kernel_rfl
def H33:Nat→Hint:=fun i=>if i=5 then ({ tm:=[1,43,44,45],ob:=[1],fin:=some ([1,2],[1]) }:Hint) else if i=11 then ({ tm:=[1,60,61],ob:=[1],fin:=some ([1,2],[1]) }:Hint) else if i=17 then ({ tm:=[1,71,72],ob:=[1],fin:=some ([1,2],[1]) }:Hint) else { tm:=[],ob:=[] }
theorem H33_5:H33 5=({ tm:=[1,43,44,45],ob:=[1],fin:=some ([1,2],[1]) }:Hint):=by simp[H33]
theorem H33_11:H33 11=({ tm:=[1,60,61],ob:=[1],fin:=some ([1,2],[1]) }:Hint):=by simp[H33]
theorem H33_17:H33 17=({ tm:=[1,71,72],ob:=[1],fin:=some ([1,2],[1]) }:Hint):=by simp[H33]
theorem loop33_5 (hl:LM ops ints strs rels) (p:Nat→Bool) (hpp:∀ i,i < strs.length→p i=strOkF (strs.getD i ⟨#[]⟩)) (A:Nat→Prop) (k:Nat):∀ (m i:Nat) (σ:St),i+m=strs.length→
 σ.keep (H33 5)=⟨[(1,.ptr 1 (.box 27) []),(43,.sl 9 gF (strs.map eS)),(44,.int .i64 strs.length),(45,.int .i64 i)],[(1,(bC ops ints strs rels))]⟩→
 post (H33 5) (aloop ty (arun (env 80 318915454188557432783087 D0 [(25,c52),(26,c53),(27,c54),(28,c55)] [] A) H33 k (sub (f16.body.getD .skip) [1,1,1,0,1,0,0])) (H33 5) (m+1) σ) =
 some (if allF p i m=true then (.exit 0,⟨[(1,.ptr 1 (.box 27) [])],[(1,(bC ops ints strs rels))]⟩) else (.ret,⟨[(1,.ptr 1 (.box 27) []),(2,.int .i64 150)],[(1,(bC ops ints strs rels))]⟩)):=by
 simp only[f16,sub,Option.getD_some,H33_5];intro m
 induction m with
 | zero=>
   intro i σ hi hσ;have h1:¬ ((i:Int) < ((strs.length:Nat):Int)):=by omega
   rw[aloop,hσ];simp only[go_sem,h1];simp[post,St.fin,keepL,aget,allF]
 | succ m ih=>
   intro i σ hi hσ;have h1:(i:Int) < ((strs.length:Nat):Int):=by omega
   have hlt:i < strs.length:=by omega
   have hw:IntKind.i64.wrap ((i:Int)+1)=((i+1:Nat):Int):=wrap_nat (by omega);have hget:=getD_get (d:=(⟨#[]⟩:ByteArray)) hlt;have hpi:=hpp i hlt;have hni:(0:Int)≤(i:Int):=Int.natCast_nonneg i;generalize strs.getD i ⟨#[]⟩=s at *;have e53:=c53_eq s 0;simp only[strOkF] at hpi;generalize indexByteF s 0=ix at *;generalize hd1:decide (64 < (s.size:Int))=b1 at *;generalize hd2:decide (0≤ix)=b2 at *;rw[aloop,hσ];cases hq:p i;all_goals
    rw[hq] at hpi;cases b1 <;> cases b2
   all_goals first | (simp at hpi;done) | skip
   all_goals
    simp only[go_sem,c52_eq,c54_eq,c55_eq,h1,hni,hget,hw,e53,hd1,hd2];simp only[allF,hq,BL];first
    | (simp[post,St.fin,keepL,aget];done)
    | exact ih (i+1) _ (by omega) (by simp only[go_sem])
theorem loop33_11 (hl:LM ops ints strs rels) (p:Nat→Bool) (hpp:∀ i,i < ops.length→p i=rightF ops ints.length strs.length i) (A:Nat→Prop) (k:Nat):∀ (m i:Nat) (σ:St),i+m=ops.length→
 σ.keep (H33 11)=⟨[(1,.ptr 1 (.box 27) []),(60,.int .i64 ops.length),(61,.int .i64 i)],[(1,(bC ops ints strs rels))]⟩→
 post (H33 11) (aloop ty (arun (env 80 318915454188557432783087 D0 [(25,c52),(26,c53),(27,c54),(28,c55)] [] A) H33 k (sub (f16.body.getD .skip) [1,1,1,1,0,1,0,0])) (H33 11) (m+1) σ) =
 some (if allF p i m=true then (.exit 2,⟨[(1,.ptr 1 (.box 27) [])],[(1,(bC ops ints strs rels))]⟩) else (.ret,⟨[(1,.ptr 1 (.box 27) []),(2,.int .i64 150)],[(1,(bC ops ints strs rels))]⟩)):=by
 simp only[f16,sub,Option.getD_some,H33_11];intro m
 induction m with
 | zero=>
   intro i σ hi hσ;have h1:¬ ((i:Int) < ((ops.length:Nat):Int)):=by omega
   rw[aloop,hσ];simp only[go_sem,h1];simp[post,St.fin,keepL,aget,allF]
 | succ m ih=>
   intro i σ hi hσ;have h1:(i:Int) < ((ops.length:Nat):Int):=by omega
   have hlt:i < ops.length:=by omega
   have hw:IntKind.i64.wrap ((i:Int)+1)=((i+1:Nat):Int):=wrap_nat (by omega);have hpi:=hpp i hlt;have e54:=c54_eq ops ints strs rels i ⟨hl,Int.natCast_nonneg i,by simpa using hlt⟩;rw[← hpi] at e54;rw[aloop,hσ];cases hq:p i;all_goals
    rw[hq] at e54
    skip
   all_goals
    simp only[go_sem,c52_eq,c53_eq,c55_eq,h1,hw,e54];simp only[allF,hq,BL];first
    | (simp[post,St.fin,keepL,aget];done)
    | exact ih (i+1) _ (by omega) (by simp only[go_sem])
theorem loop33_17 (hl:LM ops ints strs rels) (hs:∀ r ∈ rels,r.str.size≤9223372036854775807∧r.mem.size≤9223372036854775807) (p:Nat→Bool) (hpp:∀ i,i < rels.length→p i=relOkF ops rels i) (A:Nat→Prop) (k:Nat):∀ (m i:Nat) (σ:St),i+m=rels.length→
 σ.keep (H33 17)=⟨[(1,.ptr 1 (.box 27) []),(71,.int .i64 rels.length),(72,.int .i64 i)],[(1,(bC ops ints strs rels))]⟩→
 post (H33 17) (aloop ty (arun (env 80 318915454188557432783087 D0 [(25,c52),(26,c53),(27,c54),(28,c55)] [] A) H33 k (sub (f16.body.getD .skip) [1,1,1,1,1,0,1,0,0])) (H33 17) (m+1) σ) =
 some (if allF p i m=true then (.exit 4,⟨[(1,.ptr 1 (.box 27) [])],[(1,(bC ops ints strs rels))]⟩) else (.ret,⟨[(1,.ptr 1 (.box 27) []),(2,.int .i64 150)],[(1,(bC ops ints strs rels))]⟩)):=by
 simp only[f16,sub,Option.getD_some,H33_17];intro m
 induction m with
 | zero=>
   intro i σ hi hσ;have h1:¬ ((i:Int) < ((rels.length:Nat):Int)):=by omega
   rw[aloop,hσ];simp only[go_sem,h1];simp[post,St.fin,keepL,aget,allF]
 | succ m ih=>
   intro i σ hi hσ;have h1:(i:Int) < ((rels.length:Nat):Int):=by omega
   have hlt:i < rels.length:=by omega
   have hw:IntKind.i64.wrap ((i:Int)+1)=((i+1:Nat):Int):=wrap_nat (by omega);have hpi:=hpp i hlt;have e55:=c55_eq ops ints strs rels i ⟨hl.1,hl.2.2.2,Int.natCast_nonneg i,by simpa using hlt,hs⟩;rw[← hpi] at e55;rw[aloop,hσ];cases hq:p i;all_goals
    rw[hq] at e55
    skip
   all_goals
    simp only[go_sem,c52_eq,c53_eq,c54_eq,h1,hw,e55];simp only[allF,hq,BL];first
    | (simp[post,St.fin,keepL,aget];done)
    | exact ih (i+1) _ (by omega) (by simp only[go_sem])
theorem run33 (hp:(LM ops ints strs rels)∧∀ r ∈ rels,r.str.size≤9223372036854775807∧r.mem.size≤9223372036854775807) (A:Nat→Prop):acall (env 80 318915454188557432783087 D0 [(25,c52),(26,c53),(27,c54),(28,c55)] [] A) (H33) (100010) f16 [(cd ops ints strs rels)]=some (.int .i64 (errF (checkF ops ints strs rels))):=by
 obtain⟨hl,hs⟩:=hp;have hl5:=loop33_5 ops ints strs rels hl (fun i=>strOkF (strs.getD i ⟨#[]⟩)) (fun _ _=>rfl) A 100010 strs.length 0;have hl11:=loop33_11 ops ints strs rels hl (fun i=>rightF ops ints.length strs.length i) (fun _ _=>rfl) A 100010 ops.length 0;have hl17:=loop33_17 ops ints strs rels hl hs (fun i=>relOkF ops rels i) (fun _ _=>rfl) A 100010 rels.length 0;simp only[f16,sub,Option.getD_some,H33_5,H33_11,H33_17] at hl5 hl11 hl17;have e52:=c52_eq (ops.length:Int) 1 500;have hwl:IntKind.i64.wrap ((ops.length:Int) - 1)=(ops.length:Int) - 1:=wrap_i64 (by omega) (by omega);simp only[checkF];generalize hq5:allF (fun i=>strOkF (strs.getD i ⟨#[]⟩)) 0 strs.length=a1 at *;generalize hq11:allF (fun i=>rightF ops ints.length strs.length i) 0 ops.length=a2 at *;generalize hq17:allF (fun i=>relOkF ops rels i) 0 rels.length=a3 at *
 have hpos:(decide (1≤(ops.length:Int))&&decide ((ops.length:Int)≤500))=true→1≤ops.length:=fun h=>by simp at h;omega
 generalize (decide (1≤(ops.length:Int))&&decide ((ops.length:Int)≤500))=b0 at *;cases b0
 ·have h0:=trivial;have hget:=trivial;simp only[errF,BL];simp only[acall,macall,f16];simp only[go_sem,c53_eq,c54_eq,c55_eq,e52,d1,d2,d3,d4,hwl,h0,hget,H33_5,H33_11,H33_17];try rfl
 have hpo:=hpos rfl;have h0:0≤(ops.length:Int) - 1:=by omega
 have hget:=getD_get (d:=op0) (show ops.length - 1 < ops.length by omega);have hnat:((ops.length:Int) - 1).toNat=ops.length - 1:=by omega
 rw[← hnat] at hget;rw[← hnat];generalize ops.getD ((ops.length:Int) - 1).toNat op0=x at *;cases d1:decide (200 < (ints.length:Int));rotate_left
 ·simp only[errF,BL];simp only[acall,macall,f16];simp only[go_sem,c53_eq,c54_eq,c55_eq,e52,d1,d2,d3,d4,hwl,h0,hget,H33_5,H33_11,H33_17];try rfl
 cases d2:decide (200 < (strs.length:Int));rotate_left
 ·simp only[errF,BL];simp only[acall,macall,f16];simp only[go_sem,c53_eq,c54_eq,c55_eq,e52,d1,d2,d3,d4,hwl,h0,hget,H33_5,H33_11,H33_17];try rfl
 cases d3:decide (500 < (rels.length:Int));rotate_left
 ·simp only[errF,BL];simp only[acall,macall,f16];simp only[go_sem,c53_eq,c54_eq,c55_eq,e52,d1,d2,d3,d4,hwl,h0,hget,H33_5,H33_11,H33_17];try rfl
 cases d4:(x.op==40)
 ·simp only[errF,BL];simp only[acall,macall,f16];simp only[go_sem,c53_eq,c54_eq,c55_eq,e52,d1,d2,d3,d4,hwl,h0,hget,H33_5,H33_11,H33_17];try rfl
 simp only[acall,macall,f16];simp only[go_sem,c53_eq,c54_eq,c55_eq,e52,d1,d2,d3,d4,hwl,h0,hget,H33_5,H33_11,H33_17];rw[post_le (hl5 _ (by simp) (by simp only[go_sem])) (by omega)];cases a1
 ·simp only[go_sem,c53_eq,c54_eq,c55_eq,e52,d1,d2,d3,d4,hwl,h0,hget,H33_5,H33_11,H33_17];simp only[errF,BL];try rfl
 simp only[go_sem,c53_eq,c54_eq,c55_eq,e52,d1,d2,d3,d4,hwl,h0,hget,H33_5,H33_11,H33_17];rw[post_le (hl11 _ (by simp) (by simp only[go_sem])) (by omega)];cases a2
 ·simp only[go_sem,c53_eq,c54_eq,c55_eq,e52,d1,d2,d3,d4,hwl,h0,hget,H33_5,H33_11,H33_17];simp only[errF,BL];try rfl
 simp only[go_sem,c53_eq,c54_eq,c55_eq,e52,d1,d2,d3,d4,hwl,h0,hget,H33_5,H33_11,H33_17];rw[post_le (hl17 _ (by simp) (by simp only[go_sem])) (by omega)];cases a3
 ·simp only[go_sem,c53_eq,c54_eq,c55_eq,e52,d1,d2,d3,d4,hwl,h0,hget,H33_5,H33_11,H33_17];simp only[errF,BL];try rfl
 simp only[go_sem,c53_eq,c54_eq,c55_eq,e52,d1,d2,d3,d4,hwl,h0,hget,H33_5,H33_11,H33_17];simp only[errF,BL];try rfl
noncomputable def c33:=famP (α:=(List XOp) × (List Int) × (List ByteArray) × (List XRel)) (fun (ops,ints,strs,rels)=>(LM ops ints strs rels)∧∀ r ∈ rels,r.str.size≤9223372036854775807∧r.mem.size≤9223372036854775807) (fun (ops,ints,strs,rels)=>[(cd ops ints strs rels)]) (fun (ops,ints,strs,rels)=> .int .i64 (errF (checkF ops ints strs rels)))
theorem c33_eq (hp:(LM ops ints strs rels)∧∀ r ∈ rels,r.str.size≤9223372036854775807∧r.mem.size≤9223372036854775807):c33 [(cd ops ints strs rels)]=some (.int .i64 (errF (checkF ops ints strs rels))):=fam_eq (fun X Y hp hp' h'=>by
 obtain⟨ops,ints,strs,rels⟩:=X;obtain⟨ops',ints',strs',rels'⟩:=Y;simp only[INJ] at h';obtain⟨rfl,rfl,rfl,rfl⟩:=h';rfl) (ops,ints,strs,rels) hp
theorem snd33:Snd 16 c33:=fam_snd h33 rfl rfl fun (ops,ints,strs,rels) hp=>rc h33 (fun A=>run33 ops ints strs rels hp A) (fun _=>[]) rfl rfl rfl (by kernel_rfl) ⟨snd52,snd53,snd54,snd55,trivial⟩ trivial
def nextF (ops:List XOp) (q:Int):List Int:=
 let o:=ops.getD q.toNat op0
 if (o.op==40)=true then [] else if (o.op==24)=true then [o.n] else if (o.op==25)=true then (if (o.n==q+1)=true then [q+1] else [q+1,o.n]) else [q+1]
def nextEF (ok:Bool) (ops:List XOp) (q:Int):List Int × Int:=if ok=true then (if (decide (0≤q)&&decide (q≤(ops.length:Int) - 1))=true then (nextF ops q,0) else ([],1)) else ([],150)
theorem map2 (a b:Int):[a,b].map eI=[.int .i64 a,.int .i64 b]:=rfl
theorem map1 (a:Int):[a].map eI=[.int .i64 a]:=rfl
theorem map0:([]:List Int).map eI=[]:=rfl
theorem h88:Tryd.prog.funcs[49]? = some f49:=by kernel_rfl
theorem run88 (q:Int) (hp:(LM ops ints strs rels)∧∀ r ∈ rels,r.str.size≤9223372036854775807∧r.mem.size≤9223372036854775807) :∃ r,wk r (.tup [.sl 3 gT ((nextEF (checkF ops ints strs rels) ops q).1.map eI),.int .i64 (nextEF (checkF ops ints strs rels) ops q).2])∧∀ A,acall (env 51 9094593775863 D0 [(16,c33),(25,c52)] [] A) hN (5) f49 [(cd ops ints strs rels),.int .i64 q]=some r:=by
 have hl:=hp.1;have e33:=c33_eq ops ints strs rels hp;have e52:=c52_eq q 0 ((ops.length:Int) - 1);have hwl:IntKind.i64.wrap ((ops.length:Int) - 1)=(ops.length:Int) - 1:=wrap_i64 (by omega) (by omega);simp only[nextEF];generalize checkF ops ints strs rels=ok at *;cases ok
 ·simp only[errF,BL] at e33 ⊢;apply wkI
  ·intro A;simp only[acall,macall,f49];simp only[go_sem,e33,e52,hwl];try rfl
  ·simp[WK,eOut,eCode,map0,map1,map2,eI]
 simp only[errF,BL] at e33 ⊢;have hb:(decide (0≤q)&&decide (q≤(ops.length:Int) - 1))=true→0≤q∧q.toNat < ops.length:=fun h=>by simp at h;omega
 generalize (decide (0≤q)&&decide (q≤(ops.length:Int) - 1))=b at *;cases b
 ·simp only[BL];apply wkI
  ·intro A;simp only[acall,macall,f49];simp only[go_sem,e33,e52,hwl];try rfl
  ·simp[WK,eOut,eCode,map0,map1,map2,eI]
 obtain⟨h0,hlt⟩:=hb rfl;have hwq:IntKind.i64.wrap (q+1)=q+1:=wrap_i64 (by omega) (by omega);have hget:=getD_get (d:=op0) hlt;simp only[nextF,BL];generalize ops.getD q.toNat op0=x at *;cases h40:(x.op==40)
 rotate_left
 ·simp only[BL];apply wkI
  ·intro A;simp only[acall,macall,f49];simp only[go_sem,e33,e52,hwl,hget,h0,h40];try rfl
  ·simp[WK,eOut,eCode,map0,map1,map2,eI]
 cases h24:(x.op==24)
 rotate_left
 ·simp only[BL];apply wkI
  ·intro A;simp only[acall,macall,f49];simp only[go_sem,e33,e52,hwl,hget,h0,h40,h24];try rfl
  ·simp[WK,eOut,eCode,map0,map1,map2,eI]
 cases h25:(x.op==25)
 ·simp only[BL];apply wkI
  ·intro A;simp only[acall,macall,f49];simp only[go_sem,e33,e52,hwl,hget,h0,hwq,h40,h24,h25];try rfl
  ·simp[WK,eOut,eCode,map0,map1,map2,eI]
 cases hn:(x.n==q+1)
 all_goals
  simp only[BL];apply wkI
  ·intro A;simp only[acall,macall,f49];simp only[go_sem,e33,e52,hwl,hget,h0,hwq,h40,h24,h25,hn];try rfl
  ·simp[WK,eOut,eCode,map0,map1,map2,eI]
noncomputable def c88:=famP (α:=(List XOp) × (List Int) × (List ByteArray) × (List XRel) × Int) (fun (ops,ints,strs,rels,q)=>(LM ops ints strs rels)∧∀ r ∈ rels,r.str.size≤9223372036854775807∧r.mem.size≤9223372036854775807) (fun (ops,ints,strs,rels,q)=>[(cd ops ints strs rels),.int .i64 q]) (fun (ops,ints,strs,rels,q)=> .tup [.sl 3 gT ((nextEF (checkF ops ints strs rels) ops q).1.map eI),.int .i64 (nextEF (checkF ops ints strs rels) ops q).2])
theorem c88_eq (q:Int) (hp:(LM ops ints strs rels)∧∀ r ∈ rels,r.str.size≤9223372036854775807∧r.mem.size≤9223372036854775807):c88 [(cd ops ints strs rels),.int .i64 q]=some (.tup [.sl 3 gT ((nextEF (checkF ops ints strs rels) ops q).1.map eI),.int .i64 (nextEF (checkF ops ints strs rels) ops q).2]):=fam_eq (fun X Y hp hp' h'=>by
 obtain⟨ops,ints,strs,rels,q⟩:=X;obtain⟨ops',ints',strs',rels',q'⟩:=Y;simp only[INJ] at h';obtain⟨rfl,rfl,rfl,rfl,rfl⟩:=h';rfl) (ops,ints,strs,rels,q) hp
theorem snd88:Snd 49 c88:=fam_snd h88 rfl rfl fun (ops,ints,strs,rels,q) hp=>let ⟨_,hw,hr⟩:=run88 ops ints strs rels q hp;(rc h88 hr (fun _=>[]) rfl rfl rfl (by kernel_rfl) ⟨snd33,snd52,trivial⟩ trivial).weak hw
theorem h57:Tryd.prog.funcs[34]? = some f34:=by kernel_rfl
theorem run57 (q:Int) (hp:(LM ops ints strs rels)∧∀ r ∈ rels,r.str.size≤9223372036854775807∧r.mem.size≤9223372036854775807) (A:Nat→Prop):acall (env 14 55 D0 [(49,c88)] [] A) hN (5) f34 [(cd ops ints strs rels),.int .i64 q]=some (.sl 3 gT ((nextEF (checkF ops ints strs rels) ops q).1.map eI)):=by
 have e88:=c88_eq ops ints strs rels q hp;simp only[acall,macall,f34];simp only[go_sem,e88]
noncomputable def c57:=famP (α:=(List XOp) × (List Int) × (List ByteArray) × (List XRel) × Int) (fun (ops,ints,strs,rels,q)=>(LM ops ints strs rels)∧∀ r ∈ rels,r.str.size≤9223372036854775807∧r.mem.size≤9223372036854775807) (fun (ops,ints,strs,rels,q)=>[(cd ops ints strs rels),.int .i64 q]) (fun (ops,ints,strs,rels,q)=> .sl 3 gT ((nextEF (checkF ops ints strs rels) ops q).1.map eI))
theorem c57_eq (q:Int) (hp:(LM ops ints strs rels)∧∀ r ∈ rels,r.str.size≤9223372036854775807∧r.mem.size≤9223372036854775807):c57 [(cd ops ints strs rels),.int .i64 q]=some (.sl 3 gT ((nextEF (checkF ops ints strs rels) ops q).1.map eI)):=fam_eq (fun X Y hp hp' h'=>by
 obtain⟨ops,ints,strs,rels,q⟩:=X;obtain⟨ops',ints',strs',rels',q'⟩:=Y;simp only[INJ] at h';obtain⟨rfl,rfl,rfl,rfl,rfl⟩:=h';rfl) (ops,ints,strs,rels,q) hp
theorem snd57:Snd 34 c57:=fam_snd h57 rfl rfl fun (ops,ints,strs,rels,q) hp=>rc h57 (fun A=>run57 ops ints strs rels q hp A) (fun _=>[]) rfl rfl rfl (by kernel_rfl) ⟨snd88,trivial⟩ trivial
end Go.Proofs.Tryd
end
