/- Part of the proof of one statement of this seat: an abstract machine for the program, its contracts, and the statement (no condition of our own). -/
import Derived.Lib.Strings
import Derived.Lib.Slices
import Derived.Lib.Walk
import Derived.Lib.Bytealg
import Derived.Test.YtbdbjpdlcemeaaaGreatDoorCq05
set_option linter.unusedSimpArgs false
set_option linter.unusedVariables false
section
namespace Go.Proofs
open Go Go.Abs Go.RowKit
set_option maxHeartbeats 1000000 in
set_option maxRecDepth 100000 in
theorem Tryz.nI (s:ByteArray) (c:Int) (w:World) :
 Calls Tryz.prog 81 #[.string s,.int .u8 c] w fun e w'=>e = .returned (.int .i64 (Lib.indexByte s.data.toList c.toNat.toUInt8))∧w'=w:=by
 go_enter Tryz.func81,Tryz.ntmps81
 go_wp2
 rw[run_callFunc_extern Tryz.func107 (by kernel_rfl) (by kernel_rfl) (by kernel_rfl) (e:=Extern.BytealgIndexByte.indexByte) (by kernel_rfl),Lib.run_indexByteString];simp only[Result.andThen];rw[Oper.upon_value]
 go_wp2
 go_ret
 exact⟨rfl,rfl⟩
namespace Tryz
theorem h81:Tryz.prog.funcs[81]? = some f81:=by kernel_rfl
def fT (s:ByteArray) (c:Int):Int:=Lib.indexByte s.data.toList c.toNat.toUInt8
theorem afi (s:ByteArray) (c:Int):tx Tryz.prog ty G0 81 [.str s,.int .u8 c] (.int .i64 (fT s c)):=by
 intro okA w vs lI hG;have hlen:vs.length=2:=lI.1.symm;obtain⟨a,b,rfl⟩:∃ a b,vs=[a,b]:=by
  match vs,hlen with
  | [a,b],_=>exact⟨a,b,rfl⟩
 have h1:LR ty w okA (.str s) a:=lI.2 0 _ _ rfl rfl;have h2:LR ty w okA (.int .u8 c) b:=lI.2 1 _ _ rfl rfl;cases h1;cases h2;refine Calls.mono (nI s c w) fun e w' he=>?_
 obtain⟨rfl,rfl⟩:=he;exact⟨_,rfl,Below.refl _ _,.int .i64 _⟩
end Tryz
end Go.Proofs
end
section
set_option maxHeartbeats 4000000
set_option maxRecDepth 20000
namespace Go.Proofs.Tryz
open Go Go.Abs
variable (ah : List bp) (ab : List Int) (ag : List ByteArray) (ae : List aP)
def R81 (l:List AV) (r:AV):Prop:=∃ (s:ByteArray) (c:Int),l=[.str s,.int .u8 c]∧r = .int .i64 (fT s c)
noncomputable def c81:=y4 R81
theorem Y_ (s:ByteArray) (c:Int):c81 [.str s,.int .u8 c]=some (.int .i64 (fT s c)):=by
 refine oI (fun l r r'=>?_) ⟨s,c,rfl,rfl⟩;rintro⟨s,c,h,rfl⟩ ⟨s',c',h',rfl⟩;rw[h] at h';simp only[List.cons.injEq,AV.st.injEq,AV.sl.injEq,AV.int.injEq,AV.bool.injEq,AV.str.injEq,AV.ro.injEq,AV.fn.injEq,AV.own.injEq,Fl.mk.injEq,Prod.mk.injEq,Abs.Obj.mk.injEq,kL,nc,nd,nf,jg,gI,fQ,m_,and_true,true_and,and_assoc] at h';obtain⟨rfl,rfl⟩:=h';rfl
theorem afj:cI 81 c81:=fun l r h=>by
 obtain⟨s,c,rfl,rfl⟩:=sS h;exact⟨⟨f81,h81,rfl,by decide⟩,afi s c⟩
theorem h53:Tryz.prog.funcs[53]? = some f53:=by kernel_rfl
theorem afk (s:ByteArray) (c:Int) (A:Nat→Prop):ak (env 8 19 D0 [(81,c81)] [] A) hN (5) f53 [.str s,.int .u8 c]=some (.int .i64 (fT s c)):=by
 simp only[ak,ai,f53];simp only[go_sem,Y_]
noncomputable def c53:=bk (α:=ByteArray × Int) (fun _=>True) (fun (s,c)=>[.str s,.int .u8 c]) (fun (s,c)=> .int .i64 (fT s c))
theorem iA (s:ByteArray) (c:Int):c53 [.str s,.int .u8 c]=some (.int .i64 (fT s c)):=aJ (fun X Y hp bZ h'=>by
 obtain⟨s,c⟩:=X;obtain⟨s',c'⟩:=Y;simp only[cJ] at h';obtain⟨rfl,rfl⟩:=h';rfl) (s,c) trivial
theorem afl:cI 53 c53:=aE h53 rfl rfl fun (s,c) _=>rc h53 (fun A=>afk s c A) (fun _=>[]) rfl rfl rfl (by kernel_rfl) ⟨afj,trivial⟩ trivial
def letterF (y:Int):Bool:=y==95 || (decide (97≤IntKind.i64.wrap (bV .or .u8 y 32))&&decide (IntKind.i64.wrap (bV .or .u8 y 32)≤122))
def BZ (y:Int):Bool:=decide (48≤IntKind.i64.wrap y)&&decide (IntKind.i64.wrap y≤57)
def R8 (i:Nat) (y:Int):Bool:= !letterF y&&(decide (i=0) || !BZ y)
def cR:List UInt8→Nat→Bool
 | [],_=>true
 | y::r,i=>if R8 i y.toNat=true then false else cR r (i+1)
def jy (s:ByteArray):Bool:=cR s.data.toList 0&&(!(s.toList==(⟨#[]⟩:ByteArray).toList)&&decide (s.size≤31))
theorem Gs (s:ByteArray) (i:Nat) (h:i < s.size):s[i]? = some (s.data.toList[i]'(by simpa using h)):=by
 rw[getElem?_pos s i h];rfl
theorem h85:Tryz.prog.funcs[85]? = some f85:=by kernel_rfl
theorem Za (s:ByteArray) (dO:s.size≤9223372036854775807) (A:Nat→Prop) (k:Nat):∀ (m i:Nat) (σ:St),i+m=s.size→
 σ.cA ({ tm:=[0,3],ob:=[],fin:=some ([0,2],[]) }:Hint)=⟨[(0,.str s),(3,.int .i64 i)],[]⟩→
 post ({ tm:=[0,3],ob:=[],fin:=some ([0,2],[]) }:Hint) (aG ty (a9 (env 42 17179869757 D0 [(52,NI)] [] A) (fun _=>({ tm:=[0,3],ob:=[],fin:=some ([0,2],[]) }:Hint)) k (sub (f85.body.getD .skip) [1,0,1,0,0])) ({ tm:=[0,3],ob:=[],fin:=some ([0,2],[]) }:Hint) (m+1) σ) =
 some (if cR (s.data.toList.drop i) i=true then (.exit 0,⟨[(0,.str s)],[]⟩) else (.ret,⟨[(0,.str s),(2,.bool false)],[]⟩)):=by
 simp only[f85,sub,Option.getD_some];have cS:s.size=s.data.toList.length:=by simp
 intro m
 induction m with
 | zero=>
   intro i σ hi hσ;have h1:¬ ((i:Int) < (s.size:Int)):=by omega
   rw[aG,hσ];simp only[go_sem,h1];rw[List.drop_of_length_le (by omega)];simp[post,St.fin,aQ,aA,cR]
 | succ m ih=>
   intro i σ hi hσ;have h1:(i:Int) < (s.size:Int):=by omega
   have aR:i < s.size:=by omega
   have aw:=Gs s i aR;have hw:IntKind.i64.wrap ((i:Int)+1)=((i+1:Nat):Int):=by rw[wrap_i64 (by omega) (by omega)];omega
   have hd:s.data.toList.drop i=s.data.toList[i]::s.data.toList.drop (i+1):=List.drop_eq_getElem_cons (by omega);rw[aG,hσ,hd];generalize s.data.toList[i]=y at *;have hb:R8 i y.toNat=(!letterF y.toNat&&(decide (i=0) || !BZ y.toNat)):=rfl;have hz:(((i:Nat):Int)==0)=decide (i=0):=by
    by_cases e:i=0
    ·subst e;rfl
    ·simp[e]
   have ao5:(((y.toNat:Nat):Int)==95)=(((y.toNat:Nat):Int)==95):=rfl;simp only[letterF,BZ] at hb;generalize hl1:(((y.toNat:Nat):Int)==95)=b1 at *;generalize vg:(decide (97≤IntKind.i64.wrap (bV .or .u8 y.toNat 32))&&decide (IntKind.i64.wrap (bV .or .u8 y.toNat 32)≤122))=b2 at *;generalize Oa:(decide (48≤IntKind.i64.wrap (y.toNat:Int))&&decide (IntKind.i64.wrap (y.toNat:Int)≤57))=b3 at *;generalize Fa:decide (i=0)=b4 at *;cases b1 <;> cases b2 <;> cases b4 <;> cases b3;all_goals
    simp only[BL] at hb;simp only[go_sem,h1,aw,hw,hz,kj,hl1,vg,Oa,Fa];simp only[cR,hb,BL];first
    | (simp[post,St.fin,aQ,aA];done)
    | exact ih (i+1) _ (by omega) (by simp only[go_sem])
theorem afm (s:ByteArray) (hp:s.size≤9223372036854775807) (A:Nat→Prop):ak (env 42 17179869757 D0 [(52,NI)] [] A) (fun _=>({ tm:=[0,3],ob:=[],fin:=some ([0,2],[]) }:Hint)) (s.size+1) f85 [.str s]=some (.bool (jy s)):=by
 have hl:=Za s hp A (s.size+1) s.size 0;simp only[f85,sub,Option.getD_some,List.drop_zero] at hl;have hq:decide ((s.size:Int)≤31)=decide (s.size≤31):=by by_cases e:s.size≤31 <;> simp[e] <;> omega
 simp only[jy];simp only[ak,ai,f85];simp only[go_sem,kj];rw[hl _ (by simp) (by simp only[go_sem])];cases h:cR s.data.toList 0
 ·simp only[go_sem,kj]
 ·cases h2:(s.toList==(⟨#[]⟩:ByteArray).toList)
  all_goals
   simp only[go_sem,kj,h2,hq]
noncomputable def c85:=bk (α:=ByteArray) (fun s=>s.size≤9223372036854775807) (fun s=>[.str s]) (fun s=> .bool (jy s))
theorem Oi (s:ByteArray) (hp:s.size≤9223372036854775807):c85 [.str s]=some (.bool (jy s)):=aJ (fun s s' hp bZ h'=>by
 simp only[cJ] at h';obtain rfl:=h';rfl) (s) hp
theorem afn:cI 85 c85:=aE h85 rfl rfl fun s hp=>rc h85 (fun A=>afm s hp A) (fun _=>[]) rfl rfl rfl (by kernel_rfl) ⟨Em,trivial⟩ trivial
def fU (ah:List bp) (ae:List aP) (i:Int):Bool:=
 let r:=ae.getD i.toNat ⟨0,0,⟨#[]⟩,⟨#[]⟩⟩
 if ((!(decide (0≤r.at_)&&decide (r.at_≤(ah.length:Int) - 1)) || (decide (0 < i)&&decide (r.at_≤(ae.getD (i - 1).toNat ⟨0,0,⟨#[]⟩,⟨#[]⟩⟩).at_))) || !jy r.str)=true then false
 else
  let op:=(ah.getD r.at_.toNat ⟨0,0,0,0,0⟩).op
  if r.kind=1 then op==1&&jy r.mem
  else if r.kind=2 then op==1&&(r.mem.toList==(⟨#[]⟩:ByteArray).toList)
  else if r.kind=3 then op==26&&jy r.mem else false
theorem h55:Tryz.prog.funcs[55]? = some f55:=by kernel_rfl
theorem afo (i:Int) (hp:ah.length≤100000∧ae.length≤100000∧0≤i∧i.toNat < ae.length∧∀ r ∈ ae,r.str.size≤9223372036854775807∧r.mem.size≤9223372036854775807) (A:Nat→Prop):ak (env 78 591452111762056282231 D0 [(52,NI),(85,c85)] [] A) hN (5) f55 [(cd ah ab ag ae),.int .i64 i]=some (.bool (fU ah ae i)):=by
 obtain⟨mN,K3,h0,aR,cS⟩:=hp;have aw:=aD (d:=(⟨0,0,⟨#[]⟩,⟨#[]⟩⟩:aP)) aR;have nG:=List.mem_of_getElem? aw;have AO:0 < i→ae[(i - 1).toNat]? = some (ae.getD (i - 1).toNat ⟨0,0,⟨#[]⟩,⟨#[]⟩⟩):=fun h=>aD (by omega)
 have eL:IntKind.i64.wrap ((ah.length:Int) - 1)=(ah.length:Int) - 1:=wrap_i64 (by omega) (by omega);have eX:IntKind.i64.wrap (i - 1)=i - 1:=wrap_i64 (by omega) (by omega);simp only[fU];obtain⟨r,hr⟩:∃ r,ae.getD i.toNat ⟨0,0,⟨#[]⟩,⟨#[]⟩⟩=r:=⟨_,rfl⟩
 obtain⟨r1,Fz⟩:∃ r,ae.getD (i - 1).toNat ⟨0,0,⟨#[]⟩,⟨#[]⟩⟩=r:=⟨_,rfl⟩
 have hs:=cS _ nG;simp only[hr,Fz] at aw AO hs ⊢;have e1:=Oi r.str hs.1;have e2:=Oi r.mem hs.2;have o7:=kj r.at_ 0 ((ah.length:Int) - 1);obtain⟨n1,tB⟩:∃ b,jy r.str=b:=⟨_,rfl⟩
 obtain⟨n2,C9⟩:∃ b,jy r.mem=b:=⟨_,rfl⟩
 obtain⟨b1,jM⟩:∃ b,(decide (0≤r.at_)&&decide (r.at_≤(ah.length:Int) - 1))=b:=⟨_,rfl⟩
 simp only[tB,C9,jM] at e1 e2 o7 ⊢;cases b1
 ·simp only[BL];simp only[ak,ai,f55];simp only[go_sem,o7,aw,h0,eL]
 simp only[Bool.and_eq_true,decide_eq_true_eq] at jM;have h2:0≤r.at_:=jM.1;have jG:=aD (d:=(⟨0,0,0,0,0⟩:bp)) (show r.at_.toNat < ah.length by omega);obtain⟨op,Gm⟩:∃ o,ah.getD r.at_.toNat ⟨0,0,0,0,0⟩=o:=⟨_,rfl⟩
 simp only[Gm] at jG ⊢;have fin:∀ (G:Prop),(n1=true→((0 < i)=True∧decide (r.at_≤r1.at_)=false∨(0 < i)=False)→G)→(n1=false∨((0 < i)=True∧decide (r.at_≤r1.at_)=true)→G)→G:=fun G hA hB=>by
  cases n1
  ·exact hB (.inl rfl)
  ·by_cases hi:0 < i
   ·cases hc:decide (r.at_≤r1.at_)
    ·exact hA rfl (.inl ⟨by simp[hi],hc⟩)
    ·exact hB (.inr ⟨by simp[hi],hc⟩)
   ·exact hA rfl (.inr (by simp[hi]))
 refine fin _ (fun hn hA=>?_) fun hB=>?_
 ·subst hn;rcases hA with ⟨hi,hc⟩ | hi
  all_goals
   first
   | (have dh:=AO (of_eq_true hi)
      have vj:0≤i - 1:=by have:=of_eq_true hi;omega
      simp only[hi,hc,BL])
   | simp only[hi,BL]
   by_cases k1:r.kind=1
   ·cases ho:(op.op==1)
    all_goals
     simp only[k1,ho,BL];simp only[ak,ai,f55];first | (simp only[go_sem,o7,e1,e2,aw,jG,h0,h2,hi,eL,eX,dh,vj,hc,ho,k1];done) | (simp only[go_sem,o7,e1,e2,aw,jG,h0,h2,hi,eL,eX,ho,k1];done)
   by_cases k2:r.kind=2
   ·cases ho:(op.op==1)
    all_goals
     simp only[k2,ho,BL];simp only[ak,ai,f55];first | (simp only[go_sem,o7,e1,e2,aw,jG,h0,h2,hi,eL,eX,dh,vj,hc,ho,k2];done) | (simp only[go_sem,o7,e1,e2,aw,jG,h0,h2,hi,eL,eX,ho,k2];done)
   by_cases k3:r.kind=3
   ·cases ho:(op.op==26)
    all_goals
     simp only[k3,ho,BL];simp only[ak,ai,f55];first | (simp only[go_sem,o7,e1,e2,aw,jG,h0,h2,hi,eL,eX,dh,vj,hc,ho,k3];done) | (simp only[go_sem,o7,e1,e2,aw,jG,h0,h2,hi,eL,eX,ho,k3];done)
   ·have q1:(r.kind==1)=false:=by simp[k1]
    have q2:(r.kind==2)=false:=by simp[k2]
    have q3:(r.kind==3)=false:=by simp[k3]
    simp only[k1,k2,k3,BL];simp only[ak,ai,f55];first | (simp only[go_sem,o7,e1,e2,aw,jG,h0,h2,hi,eL,eX,dh,vj,hc,q1,q2,q3];done) | (simp only[go_sem,o7,e1,e2,aw,jG,h0,h2,hi,eL,eX,q1,q2,q3];done)
 ·by_cases hi:0 < i
  ·have dh:=AO hi;have vj:0≤i - 1:=by omega
   cases hc:decide (r.at_≤r1.at_)
   ·have hn:n1=false:=by
     rcases hB with h | h
     ·exact h
     ·rw[hc] at h;cases h.2
    subst hn;simp only[hi,hc,BL];simp only[ak,ai,f55];simp only[go_sem,o7,e1,e2,aw,jG,h0,h2,hi,eL,eX,dh,vj,hc]
   ·simp only[hi,hc,BL];simp only[ak,ai,f55];simp only[go_sem,o7,e1,e2,aw,jG,h0,h2,hi,eL,eX,dh,vj,hc]
  ·have hn:n1=false:=by
    rcases hB with h | h
    ·exact h
    ·exact absurd (of_eq_true h.1) hi
   subst hn;simp only[hi,BL];simp only[ak,ai,f55];simp only[go_sem,o7,e1,e2,aw,jG,h0,h2,hi,eL,eX]
noncomputable def c55:=bk (α:=(List bp) × (List Int) × (List ByteArray) × (List aP) × Int) (fun (ah,ab,ag,ae,i)=>ah.length≤100000∧ae.length≤100000∧0≤i∧i.toNat < ae.length∧∀ r ∈ ae,r.str.size≤9223372036854775807∧r.mem.size≤9223372036854775807) (fun (ah,ab,ag,ae,i)=>[(cd ah ab ag ae),.int .i64 i]) (fun (ah,ab,ag,ae,i)=> .bool (fU ah ae i))
theorem iB (i:Int) (hp:ah.length≤100000∧ae.length≤100000∧0≤i∧i.toNat < ae.length∧∀ r ∈ ae,r.str.size≤9223372036854775807∧r.mem.size≤9223372036854775807):c55 [(cd ah ab ag ae),.int .i64 i]=some (.bool (fU ah ae i)):=aJ (fun X Y hp bZ h'=>by
 obtain⟨ah,ab,ag,ae,i⟩:=X;obtain⟨c7,bJ,bL,bK,i'⟩:=Y;simp only[cJ] at h';obtain⟨rfl,rfl,rfl,rfl,rfl⟩:=h';rfl) (ah,ab,ag,ae,i) hp
theorem afp:cI 55 c55:=aE h55 rfl rfl fun (ah,ab,ag,ae,i) hp=>rc h55 (fun A=>afo ah ab ag ae i hp A) (fun i=>match i with | 2=>[0,1,0,4,12,28,63,127,255,511,1023,2047,4095,8191,4095,20479,65535,131071,262143,4095,528383,2097151,4194303,8388607,16777215,33554431,67108863,134217727,268435455,536870911] | _=>[]) rfl rfl rfl (by kernel_rfl) ⟨Em,afn,trivial⟩ trivial
def qa (lo hi n:Int):Bool:=decide (lo≤n)&&decide (n≤hi)
def ey (lo li ls:Nat) (q:Int) (o n:Int):Bool:=
 if (o==1)=true then qa 0 ((li:Int) - 1) n else if (o==2)=true then qa 0 ((ls:Int) - 1) n
 else if (o==19)=true then (cn n).isSome else if (o==26)=true then (cn n).isSome else if (o==27)=true then (cn n).isSome
 else if (o==24)=true then qa (q+1) ((lo:Int) - 1) n else if (o==25)=true then qa (q+1) ((lo:Int) - 1) n
 else if (o==28)=true then qa 1 13 n else if (o==29)=true then qa 0 5 n else if (o==39)=true then qa 1 8 n
 else if (a7 o).n=true then qa 0 19 n else n==0
theorem h84:Tryz.prog.funcs[84]? = some f84:=by kernel_rfl
theorem afq (q:Int) (o d a b n:Int) (hp:(LM ah ab ag ae)∧0≤q∧q≤100000) (A:Nat→Prop):ak (env 77 1185351926623591468399 D0 [(108,Xq),(109,R0),(82,Xv)] [] A) hN (5) f84 [(cd ah ab ag ae),.int .i64 q,.st 80 [.int .i64 o,.int .i64 d,.int .i64 a,.int .i64 b,.int .i64 n]]=some (.bool (ey ah.length ab.length ag.length q o n)):=by
 obtain⟨⟨mN,AM,Uk,K3⟩,h0q,hqq⟩:=hp;have vm:IntKind.i64.wrap ((ab.length:Int) - 1)=(ab.length:Int) - 1:=wrap_i64 (by omega) (by omega);have AD:IntKind.i64.wrap ((ag.length:Int) - 1)=(ag.length:Int) - 1:=wrap_i64 (by omega) (by omega);have Gt:IntKind.i64.wrap ((ah.length:Int) - 1)=(ah.length:Int) - 1:=wrap_i64 (by omega) (by omega);have kz:IntKind.i64.wrap (q+1)=q+1:=wrap_i64 (by omega) (by omega);cases h1:(o==1)
 rotate_left
 ·simp only[ey,qa,h1,BL];simp only[ak,ai,f84];simp only[go_sem,fR,bR,fF,h1,vm,AD,Gt,kz,bc];try rfl
 cases h2:(o==2)
 rotate_left
 ·simp only[ey,qa,h1,h2,BL];simp only[ak,ai,f84];simp only[go_sem,fR,bR,fF,h1,h2,vm,AD,Gt,kz,bc];try rfl
 cases h3:(o==19)
 rotate_left
 ·simp only[ey,qa,h1,h2,h3,BL];simp only[ak,ai,f84];have mh:=bR n;cases hi:cn n with
  | none=>
    rw[hi] at mh;simp only[go_sem,fR,mh,fF,h1,h2,h3,vm,AD,Gt,kz,bc,hi];try rfl
  | some p=>
    obtain⟨p1,p2⟩:=p;rw[hi] at mh;simp only[go_sem,fR,mh,fF,h1,h2,h3,vm,AD,Gt,kz,bc,hi];try rfl
  try rfl
 cases h4:(o==26)
 rotate_left
 ·simp only[ey,qa,h1,h2,h3,h4,BL];simp only[ak,ai,f84];have mh:=bR n;cases hi:cn n with
  | none=>
    rw[hi] at mh;simp only[go_sem,fR,mh,fF,h1,h2,h3,h4,vm,AD,Gt,kz,bc,hi];try rfl
  | some p=>
    obtain⟨p1,p2⟩:=p;rw[hi] at mh;simp only[go_sem,fR,mh,fF,h1,h2,h3,h4,vm,AD,Gt,kz,bc,hi];try rfl
  try rfl
 cases h5:(o==27)
 rotate_left
 ·simp only[ey,qa,h1,h2,h3,h4,h5,BL];simp only[ak,ai,f84];have mh:=bR n;cases hi:cn n with
  | none=>
    rw[hi] at mh;simp only[go_sem,fR,mh,fF,h1,h2,h3,h4,h5,vm,AD,Gt,kz,bc,hi];try rfl
  | some p=>
    obtain⟨p1,p2⟩:=p;rw[hi] at mh;simp only[go_sem,fR,mh,fF,h1,h2,h3,h4,h5,vm,AD,Gt,kz,bc,hi];try rfl
  try rfl
 cases h6:(o==24)
 rotate_left
 ·simp only[ey,qa,h1,h2,h3,h4,h5,h6,BL];simp only[ak,ai,f84];simp only[go_sem,fR,bR,fF,h1,h2,h3,h4,h5,h6,vm,AD,Gt,kz,bc];try rfl
 cases h7:(o==25)
 rotate_left
 ·simp only[ey,qa,h1,h2,h3,h4,h5,h6,h7,BL];simp only[ak,ai,f84];simp only[go_sem,fR,bR,fF,h1,h2,h3,h4,h5,h6,h7,vm,AD,Gt,kz,bc];try rfl
 cases h8:(o==28)
 rotate_left
 ·simp only[ey,qa,h1,h2,h3,h4,h5,h6,h7,h8,BL];simp only[ak,ai,f84];simp only[go_sem,fR,bR,fF,h1,h2,h3,h4,h5,h6,h7,h8,vm,AD,Gt,kz,bc];try rfl
 cases h9:(o==29)
 rotate_left
 ·simp only[ey,qa,h1,h2,h3,h4,h5,h6,h7,h8,h9,BL];simp only[ak,ai,f84];simp only[go_sem,fR,bR,fF,h1,h2,h3,h4,h5,h6,h7,h8,h9,vm,AD,Gt,kz,bc];try rfl
 cases dR:(o==39)
 rotate_left
 ·simp only[ey,qa,h1,h2,h3,h4,h5,h6,h7,h8,h9,dR,BL];simp only[ak,ai,f84];simp only[go_sem,fR,bR,fF,h1,h2,h3,h4,h5,h6,h7,h8,h9,dR,vm,AD,Gt,kz,bc];try rfl
 cases cT:(a7 o).n;rotate_left
 ·simp only[ey,qa,h1,h2,h3,h4,h5,h6,h7,h8,h9,dR,cT,BL];simp only[ak,ai,f84];simp only[go_sem,fR,bR,fF,h1,h2,h3,h4,h5,h6,h7,h8,h9,dR,cT,vm,AD,Gt,kz,bc];try rfl
 simp only[ey,qa,h1,h2,h3,h4,h5,h6,h7,h8,h9,dR,cT,BL];simp only[ak,ai,f84];simp only[go_sem,fR,bR,fF,h1,h2,h3,h4,h5,h6,h7,h8,h9,dR,cT,vm,AD,Gt,kz,bc];try rfl
noncomputable def c84:=bk (α:=(List bp) × (List Int) × (List ByteArray) × (List aP) × Int × Int × Int × Int × Int × Int) (fun (ah,ab,ag,ae,q,o,d,a,b,n)=>(LM ah ab ag ae)∧0≤q∧q≤100000) (fun (ah,ab,ag,ae,q,o,d,a,b,n)=>[(cd ah ab ag ae),.int .i64 q,.st 80 [.int .i64 o,.int .i64 d,.int .i64 a,.int .i64 b,.int .i64 n]]) (fun (ah,ab,ag,ae,q,o,d,a,b,n)=> .bool (ey ah.length ab.length ag.length q o n))
theorem Zb (q:Int) (o d a b n:Int) (hp:(LM ah ab ag ae)∧0≤q∧q≤100000):c84 [(cd ah ab ag ae),.int .i64 q,.st 80 [.int .i64 o,.int .i64 d,.int .i64 a,.int .i64 b,.int .i64 n]]=some (.bool (ey ah.length ab.length ag.length q o n)):=aJ (fun X Y hp bZ h'=>by
 obtain⟨ah,ab,ag,ae,q,o,d,a,b,n⟩:=X;obtain⟨c7,bJ,bL,bK,q',o',d',a',b',n'⟩:=Y;simp only[cJ] at h';obtain⟨rfl,rfl,rfl,rfl,rfl,rfl,rfl,rfl,rfl,rfl⟩:=h';rfl) (ah,ab,ag,ae,q,o,d,a,b,n) hp
theorem afr:cI 84 c84:=aE h84 rfl rfl fun (ah,ab,ag,ae,q,o,d,a,b,n) hp=>rc h84 (fun A=>afq ah ab ag ae q o d a b n hp A) (fun _=>[]) rfl rfl rfl (by kernel_rfl) ⟨Xr,N1,En,trivial⟩ trivial
def B0 (ah:List bp) (au:List Int) (q:Int):Bool:=
 let o:=ah.getD q.toNat bD
 gl o.op&&(decide (q+1 < (ah.length:Int))&& !(dz (au.getD (q+1).toNat 0) o.d))
def nD (ah:List bp) (ab:List Int) (ag:List ByteArray) (ae:List aP) (au:List Int) (q:Int):Option aL:=
 let o:=ah.getD q.toNat bD
 if (!(B0 ah au q)&&(!(o.op==3) || !(o.d==o.a)))=true then none else some (cf ah ab ag ae q)
theorem h91:Tryz.prog.funcs[91]? = some f91:=by kernel_rfl
theorem afs (ao:List (List aB)) (aj:List Bool) (au:List Int) (q:Int) (hp:((LM ah ab ag ae)∧0≤q∧q.toNat < ah.length∧(∀ o ∈ ah,o.n < 9223372036854775808)∧(∀ r ∈ ae,r.at_ < 9223372036854775808))∧au.length=ah.length∧∀ o ∈ ah,0≤o.d) :∃ r,wk r (aS (nD ah ab ag ae au q))∧∀ A,ak (env 63 72057594037928179 D0 [(117,Xx),(48,c48),(118,N_)] [] A) hN (5) f91 [(wv ah ab ag ae ao aj au),.int .i64 q]=some r:=by
 obtain⟨Gj,hj⟩:=hp;have dO:=Gj.1;have h0:=Gj.2.1;have aR:=Gj.2.2.1;have kz:IntKind.i64.wrap (q+1)=q+1:=wrap_i64 (by omega) (by omega);have Gk:=BV ah ab ag ae ao aj au q Gj;have aw:=aD (d:=bD) aR;obtain⟨sk,hd⟩:=hj;have nG:ah.getD q.toNat bD ∈ ah:=List.mem_of_getElem? aw;have hdx:=hd _ nG;have Es:0≤q+1:=by omega
 have dh:q+1 < (ah.length:Int)→au[(q+1).toNat]? = some (au.getD (q+1).toNat 0):=fun h=>aD (by omega)
 simp only[nD,B0];obtain⟨x,hx⟩:∃ x,ah.getD q.toNat bD=x:=⟨_,rfl⟩
 obtain⟨s,hs0⟩:∃ s,au.getD (q+1).toNat 0=s:=⟨_,rfl⟩
 simp only[hx,hs0] at nG hdx aw dh ⊢;have e48:=Xs s x.d hdx;have J3:=RH x.op x.d x.a x.b x.n;obtain⟨hs,oO⟩:∃ hs,dz s x.d=hs:=⟨_,rfl⟩
 obtain⟨pu,pu1⟩:∃ pu,gl x.op=pu:=⟨_,rfl⟩
 simp only[oO,pu1] at e48 J3 ⊢;cases pu <;> cases h2:decide (q+1 < (ah.length:Int)) <;> cases hs;all_goals
  simp only[decide_eq_true_eq,decide_eq_false_iff_not] at h2;simp only[BL];first
  | (have Ew:=dh h2
     apply bu
     ·intro A;simp only[ak,ai,f91];simp only[go_sem,e48,J3,Gk,aw,Ew,h2,h0,Es,kz];try rfl
     ·simp[WK,aS,ax,cf]
     done)
  | (cases h4:(x.op==3) <;> cases h5:(x.d==x.a)
     all_goals
      simp only[BL];first
      | (
         apply bu
         ·intro A;simp only[ak,ai,f91];simp only[go_sem,J3,aw,h2,h4,h5,h0,Es,kz];try rfl
         ·simp[WK,aS,ax]
         done)
      | (
         apply bu
         ·intro A;simp only[ak,ai,f91];simp only[go_sem,J3,Gk,aw,h2,h4,h5,h0,Es,kz];try rfl
         ·simp[WK,aS,ax,cf]
         done)
      | (have Ew:=dh h2
         apply bu
         ·intro A;simp only[ak,ai,f91];simp only[go_sem,e48,J3,aw,Ew,h2,h4,h5,h0,Es,kz];try rfl
         ·simp[WK,aS,ax]
         done)
      | (have Ew:=dh h2
         apply bu
         ·intro A;simp only[ak,ai,f91];simp only[go_sem,e48,J3,Gk,aw,Ew,h2,h4,h5,h0,Es,kz];try rfl
         ·simp[WK,aS,ax,cf]
         done))
noncomputable def c91:=bk (α:=(List bp) × (List Int) × (List ByteArray) × (List aP) × (List (List aB)) × (List Bool) × (List Int) × Int) (fun (ah,ab,ag,ae,ao,aj,au,q)=>((LM ah ab ag ae)∧0≤q∧q.toNat < ah.length∧(∀ o ∈ ah,o.n < 9223372036854775808)∧(∀ r ∈ ae,r.at_ < 9223372036854775808))∧au.length=ah.length∧∀ o ∈ ah,0≤o.d) (fun (ah,ab,ag,ae,ao,aj,au,q)=>[(wv ah ab ag ae ao aj au),.int .i64 q]) (fun (ah,ab,ag,ae,ao,aj,au,q)=>aS (nD ah ab ag ae au q))
theorem Zc (ao:List (List aB)) (aj:List Bool) (au:List Int) (q:Int) (hp:((LM ah ab ag ae)∧0≤q∧q.toNat < ah.length∧(∀ o ∈ ah,o.n < 9223372036854775808)∧(∀ r ∈ ae,r.at_ < 9223372036854775808))∧au.length=ah.length∧∀ o ∈ ah,0≤o.d):c91 [(wv ah ab ag ae ao aj au),.int .i64 q]=some (aS (nD ah ab ag ae au q)):=aJ (fun X Y hp bZ h'=>by
 obtain⟨ah,ab,ag,ae,ao,aj,au,q⟩:=X;obtain⟨c7,bJ,bL,bK,gm,eW,jj,q'⟩:=Y;simp only[cJ] at h';obtain⟨rfl,rfl,rfl,rfl,rfl,rfl,rfl,rfl⟩:=h';rfl) (ah,ab,ag,ae,ao,aj,au,q) hp
theorem aft:cI 91 c91:=aE h91 rfl rfl fun (ah,ab,ag,ae,ao,aj,au,q) hp=>let ⟨_,hw,hr⟩:=afs ah ab ag ae ao aj au q hp;(rc h91 hr (fun i=>match i with | 2=>[0,1,3,7,15,7,39,103,231,487,999,2047,4095,8191,16383,32767,65535,131071,16383,278527,1048575,2097151,16383,4210687,16777215,33554431,67108863,134217727] | _=>[]) rfl rfl rfl (by kernel_rfl) ⟨Xy,adD,Gh,trivial⟩ trivial).eK hw
def mG (has:Bool) (n:Int):Bool:=(has&&(decide (0≤n)&&decide (n≤7))) || (!has&&n==0)
theorem R9 (has:Bool) (n:Int):((has&&(decide (0≤n)&&decide (n≤7))) || (!has&&n==0))=mG has n:=rfl
def hH (ah:List bp) (li ls:Nat) (q:Int):Bool:=
 let o:=ah.getD q.toNat bD
 if (!((a7 o.op).name.toList==(⟨#[]⟩:ByteArray).toList))=true then
  (if mG (a7 o.op).d o.d=true then (if mG (a7 o.op).a o.a=true then (if mG (a7 o.op).b o.b=true then ey ah.length li ls q o.op o.n else false) else false) else false) else false
theorem h54:Tryz.prog.funcs[54]? = some f54:=by kernel_rfl
theorem afu (q:Int) (hp:(LM ah ab ag ae)∧0≤q∧q.toNat < ah.length) (A:Nat→Prop):ak (env 49 247 D0 [(82,Xv),(83,c83),(84,c84)] [] A) hN (5) f54 [(cd ah ab ag ae),.int .i64 q]=some (.bool (hH ah ab.length ag.length q)):=by
 obtain⟨hl,h0,aR⟩:=hp;have aw:=aD (d:=bD) aR;simp only[hH];obtain⟨x,hx⟩:∃ x,ah.getD q.toNat bD=x:=⟨_,rfl⟩
 simp only[hx] at aw ⊢;have e82:=fF x.op;have afv:=Ga (a7 x.op).d x.d;have afw:=Ga (a7 x.op).a x.a;have afx:=Ga (a7 x.op).b x.b;have e84:=Zb ah ab ag ae q x.op x.d x.a x.b x.n ⟨hl,h0,by omega⟩;rw[R9] at afv afw afx;generalize mG (a7 x.op).d x.d=r1 at *;generalize mG (a7 x.op).a x.a=r2 at *;generalize mG (a7 x.op).b x.b=r3 at *;generalize ey ah.length ab.length ag.length q x.op x.n=r4 at *;cases h1:((a7 x.op).name.toList==(⟨#[]⟩:ByteArray).toList) <;> cases r1 <;> cases r2 <;> cases r3;all_goals
  simp only[BL];simp only[ak,ai,f54];simp only[go_sem,h1,e82,afv,afw,afx,e84,aw,h0];try rfl
noncomputable def c54:=bk (α:=(List bp) × (List Int) × (List ByteArray) × (List aP) × Int) (fun (ah,ab,ag,ae,q)=>(LM ah ab ag ae)∧0≤q∧q.toNat < ah.length) (fun (ah,ab,ag,ae,q)=>[(cd ah ab ag ae),.int .i64 q]) (fun (ah,ab,ag,ae,q)=> .bool (hH ah ab.length ag.length q))
theorem iC (q:Int) (hp:(LM ah ab ag ae)∧0≤q∧q.toNat < ah.length):c54 [(cd ah ab ag ae),.int .i64 q]=some (.bool (hH ah ab.length ag.length q)):=aJ (fun X Y hp bZ h'=>by
 obtain⟨ah,ab,ag,ae,q⟩:=X;obtain⟨c7,bJ,bL,bK,q'⟩:=Y;simp only[cJ] at h';obtain⟨rfl,rfl,rfl,rfl,rfl⟩:=h';rfl) (ah,ab,ag,ae,q) hp
theorem afy:cI 54 c54:=aE h54 rfl rfl fun (ah,ab,ag,ae,q) hp=>rc h54 (fun A=>afu ah ab ag ae q hp A) (fun _=>[]) rfl rfl rfl (by kernel_rfl) ⟨En,adN,afr,trivial⟩ trivial
def dE (p:Nat→Bool):Nat→Nat→Bool
 | _,0=>true
 | i,m+1=>p i&&dE p (i+1) m
def jl (s:ByteArray):Bool:=if (decide (64 < (s.size:Int)))=true then false else !(decide (0≤fT s 0))
def aU (ah:List bp) (ab:List Int) (ag:List ByteArray) (ae:List aP):Bool:=
 if (decide (1≤(ah.length:Int))&&decide ((ah.length:Int)≤500))=true then
  (if decide (200 < (ab.length:Int))=true then false else if decide (200 < (ag.length:Int))=true then false else if decide (500 < (ae.length:Int))=true then false
   else if (!((ah.getD (ah.length - 1) bD).op==40))=true then false
   else if dE (fun i=>jl (ag.getD i ⟨#[]⟩)) 0 ag.length=true then (if dE (fun i=>hH ah ab.length ag.length i) 0 ah.length=true then dE (fun i=>fU ah ae i) 0 ae.length else false) else false)
 else false
def cy (b:Bool):Int:=if b=true then 0 else 150
theorem h33:Tryz.prog.funcs[33]? = some f33:=by kernel_rfl
def B1:Nat→Hint:=fun i=>if i=5 then ({ tm:=[1,43,44,45],ob:=[1],fin:=some ([1,2],[1]) }:Hint) else if i=11 then ({ tm:=[1,60,61],ob:=[1],fin:=some ([1,2],[1]) }:Hint) else if i=17 then ({ tm:=[1,71,72],ob:=[1],fin:=some ([1,2],[1]) }:Hint) else { tm:=[],ob:=[] }
theorem lW:B1 5=({ tm:=[1,43,44,45],ob:=[1],fin:=some ([1,2],[1]) }:Hint):=by simp[B1]
theorem jm:B1 11=({ tm:=[1,60,61],ob:=[1],fin:=some ([1,2],[1]) }:Hint):=by simp[B1]
theorem jn:B1 17=({ tm:=[1,71,72],ob:=[1],fin:=some ([1,2],[1]) }:Hint):=by simp[B1]
theorem Oj (hl:LM ah ab ag ae) (p:Nat→Bool) (yI:∀ i,i < ag.length→p i=jl (ag.getD i ⟨#[]⟩)) (A:Nat→Prop) (k:Nat):∀ (m i:Nat) (σ:St),i+m=ag.length→
 σ.cA (B1 5)=⟨[(1,.ptr 1 (.box 27) []),(43,.sl 9 gF (ag.map eS)),(44,.int .i64 ag.length),(45,.int .i64 i)],[(1,(bC ah ab ag ae))]⟩→
 post (B1 5) (aG ty (a9 (env 80 318915454188557432783087 D0 [(52,NI),(53,c53),(54,c54),(55,c55)] [] A) B1 k (sub (f33.body.getD .skip) [1,1,1,0,1,0,0])) (B1 5) (m+1) σ) =
 some (if dE p i m=true then (.exit 0,⟨[(1,.ptr 1 (.box 27) [])],[(1,(bC ah ab ag ae))]⟩) else (.ret,⟨[(1,.ptr 1 (.box 27) []),(2,.int .i64 150)],[(1,(bC ah ab ag ae))]⟩)):=by
 simp only[f33,sub,Option.getD_some,lW];intro m
 induction m with
 | zero=>
   intro i σ hi hσ;have h1:¬ ((i:Int) < ((ag.length:Nat):Int)):=by omega
   rw[aG,hσ];simp only[go_sem,h1];simp[post,St.fin,aQ,aA,dE]
 | succ m ih=>
   intro i σ hi hσ;have h1:(i:Int) < ((ag.length:Nat):Int):=by omega
   have aR:i < ag.length:=by omega
   have hw:IntKind.i64.wrap ((i:Int)+1)=((i+1:Nat):Int):=a_ (by omega);have aw:=aD (d:=(⟨#[]⟩:ByteArray)) aR;have pM:=yI i aR;have cY:(0:Int)≤(i:Int):=Int.natCast_nonneg i;generalize ag.getD i ⟨#[]⟩=s at *;have e53:=iA s 0;simp only[jl] at pM;generalize fT s 0=ix at *;generalize rV:decide (64 < (s.size:Int))=b1 at *;generalize hd2:decide (0≤ix)=b2 at *;rw[aG,hσ];cases hq:p i;all_goals
    rw[hq] at pM;cases b1 <;> cases b2
   all_goals first | (simp at pM;done) | skip
   all_goals
    simp only[go_sem,kj,iC,iB,h1,cY,aw,hw,e53,rV,hd2];simp only[dE,hq,BL];first
    | (simp[post,St.fin,aQ,aA];done)
    | exact ih (i+1) _ (by omega) (by simp only[go_sem])
theorem J4 (hl:LM ah ab ag ae) (p:Nat→Bool) (yI:∀ i,i < ah.length→p i=hH ah ab.length ag.length i) (A:Nat→Prop) (k:Nat):∀ (m i:Nat) (σ:St),i+m=ah.length→
 σ.cA (B1 11)=⟨[(1,.ptr 1 (.box 27) []),(60,.int .i64 ah.length),(61,.int .i64 i)],[(1,(bC ah ab ag ae))]⟩→
 post (B1 11) (aG ty (a9 (env 80 318915454188557432783087 D0 [(52,NI),(53,c53),(54,c54),(55,c55)] [] A) B1 k (sub (f33.body.getD .skip) [1,1,1,1,0,1,0,0])) (B1 11) (m+1) σ) =
 some (if dE p i m=true then (.exit 2,⟨[(1,.ptr 1 (.box 27) [])],[(1,(bC ah ab ag ae))]⟩) else (.ret,⟨[(1,.ptr 1 (.box 27) []),(2,.int .i64 150)],[(1,(bC ah ab ag ae))]⟩)):=by
 simp only[f33,sub,Option.getD_some,jm];intro m
 induction m with
 | zero=>
   intro i σ hi hσ;have h1:¬ ((i:Int) < ((ah.length:Nat):Int)):=by omega
   rw[aG,hσ];simp only[go_sem,h1];simp[post,St.fin,aQ,aA,dE]
 | succ m ih=>
   intro i σ hi hσ;have h1:(i:Int) < ((ah.length:Nat):Int):=by omega
   have aR:i < ah.length:=by omega
   have hw:IntKind.i64.wrap ((i:Int)+1)=((i+1:Nat):Int):=a_ (by omega);have pM:=yI i aR;have e54:=iC ah ab ag ae i ⟨hl,Int.natCast_nonneg i,by simpa using aR⟩;rw[← pM] at e54;rw[aG,hσ];cases hq:p i;all_goals
    rw[hq] at e54
    skip
   all_goals
    simp only[go_sem,kj,iA,iB,h1,hw,e54];simp only[dE,hq,BL];first
    | (simp[post,St.fin,aQ,aA];done)
    | exact ih (i+1) _ (by omega) (by simp only[go_sem])
theorem J5 (hl:LM ah ab ag ae) (hs:∀ r ∈ ae,r.str.size≤9223372036854775807∧r.mem.size≤9223372036854775807) (p:Nat→Bool) (yI:∀ i,i < ae.length→p i=fU ah ae i) (A:Nat→Prop) (k:Nat):∀ (m i:Nat) (σ:St),i+m=ae.length→
 σ.cA (B1 17)=⟨[(1,.ptr 1 (.box 27) []),(71,.int .i64 ae.length),(72,.int .i64 i)],[(1,(bC ah ab ag ae))]⟩→
 post (B1 17) (aG ty (a9 (env 80 318915454188557432783087 D0 [(52,NI),(53,c53),(54,c54),(55,c55)] [] A) B1 k (sub (f33.body.getD .skip) [1,1,1,1,1,0,1,0,0])) (B1 17) (m+1) σ) =
 some (if dE p i m=true then (.exit 4,⟨[(1,.ptr 1 (.box 27) [])],[(1,(bC ah ab ag ae))]⟩) else (.ret,⟨[(1,.ptr 1 (.box 27) []),(2,.int .i64 150)],[(1,(bC ah ab ag ae))]⟩)):=by
 simp only[f33,sub,Option.getD_some,jn];intro m
 induction m with
 | zero=>
   intro i σ hi hσ;have h1:¬ ((i:Int) < ((ae.length:Nat):Int)):=by omega
   rw[aG,hσ];simp only[go_sem,h1];simp[post,St.fin,aQ,aA,dE]
 | succ m ih=>
   intro i σ hi hσ;have h1:(i:Int) < ((ae.length:Nat):Int):=by omega
   have aR:i < ae.length:=by omega
   have hw:IntKind.i64.wrap ((i:Int)+1)=((i+1:Nat):Int):=a_ (by omega);have pM:=yI i aR;have e55:=iB ah ab ag ae i ⟨hl.1,hl.2.2.2,Int.natCast_nonneg i,by simpa using aR,hs⟩;rw[← pM] at e55;rw[aG,hσ];cases hq:p i;all_goals
    rw[hq] at e55
    skip
   all_goals
    simp only[go_sem,kj,iA,iC,h1,hw,e55];simp only[dE,hq,BL];first
    | (simp[post,St.fin,aQ,aA];done)
    | exact ih (i+1) _ (by omega) (by simp only[go_sem])
theorem afz (hp:(LM ah ab ag ae)∧∀ r ∈ ae,r.str.size≤9223372036854775807∧r.mem.size≤9223372036854775807) (A:Nat→Prop):ak (env 80 318915454188557432783087 D0 [(52,NI),(53,c53),(54,c54),(55,c55)] [] A) (B1) (100010) f33 [(cd ah ab ag ae)]=some (.int .i64 (cy (aU ah ab ag ae))):=by
 obtain⟨hl,hs⟩:=hp;have AN:=Oj ah ab ag ae hl (fun i=>jl (ag.getD i ⟨#[]⟩)) (fun _ _=>rfl) A 100010 ag.length 0;have afA:=J4 ah ab ag ae hl (fun i=>hH ah ab.length ag.length i) (fun _ _=>rfl) A 100010 ah.length 0;have Ok:=J5 ah ab ag ae hl hs (fun i=>fU ah ae i) (fun _ _=>rfl) A 100010 ae.length 0;simp only[f33,sub,Option.getD_some,lW,jm,jn] at AN afA Ok;have o7:=kj (ah.length:Int) 1 500;have lJ:IntKind.i64.wrap ((ah.length:Int) - 1)=(ah.length:Int) - 1:=wrap_i64 (by omega) (by omega);simp only[aU];generalize hq5:dE (fun i=>jl (ag.getD i ⟨#[]⟩)) 0 ag.length=a1 at *;generalize apa:dE (fun i=>hH ah ab.length ag.length i) 0 ah.length=a2 at *;generalize afB:dE (fun i=>fU ah ae i) 0 ae.length=a3 at *
 have gq:(decide (1≤(ah.length:Int))&&decide ((ah.length:Int)≤500))=true→1≤ah.length:=fun h=>by simp at h;omega
 generalize (decide (1≤(ah.length:Int))&&decide ((ah.length:Int)≤500))=b0 at *;cases b0
 ·have h0:=trivial;have aw:=trivial;simp only[cy,BL];simp only[ak,ai,f33];simp only[go_sem,iA,iC,iB,o7,d1,d2,d3,d4,lJ,h0,aw,lW,jm,jn];try rfl
 have hpo:=gq rfl;have h0:0≤(ah.length:Int) - 1:=by omega
 have aw:=aD (d:=bD) (show ah.length - 1 < ah.length by omega);have afC:((ah.length:Int) - 1).toNat=ah.length - 1:=by omega
 rw[← afC] at aw;rw[← afC];generalize ah.getD ((ah.length:Int) - 1).toNat bD=x at *;cases d1:decide (200 < (ab.length:Int));rotate_left
 ·simp only[cy,BL];simp only[ak,ai,f33];simp only[go_sem,iA,iC,iB,o7,d1,d2,d3,d4,lJ,h0,aw,lW,jm,jn];try rfl
 cases d2:decide (200 < (ag.length:Int));rotate_left
 ·simp only[cy,BL];simp only[ak,ai,f33];simp only[go_sem,iA,iC,iB,o7,d1,d2,d3,d4,lJ,h0,aw,lW,jm,jn];try rfl
 cases d3:decide (500 < (ae.length:Int));rotate_left
 ·simp only[cy,BL];simp only[ak,ai,f33];simp only[go_sem,iA,iC,iB,o7,d1,d2,d3,d4,lJ,h0,aw,lW,jm,jn];try rfl
 cases d4:(x.op==40)
 ·simp only[cy,BL];simp only[ak,ai,f33];simp only[go_sem,iA,iC,iB,o7,d1,d2,d3,d4,lJ,h0,aw,lW,jm,jn];try rfl
 simp only[ak,ai,f33];simp only[go_sem,iA,iC,iB,o7,d1,d2,d3,d4,lJ,h0,aw,lW,jm,jn];rw[aY (AN _ (by simp) (by simp only[go_sem])) (by omega)];cases a1
 ·simp only[go_sem,iA,iC,iB,o7,d1,d2,d3,d4,lJ,h0,aw,lW,jm,jn];simp only[cy,BL];try rfl
 simp only[go_sem,iA,iC,iB,o7,d1,d2,d3,d4,lJ,h0,aw,lW,jm,jn];rw[aY (afA _ (by simp) (by simp only[go_sem])) (by omega)];cases a2
 ·simp only[go_sem,iA,iC,iB,o7,d1,d2,d3,d4,lJ,h0,aw,lW,jm,jn];simp only[cy,BL];try rfl
 simp only[go_sem,iA,iC,iB,o7,d1,d2,d3,d4,lJ,h0,aw,lW,jm,jn];rw[aY (Ok _ (by simp) (by simp only[go_sem])) (by omega)];cases a3
 ·simp only[go_sem,iA,iC,iB,o7,d1,d2,d3,d4,lJ,h0,aw,lW,jm,jn];simp only[cy,BL];try rfl
 simp only[go_sem,iA,iC,iB,o7,d1,d2,d3,d4,lJ,h0,aw,lW,jm,jn];simp only[cy,BL];try rfl
noncomputable def o_:=bk (α:=(List bp) × (List Int) × (List ByteArray) × (List aP)) (fun (ah,ab,ag,ae)=>(LM ah ab ag ae)∧∀ r ∈ ae,r.str.size≤9223372036854775807∧r.mem.size≤9223372036854775807) (fun (ah,ab,ag,ae)=>[(cd ah ab ag ae)]) (fun (ah,ab,ag,ae)=> .int .i64 (cy (aU ah ab ag ae)))
theorem qb (hp:(LM ah ab ag ae)∧∀ r ∈ ae,r.str.size≤9223372036854775807∧r.mem.size≤9223372036854775807):o_ [(cd ah ab ag ae)]=some (.int .i64 (cy (aU ah ab ag ae))):=aJ (fun X Y hp bZ h'=>by
 obtain⟨ah,ab,ag,ae⟩:=X;obtain⟨c7,bJ,bL,bK⟩:=Y;simp only[cJ] at h';obtain⟨rfl,rfl,rfl,rfl⟩:=h';rfl) (ah,ab,ag,ae) hp
theorem Ex:cI 33 o_:=aE h33 rfl rfl fun (ah,ab,ag,ae) hp=>rc h33 (fun A=>afz ah ab ag ae hp A) (fun _=>[]) rfl rfl rfl (by kernel_rfl) ⟨Em,afl,afy,afp,trivial⟩ trivial
def eG (ah:List bp) (q:Int):List Int:=
 let o:=ah.getD q.toNat bD
 if (o.op==40)=true then [] else if (o.op==24)=true then [o.n] else if (o.op==25)=true then (if (o.n==q+1)=true then [q+1] else [q+1,o.n]) else [q+1]
def kq (ok:Bool) (ah:List bp) (q:Int):List Int × Int:=if ok=true then (if (decide (0≤q)&&decide (q≤(ah.length:Int) - 1))=true then (eG ah q,0) else ([],1)) else ([],150)
theorem y6 (a b:Int):[a,b].map eI=[.int .i64 a,.int .i64 b]:=rfl
theorem y7 (a:Int):[a].map eI=[.int .i64 a]:=rfl
theorem y8:([]:List Int).map eI=[]:=rfl
theorem h88:Tryz.prog.funcs[88]? = some f88:=by kernel_rfl
theorem afD (q:Int) (hp:(LM ah ab ag ae)∧∀ r ∈ ae,r.str.size≤9223372036854775807∧r.mem.size≤9223372036854775807) :∃ r,wk r (.cE [.sl 3 gT ((kq (aU ah ab ag ae) ah q).1.map eI),.int .i64 (kq (aU ah ab ag ae) ah q).2])∧∀ A,ak (env 51 9094593775863 D0 [(33,o_),(52,NI)] [] A) hN (5) f88 [(cd ah ab ag ae),.int .i64 q]=some r:=by
 have hl:=hp.1;have mP:=qb ah ab ag ae hp;have o7:=kj q 0 ((ah.length:Int) - 1);have lJ:IntKind.i64.wrap ((ah.length:Int) - 1)=(ah.length:Int) - 1:=wrap_i64 (by omega) (by omega);simp only[kq];generalize aU ah ab ag ae=ok at *;cases ok
 ·simp only[cy,BL] at mP ⊢;apply bu
  ·intro A;simp only[ak,ai,f88];simp only[go_sem,mP,o7,lJ];try rfl
  ·simp[WK,aS,ax,y8,y7,y6,eI]
 simp only[cy,BL] at mP ⊢;have hb:(decide (0≤q)&&decide (q≤(ah.length:Int) - 1))=true→0≤q∧q.toNat < ah.length:=fun h=>by simp at h;omega
 generalize (decide (0≤q)&&decide (q≤(ah.length:Int) - 1))=b at *;cases b
 ·simp only[BL];apply bu
  ·intro A;simp only[ak,ai,f88];simp only[go_sem,mP,o7,lJ];try rfl
  ·simp[WK,aS,ax,y8,y7,y6,eI]
 obtain⟨h0,aR⟩:=hb rfl;have kz:IntKind.i64.wrap (q+1)=q+1:=wrap_i64 (by omega) (by omega);have aw:=aD (d:=bD) aR;simp only[eG,BL];generalize ah.getD q.toNat bD=x at *;cases IT:(x.op==40)
 rotate_left
 ·simp only[BL];apply bu
  ·intro A;simp only[ak,ai,f88];simp only[go_sem,mP,o7,lJ,aw,h0,IT];try rfl
  ·simp[WK,aS,ax,y8,y7,y6,eI]
 cases gM:(x.op==24)
 rotate_left
 ·simp only[BL];apply bu
  ·intro A;simp only[ak,ai,f88];simp only[go_sem,mP,o7,lJ,aw,h0,IT,gM];try rfl
  ·simp[WK,aS,ax,y8,y7,y6,eI]
 cases dU:(x.op==25)
 ·simp only[BL];apply bu
  ·intro A;simp only[ak,ai,f88];simp only[go_sem,mP,o7,lJ,aw,h0,kz,IT,gM,dU];try rfl
  ·simp[WK,aS,ax,y8,y7,y6,eI]
 cases hn:(x.n==q+1)
 all_goals
  simp only[BL];apply bu
  ·intro A;simp only[ak,ai,f88];simp only[go_sem,mP,o7,lJ,aw,h0,kz,IT,gM,dU,hn];try rfl
  ·simp[WK,aS,ax,y8,y7,y6,eI]
noncomputable def c88:=bk (α:=(List bp) × (List Int) × (List ByteArray) × (List aP) × Int) (fun (ah,ab,ag,ae,q)=>(LM ah ab ag ae)∧∀ r ∈ ae,r.str.size≤9223372036854775807∧r.mem.size≤9223372036854775807) (fun (ah,ab,ag,ae,q)=>[(cd ah ab ag ae),.int .i64 q]) (fun (ah,ab,ag,ae,q)=> .cE [.sl 3 gT ((kq (aU ah ab ag ae) ah q).1.map eI),.int .i64 (kq (aU ah ab ag ae) ah q).2])
theorem Zd (q:Int) (hp:(LM ah ab ag ae)∧∀ r ∈ ae,r.str.size≤9223372036854775807∧r.mem.size≤9223372036854775807):c88 [(cd ah ab ag ae),.int .i64 q]=some (.cE [.sl 3 gT ((kq (aU ah ab ag ae) ah q).1.map eI),.int .i64 (kq (aU ah ab ag ae) ah q).2]):=aJ (fun X Y hp bZ h'=>by
 obtain⟨ah,ab,ag,ae,q⟩:=X;obtain⟨c7,bJ,bL,bK,q'⟩:=Y;simp only[cJ] at h';obtain⟨rfl,rfl,rfl,rfl,rfl⟩:=h';rfl) (ah,ab,ag,ae,q) hp
theorem afE:cI 88 c88:=aE h88 rfl rfl fun (ah,ab,ag,ae,q) hp=>let ⟨_,hw,hr⟩:=afD ah ab ag ae q hp;(rc h88 hr (fun _=>[]) rfl rfl rfl (by kernel_rfl) ⟨Ex,Em,trivial⟩ trivial).eK hw
theorem h57:Tryz.prog.funcs[57]? = some f57:=by kernel_rfl
theorem afF (q:Int) (hp:(LM ah ab ag ae)∧∀ r ∈ ae,r.str.size≤9223372036854775807∧r.mem.size≤9223372036854775807) (A:Nat→Prop):ak (env 14 55 D0 [(88,c88)] [] A) hN (5) f57 [(cd ah ab ag ae),.int .i64 q]=some (.sl 3 gT ((kq (aU ah ab ag ae) ah q).1.map eI)):=by
 have e88:=Zd ah ab ag ae q hp;simp only[ak,ai,f57];simp only[go_sem,e88]
noncomputable def R_:=bk (α:=(List bp) × (List Int) × (List ByteArray) × (List aP) × Int) (fun (ah,ab,ag,ae,q)=>(LM ah ab ag ae)∧∀ r ∈ ae,r.str.size≤9223372036854775807∧r.mem.size≤9223372036854775807) (fun (ah,ab,ag,ae,q)=>[(cd ah ab ag ae),.int .i64 q]) (fun (ah,ab,ag,ae,q)=> .sl 3 gT ((kq (aU ah ab ag ae) ah q).1.map eI))
theorem Ol (q:Int) (hp:(LM ah ab ag ae)∧∀ r ∈ ae,r.str.size≤9223372036854775807∧r.mem.size≤9223372036854775807):R_ [(cd ah ab ag ae),.int .i64 q]=some (.sl 3 gT ((kq (aU ah ab ag ae) ah q).1.map eI)):=aJ (fun X Y hp bZ h'=>by
 obtain⟨ah,ab,ag,ae,q⟩:=X;obtain⟨c7,bJ,bL,bK,q'⟩:=Y;simp only[cJ] at h';obtain⟨rfl,rfl,rfl,rfl,rfl⟩:=h';rfl) (ah,ab,ag,ae,q) hp
theorem afG:cI 57 R_:=aE h57 rfl rfl fun (ah,ab,ag,ae,q) hp=>rc h57 (fun A=>afF ah ab ag ae q hp A) (fun _=>[]) rfl rfl rfl (by kernel_rfl) ⟨afE,trivial⟩ trivial
end Go.Proofs.Tryz
end
