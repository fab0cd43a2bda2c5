/- A part of a proof. -/
import Derived.Lib.Strings
import Derived.Lib.Slices
import Derived.Lib.Walk
import Derived.Lib.Bytealg
import Derived.Test.YtbdbjpdlcemeaaaGreatDoorRu05
set_option linter.unusedSimpArgs false
set_option linter.unusedVariables false
section
namespace Go.Proofs
open Go Go.Abs Go.RowKit
set_option maxHeartbeats 1000000 in
set_option maxRecDepth 100000 in
theorem Tryz.nI (s:ByteArray) (c:Int) (w:World) :
 Calls Tryz.prog 81 #[.string s,.int .u8 c] w fun e w'=>e = .returned (.int .i64 (Lib.indexByte s.data.toList c.toNat.toUInt8))∧w'=w:=by
 go_enter Tryz.func81,Tryz.ntmps81
 go_wp2
 rw[run_callFunc_extern Tryz.func107 (by kernel_rfl) (by kernel_rfl) (by kernel_rfl) (e:=Extern.BytealgIndexByte.indexByte) (by kernel_rfl),Lib.run_indexByteString];simp only[Result.andThen];rw[Oper.upon_value]
 go_wp2
 go_ret
 exact⟨rfl,rfl⟩
namespace Tryz
theorem h81:Q 81=some f81:=by kernel_rfl
def fT (s:ByteArray) (c:Int):Int:=Lib.indexByte s.data.toList c.toNat.toUInt8
theorem afi (s:ByteArray) (c:Int):tx Tryz.prog ty G0 81 [.str s,.int .u8 c] (.int .i64 (fT s c)):=by
 intro okA w vs lI hG;have hlen:vs.length=2:=lI.1.symm;obtain⟨a,b,rfl⟩:∃ a b,vs=[a,b]:=by
  match vs,hlen with
  | [a,b],_=>exact⟨a,b,rfl⟩
 have h1:LR ty w okA (.str s) a:=lI.2 0 _ _ rfl rfl;have h2:LR ty w okA (.int .u8 c) b:=lI.2 1 _ _ rfl rfl;cases h1;cases h2;refine Calls.mono (nI s c w) fun e w' he=>?_
 obtain⟨rfl,rfl⟩:=he;exact⟨_,rfl,Below.refl _ _,.int .i64 _⟩
end Tryz
end Go.Proofs
end
section
set_option maxHeartbeats 4000000
set_option maxRecDepth 20000
namespace Go.Proofs.Tryz
open Go Go.Abs
variable (N : List bp) (V : List Int) (I : List ByteArray) (U : List aP) (ao : List (List aB)) (aj : List Bool) (au : List Int)
def R81 (l:List AV) (r:AV):Prop:=∃ (s:ByteArray) (c:Int),l=[.str s,.int .u8 c]∧r=J (fT s c)
noncomputable def c81:=y4 R81
theorem Y_ (s:ByteArray) (c:Int):c81 [.str s,.int .u8 c]=some (J (fT s c)):=by
 refine oI (fun l r r'=>?_) ⟨s,c,rfl,rfl⟩;rintro⟨s,c,h,rfl⟩ ⟨s',c',h',rfl⟩;rw[h] at h';simp only[List.cons.injEq,AV.st.injEq,AV.sl.injEq,AV.int.injEq,AV.bool.injEq,AV.str.injEq,AV.ro.injEq,AV.fn.injEq,AV.own.injEq,Fl.mk.injEq,Prod.mk.injEq,Abs.Obj.mk.injEq,kL,nc,nd,nf,jg,gI,fQ,m_,and_true,true_and,and_assoc] at h';obtain⟨rfl,rfl⟩:=h';rfl
theorem afj:cI 81 c81:=fun l r h=>by
 obtain⟨s,c,rfl,rfl⟩:=sS h;exact⟨⟨f81,h81,rfl,by decide⟩,afi s c⟩
theorem h53:Q 53=some f53:=by kernel_rfl
theorem afk (s:ByteArray) (c:Int) (A:NP):ak (env 8 19 D0 [(81,c81)] [] A) hN (5) f53 [.str s,.int .u8 c]=some (J (fT s c)):=by
 simp only[ak,ai,f53];simp only[go_sem,Y_]
noncomputable def c53:=bk (α:=ByteArray × Int) (fun _=>True) (fun (s,c)=>[.str s,.int .u8 c]) (fun (s,c)=>J (fT s c))
theorem iA (s:ByteArray) (c:Int):c53 [.str s,.int .u8 c]=some (J (fT s c)):=aJ (fun X Y hp bZ h'=>by
 obtain⟨s,c⟩:=X;obtain⟨s',c'⟩:=Y;simp only[cJ] at h';obtain⟨rfl,rfl⟩:=h';rfl) (s,c) trivial
theorem afl:cI 53 c53:=aE h53 rfl rfl fun (s,c) _=>rc h53 (fun A=>afk s c A) (fun _=>[]) rfl rfl rfl (by kernel_rfl) ⟨afj,trivial⟩ trivial
def letterF (y:Int):Bool:=y==95 || (decide (97≤IntKind.i64.wrap (bV .or .u8 y 32))&&decide (IntKind.i64.wrap (bV .or .u8 y 32)≤122))
def BZ (y:Int):Bool:=decide (48≤IntKind.i64.wrap y)&&decide (IntKind.i64.wrap y≤57)
def R8 (i:Nat) (y:Int):Bool:= !letterF y&&(decide (i=0) || !BZ y)
def cR:List UInt8→Nat→Bool
 | [],_=>true
 | y::r,i=>if R8 i y.toNat=true then false else cR r (i+1)
def jy (s:ByteArray):Bool:=cR s.data.toList 0&&(!(s.toList==(⟨#[]⟩:ByteArray).toList)&&decide (s.size≤31))
theorem Gs (s:ByteArray) (i:Nat) (h:i < s.size):s[i]? = some (s.data.toList[i]'(by simpa using h)):=by
 rw[getElem?_pos s i h];rfl
theorem h85:Q 85=some f85:=by kernel_rfl
theorem Za (s:ByteArray) (dO:s.size≤9223372036854775807) (A:NP) (k:Nat):∀ (m i:Nat) (σ:St),i+m=s.size→
 σ.cA ({ tm:=[0,3],ob:=[],fin:=some ([0,2],[]) }:Hint)=⟨[(0,.str s),(3,J i)],[]⟩→
 post ({ tm:=[0,3],ob:=[],fin:=some ([0,2],[]) }:Hint) (aG ty (a9 (env 42 17179869757 D0 [(52,NI)] [] A) (fun _=>({ tm:=[0,3],ob:=[],fin:=some ([0,2],[]) }:Hint)) k (sub (f85.body.getD .skip) [1,0,1,0,0])) ({ tm:=[0,3],ob:=[],fin:=some ([0,2],[]) }:Hint) (m+1) σ) =
 some (if cR (s.data.toList.drop i) i=true then (.exit 0,⟨[(0,.str s)],[]⟩) else (.ret,⟨[(0,.str s),(2,.bool false)],[]⟩)):=by
 simp only[f85,sub,Option.getD_some];have cS:s.size=s.data.toList.length:=by simp
 intro m
 induction m with
 | zero=>
   intro i σ hi hσ;have h1:¬ ((i:Int) < (s.size:Int)):=by omega
   rw[aG,hσ];simp only[go_sem,h1];rw[List.drop_of_length_le (by omega)];simp[post,St.fin,aQ,aA,cR]
 | succ m ih=>
   intro i σ hi hσ;have h1:(i:Int) < (s.size:Int):=by omega
   have aR:i < s.size:=by omega
   have aw:=Gs s i aR;have hw:IntKind.i64.wrap ((i:Int)+1)=((i+1:Nat):Int):=by rw[wrap_i64 (by omega) (by omega)];omega
   have hd:s.data.toList.drop i=s.data.toList[i]::s.data.toList.drop (i+1):=List.drop_eq_getElem_cons (by omega);rw[aG,hσ,hd];generalize s.data.toList[i]=y at *;have hb:R8 i y.toNat=(!letterF y.toNat&&(decide (i=0) || !BZ y.toNat)):=rfl;have hz:(((i:Nat):Int)==0)=decide (i=0):=by
    by_cases e:i=0
    ·subst e;rfl
    ·simp[e]
   have ao5:(((y.toNat:Nat):Int)==95)=(((y.toNat:Nat):Int)==95):=rfl;simp only[letterF,BZ] at hb;generalize hl1:(((y.toNat:Nat):Int)==95)=b1 at *;generalize vg:(decide (97≤IntKind.i64.wrap (bV .or .u8 y.toNat 32))&&decide (IntKind.i64.wrap (bV .or .u8 y.toNat 32)≤122))=b2 at *;generalize Oa:(decide (48≤IntKind.i64.wrap (y.toNat:Int))&&decide (IntKind.i64.wrap (y.toNat:Int)≤57))=b3 at *;generalize Fa:decide (i=0)=b4 at *;cases b1 <;> cases b2 <;> cases b4 <;> cases b3;all_goals
    simp only[BL] at hb;simp only[go_sem,h1,aw,hw,hz,kj,hl1,vg,Oa,Fa];simp only[cR,hb,BL];first
    | (simp[post,St.fin,aQ,aA];done)
    | exact ih (i+1) _ (by omega) (by simp only[go_sem])
theorem afm (s:ByteArray) (hp:s.size≤9223372036854775807) (A:NP):ak (env 42 17179869757 D0 [(52,NI)] [] A) (fun _=>({ tm:=[0,3],ob:=[],fin:=some ([0,2],[]) }:Hint)) (s.size+1) f85 [.str s]=some (.bool (jy s)):=by
 have hl:=Za s hp A (s.size+1) s.size 0;simp only[f85,sub,Option.getD_some,List.drop_zero] at hl;have hq:decide ((s.size:Int)≤31)=decide (s.size≤31):=by by_cases e:s.size≤31 <;> simp[e] <;> omega
 simp only[jy];simp only[ak,ai,f85];simp only[go_sem,kj];rw[hl _ (by simp) (by simp only[go_sem])];cases h:cR s.data.toList 0
 ·simp only[go_sem,kj]
 ·cases h2:(s.toList==(⟨#[]⟩:ByteArray).toList)
  all_goals
   simp only[go_sem,kj,h2,hq]
noncomputable def c85:=bk (α:=ByteArray) (fun s=>s.size≤9223372036854775807) (fun s=>[.str s]) (fun s=> .bool (jy s))
theorem Oi (s:ByteArray) (hp:s.size≤9223372036854775807):c85 [.str s]=some (.bool (jy s)):=aJ (fun s s' hp bZ h'=>by
 simp only[cJ] at h';obtain rfl:=h';rfl) (s) hp
theorem afn:cI 85 c85:=aE h85 rfl rfl fun s hp=>rc h85 (fun A=>afm s hp A) (fun _=>[]) rfl rfl rfl (by kernel_rfl) ⟨Em,trivial⟩ trivial
def fU (N:List bp) (U:List aP) (i:Int):Bool:=
 let r:=U.getD i.toNat ⟨0,0,⟨#[]⟩,⟨#[]⟩⟩
 if ((!(decide (0≤r.at_)&&decide (r.at_≤(N.length:Int) - 1)) || (decide (0 < i)&&decide (r.at_≤(U.getD (i - 1).toNat ⟨0,0,⟨#[]⟩,⟨#[]⟩⟩).at_))) || !jy r.str)=true then false
 else
  let op:=(N.getD r.at_.toNat ⟨0,0,0,0,0⟩).op
  if r.kind=1 then op==1&&jy r.mem
  else if r.kind=2 then op==1&&(r.mem.toList==(⟨#[]⟩:ByteArray).toList)
  else if r.kind=3 then op==26&&jy r.mem else false
theorem h55:Q 55=some f55:=by kernel_rfl
theorem afo (i:Int) (hp:N.length≤100000∧U.length≤100000∧0≤i∧i.toNat < U.length∧(LS U)) (A:NP):ak (env 78 591452111762056282231 D0 [(52,NI),(85,c85)] [] A) hN (5) f55 [(cd N V I U),J i]=some (.bool (fU N U i)):=by
 obtain⟨mN,K3,h0,aR,cS⟩:=hp;have aw:=aD (d:=(⟨0,0,⟨#[]⟩,⟨#[]⟩⟩:aP)) aR;have nG:=List.mem_of_getElem? aw;have AO:0 < i→U[(i - 1).toNat]? = some (U.getD (i - 1).toNat ⟨0,0,⟨#[]⟩,⟨#[]⟩⟩):=fun h=>aD (by omega)
 have eL:IntKind.i64.wrap ((N.length:Int) - 1)=(N.length:Int) - 1:=wrap_i64 (by omega) (by omega);have eX:IntKind.i64.wrap (i - 1)=i - 1:=wrap_i64 (by omega) (by omega);simp only[fU];obtain⟨r,hr⟩:∃ r,U.getD i.toNat ⟨0,0,⟨#[]⟩,⟨#[]⟩⟩=r:=⟨_,rfl⟩
 obtain⟨r1,Fz⟩:∃ r,U.getD (i - 1).toNat ⟨0,0,⟨#[]⟩,⟨#[]⟩⟩=r:=⟨_,rfl⟩
 have hs:=cS _ nG;simp only[hr,Fz] at aw AO hs ⊢;have e1:=Oi r.str hs.1;have e2:=Oi r.mem hs.2;have o7:=kj r.at_ 0 ((N.length:Int) - 1);obtain⟨n1,tB⟩:∃ b,jy r.str=b:=⟨_,rfl⟩
 obtain⟨n2,C9⟩:∃ b,jy r.mem=b:=⟨_,rfl⟩
 obtain⟨b1,jM⟩:∃ b,(decide (0≤r.at_)&&decide (r.at_≤(N.length:Int) - 1))=b:=⟨_,rfl⟩
 simp only[tB,C9,jM] at e1 e2 o7 ⊢;cases b1
 ·simp only[BL];simp only[ak,ai,f55];simp only[go_sem,o7,aw,h0,eL]
 simp only[Bool.and_eq_true,decide_eq_true_eq] at jM;have h2:0≤r.at_:=jM.1;have jG:=aD (d:=(⟨0,0,0,0,0⟩:bp)) (show r.at_.toNat < N.length by omega);obtain⟨op,Gm⟩:∃ o,N.getD r.at_.toNat ⟨0,0,0,0,0⟩=o:=⟨_,rfl⟩
 simp only[Gm] at jG ⊢;have fin:∀ (G:Prop),(n1=true→((0 < i)=True∧decide (r.at_≤r1.at_)=false∨(0 < i)=False)→G)→(n1=false∨((0 < i)=True∧decide (r.at_≤r1.at_)=true)→G)→G:=fun G hA hB=>by
  cases n1
  ·exact hB (.inl rfl)
  ·by_cases hi:0 < i
   ·cases hc:decide (r.at_≤r1.at_)
    ·exact hA rfl (.inl ⟨by simp[hi],hc⟩)
    ·exact hB (.inr ⟨by simp[hi],hc⟩)
   ·exact hA rfl (.inr (by simp[hi]))
 refine fin _ (fun hn hA=>?_) fun hB=>?_
 ·subst hn;rcases hA with ⟨hi,hc⟩ | hi
  all_goals
   first
   | (have dh:=AO (of_eq_true hi)
      have vj:0≤i - 1:=by have:=of_eq_true hi;omega
      simp only[hi,hc,BL])
   | simp only[hi,BL]
   by_cases k1:r.kind=1
   ·cases ho:(op.op==1)
    all_goals
     simp only[k1,ho,BL];simp only[ak,ai,f55];first | (simp only[go_sem,o7,e1,e2,aw,jG,h0,h2,hi,eL,eX,dh,vj,hc,ho,k1];done) | (simp only[go_sem,o7,e1,e2,aw,jG,h0,h2,hi,eL,eX,ho,k1];done)
   by_cases k2:r.kind=2
   ·cases ho:(op.op==1)
    all_goals
     simp only[k2,ho,BL];simp only[ak,ai,f55];first | (simp only[go_sem,o7,e1,e2,aw,jG,h0,h2,hi,eL,eX,dh,vj,hc,ho,k2];done) | (simp only[go_sem,o7,e1,e2,aw,jG,h0,h2,hi,eL,eX,ho,k2];done)
   by_cases k3:r.kind=3
   ·cases ho:(op.op==26)
    all_goals
     simp only[k3,ho,BL];simp only[ak,ai,f55];first | (simp only[go_sem,o7,e1,e2,aw,jG,h0,h2,hi,eL,eX,dh,vj,hc,ho,k3];done) | (simp only[go_sem,o7,e1,e2,aw,jG,h0,h2,hi,eL,eX,ho,k3];done)
   ·have q1:(r.kind==1)=false:=by simp[k1]
    have q2:(r.kind==2)=false:=by simp[k2]
    have q3:(r.kind==3)=false:=by simp[k3]
    simp only[k1,k2,k3,BL];simp only[ak,ai,f55];first | (simp only[go_sem,o7,e1,e2,aw,jG,h0,h2,hi,eL,eX,dh,vj,hc,q1,q2,q3];done) | (simp only[go_sem,o7,e1,e2,aw,jG,h0,h2,hi,eL,eX,q1,q2,q3];done)
 ·by_cases hi:0 < i
  ·have dh:=AO hi;have vj:0≤i - 1:=by omega
   cases hc:decide (r.at_≤r1.at_)
   ·have hn:n1=false:=by
     rcases hB with h | h
     ·exact h
     ·rw[hc] at h;cases h.2
    subst hn;simp only[hi,hc,BL];simp only[ak,ai,f55];simp only[go_sem,o7,e1,e2,aw,jG,h0,h2,hi,eL,eX,dh,vj,hc]
   ·simp only[hi,hc,BL];simp only[ak,ai,f55];simp only[go_sem,o7,e1,e2,aw,jG,h0,h2,hi,eL,eX,dh,vj,hc]
  ·have hn:n1=false:=by
    rcases hB with h | h
    ·exact h
    ·exact absurd (of_eq_true h.1) hi
   subst hn;simp only[hi,BL];simp only[ak,ai,f55];simp only[go_sem,o7,e1,e2,aw,jG,h0,h2,hi,eL,eX]
noncomputable def c55:=bk (α:=(List bp) × (List Int) × (List ByteArray) × (List aP) × Int) (fun (N,V,I,U,i)=>N.length≤100000∧U.length≤100000∧0≤i∧i.toNat < U.length∧(LS U)) (fun (N,V,I,U,i)=>[(cd N V I U),J i]) (fun (N,V,I,U,i)=> .bool (fU N U i))
theorem iB (i:Int) (hp:N.length≤100000∧U.length≤100000∧0≤i∧i.toNat < U.length∧(LS U)):c55 [(cd N V I U),J i]=some (.bool (fU N U i)):=aJ (fun X Y hp bZ h'=>by
 obtain⟨N,V,I,U,i⟩:=X;obtain⟨c7,bJ,bL,bK,i'⟩:=Y;simp only[cJ] at h';obtain⟨rfl,rfl,rfl,rfl,rfl⟩:=h';rfl) (N,V,I,U,i) hp
theorem afp:cI 55 c55:=aE h55 rfl rfl fun (N,V,I,U,i) hp=>rc h55 (fun A=>afo N V I U i hp A) (fun i=>match i with | 2=>[0,1,0,4,12,28,63,127,255,511,1023,2047,4095,8191,4095,20479,65535,131071,262143,4095,528383,2097151,4194303,8388607,16777215,33554431,67108863,134217727,268435455,536870911] | _=>[]) rfl rfl rfl (by kernel_rfl) ⟨Em,afn,trivial⟩ trivial
def qa (lo hi n:Int):Bool:=decide (lo≤n)&&decide (n≤hi)
def ey (lo li ls:Nat) (q:Int) (o n:Int):Bool:=
 if (o==1)=true then qa 0 ((li:Int) - 1) n else if (o==2)=true then qa 0 ((ls:Int) - 1) n
 else if (o==19)=true then (cn n).isSome else if (o==26)=true then (cn n).isSome else if (o==27)=true then (cn n).isSome
 else if (o==24)=true then qa (q+1) ((lo:Int) - 1) n else if (o==25)=true then qa (q+1) ((lo:Int) - 1) n
 else if (o==28)=true then qa 1 13 n else if (o==29)=true then qa 0 5 n else if (o==39)=true then qa 1 8 n
 else if (a7 o).n=true then qa 0 19 n else n==0
theorem h84:Q 84=some f84:=by kernel_rfl
theorem afq (q:Int) (o d a b n:Int) (hp:(LM N V I U)∧0≤q∧q≤100000) (A:NP):ak (env 77 1185351926623591468399 D0 [(108,Xq),(109,R0),(82,Xv)] [] A) hN (5) f84 [(cd N V I U),J q,.st 80 [J o,J d,J a,J b,J n]]=some (.bool (ey N.length V.length I.length q o n)):=by
 obtain⟨⟨mN,AM,Uk,K3⟩,h0q,hqq⟩:=hp;have vm:IntKind.i64.wrap ((V.length:Int) - 1)=(V.length:Int) - 1:=wrap_i64 (by omega) (by omega);have AD:IntKind.i64.wrap ((I.length:Int) - 1)=(I.length:Int) - 1:=wrap_i64 (by omega) (by omega);have Gt:IntKind.i64.wrap ((N.length:Int) - 1)=(N.length:Int) - 1:=wrap_i64 (by omega) (by omega);have kz:IntKind.i64.wrap (q+1)=q+1:=wrap_i64 (by omega) (by omega);cases h1:(o==1)
 rotate_left
 ·simp only[ey,qa,h1,BL];simp only[ak,ai,f84];simp only[go_sem,fR,bR,fF,h1,vm,AD,Gt,kz,bc];try rfl
 cases h2:(o==2)
 rotate_left
 ·simp only[ey,qa,h1,h2,BL];simp only[ak,ai,f84];simp only[go_sem,fR,bR,fF,h1,h2,vm,AD,Gt,kz,bc];try rfl
 cases h3:(o==19)
 rotate_left
 ·simp only[ey,qa,h1,h2,h3,BL];simp only[ak,ai,f84];have mh:=bR n;cases hi:cn n with
  | none=>
    rw[hi] at mh;simp only[go_sem,fR,mh,fF,h1,h2,h3,vm,AD,Gt,kz,bc,hi];try rfl
  | some p=>
    obtain⟨p1,p2⟩:=p;rw[hi] at mh;simp only[go_sem,fR,mh,fF,h1,h2,h3,vm,AD,Gt,kz,bc,hi];try rfl
  try rfl
 cases h4:(o==26)
 rotate_left
 ·simp only[ey,qa,h1,h2,h3,h4,BL];simp only[ak,ai,f84];have mh:=bR n;cases hi:cn n with
  | none=>
    rw[hi] at mh;simp only[go_sem,fR,mh,fF,h1,h2,h3,h4,vm,AD,Gt,kz,bc,hi];try rfl
  | some p=>
    obtain⟨p1,p2⟩:=p;rw[hi] at mh;simp only[go_sem,fR,mh,fF,h1,h2,h3,h4,vm,AD,Gt,kz,bc,hi];try rfl
  try rfl
 cases h5:(o==27)
 rotate_left
 ·simp only[ey,qa,h1,h2,h3,h4,h5,BL];simp only[ak,ai,f84];have mh:=bR n;cases hi:cn n with
  | none=>
    rw[hi] at mh;simp only[go_sem,fR,mh,fF,h1,h2,h3,h4,h5,vm,AD,Gt,kz,bc,hi];try rfl
  | some p=>
    obtain⟨p1,p2⟩:=p;rw[hi] at mh;simp only[go_sem,fR,mh,fF,h1,h2,h3,h4,h5,vm,AD,Gt,kz,bc,hi];try rfl
  try rfl
 cases h6:(o==24)
 rotate_left
 ·simp only[ey,qa,h1,h2,h3,h4,h5,h6,BL];simp only[ak,ai,f84];simp only[go_sem,fR,bR,fF,h1,h2,h3,h4,h5,h6,vm,AD,Gt,kz,bc];try rfl
 cases h7:(o==25)
 rotate_left
 ·simp only[ey,qa,h1,h2,h3,h4,h5,h6,h7,BL];simp only[ak,ai,f84];simp only[go_sem,fR,bR,fF,h1,h2,h3,h4,h5,h6,h7,vm,AD,Gt,kz,bc];try rfl
 cases h8:(o==28)
 rotate_left
 ·simp only[ey,qa,h1,h2,h3,h4,h5,h6,h7,h8,BL];simp only[ak,ai,f84];simp only[go_sem,fR,bR,fF,h1,h2,h3,h4,h5,h6,h7,h8,vm,AD,Gt,kz,bc];try rfl
 cases h9:(o==29)
 rotate_left
 ·simp only[ey,qa,h1,h2,h3,h4,h5,h6,h7,h8,h9,BL];simp only[ak,ai,f84];simp only[go_sem,fR,bR,fF,h1,h2,h3,h4,h5,h6,h7,h8,h9,vm,AD,Gt,kz,bc];try rfl
 cases dR:(o==39)
 rotate_left
 ·simp only[ey,qa,h1,h2,h3,h4,h5,h6,h7,h8,h9,dR,BL];simp only[ak,ai,f84];simp only[go_sem,fR,bR,fF,h1,h2,h3,h4,h5,h6,h7,h8,h9,dR,vm,AD,Gt,kz,bc];try rfl
 cases cT:(a7 o).n;rotate_left
 ·simp only[ey,qa,h1,h2,h3,h4,h5,h6,h7,h8,h9,dR,cT,BL];simp only[ak,ai,f84];simp only[go_sem,fR,bR,fF,h1,h2,h3,h4,h5,h6,h7,h8,h9,dR,cT,vm,AD,Gt,kz,bc];try rfl
 simp only[ey,qa,h1,h2,h3,h4,h5,h6,h7,h8,h9,dR,cT,BL];simp only[ak,ai,f84];simp only[go_sem,fR,bR,fF,h1,h2,h3,h4,h5,h6,h7,h8,h9,dR,cT,vm,AD,Gt,kz,bc];try rfl
noncomputable def c84:=bk (α:=(List bp) × (List Int) × (List ByteArray) × (List aP) × Int × Int × Int × Int × Int × Int) (fun (N,V,I,U,q,o,d,a,b,n)=>(LM N V I U)∧0≤q∧q≤100000) (fun (N,V,I,U,q,o,d,a,b,n)=>[(cd N V I U),J q,.st 80 [J o,J d,J a,J b,J n]]) (fun (N,V,I,U,q,o,d,a,b,n)=> .bool (ey N.length V.length I.length q o n))
theorem Zb (q:Int) (o d a b n:Int) (hp:(LM N V I U)∧0≤q∧q≤100000):c84 [(cd N V I U),J q,.st 80 [J o,J d,J a,J b,J n]]=some (.bool (ey N.length V.length I.length q o n)):=aJ (fun X Y hp bZ h'=>by
 obtain⟨N,V,I,U,q,o,d,a,b,n⟩:=X;obtain⟨c7,bJ,bL,bK,q',o',d',a',b',n'⟩:=Y;simp only[cJ] at h';obtain⟨rfl,rfl,rfl,rfl,rfl,rfl,rfl,rfl,rfl,rfl⟩:=h';rfl) (N,V,I,U,q,o,d,a,b,n) hp
theorem afr:cI 84 c84:=aE h84 rfl rfl fun (N,V,I,U,q,o,d,a,b,n) hp=>rc h84 (fun A=>afq N V I U q o d a b n hp A) (fun _=>[]) rfl rfl rfl (by kernel_rfl) ⟨Xr,N1,En,trivial⟩ trivial
def B0 (N:List bp) (au:List Int) (q:Int):Bool:=
 let o:=N.getD q.toNat bD
 gl o.op&&(decide (q+1 < (N.length:Int))&& !(dz (au.getD (q+1).toNat 0) o.d))
def nD (N:List bp) (V:List Int) (I:List ByteArray) (U:List aP) (au:List Int) (q:Int):Option aL:=
 let o:=N.getD q.toNat bD
 if (!(B0 N au q)&&(!(o.op==3) || !(o.d==o.a)))=true then none else some (cf N V I U q)
theorem h91:Q 91=some f91:=by kernel_rfl
theorem afs (q:Int) (hp:((LM N V I U)∧0≤q∧q.toNat < N.length∧(∀ o ∈ N,o.n < 9223372036854775808)∧(∀ r ∈ U,r.at_ < 9223372036854775808))∧au.length=N.length∧∀ o ∈ N,0≤o.d) :∃ r,wk r (aS (nD N V I U au q))∧∀ A,ak (env 63 72057594037928179 D0 [(117,Xx),(48,c48),(118,N_)] [] A) hN (5) f91 [(wv N V I U ao aj au),J q]=some r:=by
 obtain⟨Gj,hj⟩:=hp;have dO:=Gj.1;have h0:=Gj.2.1;have aR:=Gj.2.2.1;have kz:IntKind.i64.wrap (q+1)=q+1:=wrap_i64 (by omega) (by omega);have Gk:=BV N V I U ao aj au q Gj;have aw:=aD (d:=bD) aR;obtain⟨sk,hd⟩:=hj;have nG:N.getD q.toNat bD ∈ N:=List.mem_of_getElem? aw;have hdx:=hd _ nG;have Es:0≤q+1:=by omega
 have dh:q+1 < (N.length:Int)→au[(q+1).toNat]? = some (au.getD (q+1).toNat 0):=fun h=>aD (by omega)
 simp only[nD,B0];obtain⟨x,hx⟩:∃ x,N.getD q.toNat bD=x:=⟨_,rfl⟩
 obtain⟨s,hs0⟩:∃ s,au.getD (q+1).toNat 0=s:=⟨_,rfl⟩
 simp only[hx,hs0] at nG hdx aw dh ⊢;have e48:=Xs s x.d hdx;have J3:=RH x.op x.d x.a x.b x.n;obtain⟨hs,oO⟩:∃ hs,dz s x.d=hs:=⟨_,rfl⟩
 obtain⟨pu,pu1⟩:∃ pu,gl x.op=pu:=⟨_,rfl⟩
 simp only[oO,pu1] at e48 J3 ⊢;cases pu <;> cases h2:decide (q+1 < (N.length:Int)) <;> cases hs;all_goals
  simp only[decide_eq_true_eq,decide_eq_false_iff_not] at h2;simp only[BL];first
  | (have Ew:=dh h2
     apply bu
     ·intro A;simp only[ak,ai,f91];simp only[go_sem,e48,J3,Gk,aw,Ew,h2,h0,Es,kz];try rfl
     ·simp[WK,aS,ax,cf]
     done)
  | (cases h4:(x.op==3) <;> cases h5:(x.d==x.a)
     all_goals
      simp only[BL];first
      | (
         apply bu
         ·intro A;simp only[ak,ai,f91];simp only[go_sem,J3,aw,h2,h4,h5,h0,Es,kz];try rfl
         ·simp[WK,aS,ax]
         done)
      | (
         apply bu
         ·intro A;simp only[ak,ai,f91];simp only[go_sem,J3,Gk,aw,h2,h4,h5,h0,Es,kz];try rfl
         ·simp[WK,aS,ax,cf]
         done)
      | (have Ew:=dh h2
         apply bu
         ·intro A;simp only[ak,ai,f91];simp only[go_sem,e48,J3,aw,Ew,h2,h4,h5,h0,Es,kz];try rfl
         ·simp[WK,aS,ax]
         done)
      | (have Ew:=dh h2
         apply bu
         ·intro A;simp only[ak,ai,f91];simp only[go_sem,e48,J3,Gk,aw,Ew,h2,h4,h5,h0,Es,kz];try rfl
         ·simp[WK,aS,ax,cf]
         done))
noncomputable def c91:=bk (α:=(List bp) × (List Int) × (List ByteArray) × (List aP) × (List (List aB)) × (List Bool) × (List Int) × Int) (fun (N,V,I,U,ao,aj,au,q)=>((LM N V I U)∧0≤q∧q.toNat < N.length∧(∀ o ∈ N,o.n < 9223372036854775808)∧(∀ r ∈ U,r.at_ < 9223372036854775808))∧au.length=N.length∧∀ o ∈ N,0≤o.d) (fun (N,V,I,U,ao,aj,au,q)=>[(wv N V I U ao aj au),J q]) (fun (N,V,I,U,ao,aj,au,q)=>aS (nD N V I U au q))
theorem Zc (q:Int) (hp:((LM N V I U)∧0≤q∧q.toNat < N.length∧(∀ o ∈ N,o.n < 9223372036854775808)∧(∀ r ∈ U,r.at_ < 9223372036854775808))∧au.length=N.length∧∀ o ∈ N,0≤o.d):c91 [(wv N V I U ao aj au),J q]=some (aS (nD N V I U au q)):=aJ (fun X Y hp bZ h'=>by
 obtain⟨N,V,I,U,ao,aj,au,q⟩:=X;obtain⟨c7,bJ,bL,bK,gm,eW,jj,q'⟩:=Y;simp only[cJ] at h';obtain⟨rfl,rfl,rfl,rfl,rfl,rfl,rfl,rfl⟩:=h';rfl) (N,V,I,U,ao,aj,au,q) hp
theorem aft:cI 91 c91:=aE h91 rfl rfl fun (N,V,I,U,ao,aj,au,q) hp=>let ⟨_,hw,hr⟩:=afs N V I U ao aj au q hp;(rc h91 hr (fun i=>match i with | 2=>[0,1,3,7,15,7,39,103,231,487,999,2047,4095,8191,16383,32767,65535,131071,16383,278527,1048575,2097151,16383,4210687,16777215,33554431,67108863,134217727] | _=>[]) rfl rfl rfl (by kernel_rfl) ⟨Xy,adD,Gh,trivial⟩ trivial).eK hw
def mG (has:Bool) (n:Int):Bool:=(has&&(decide (0≤n)&&decide (n≤7))) || (!has&&n==0)
theorem R9 (has:Bool) (n:Int):((has&&(decide (0≤n)&&decide (n≤7))) || (!has&&n==0))=mG has n:=rfl
def hH (N:List bp) (li ls:Nat) (q:Int):Bool:=
 let o:=N.getD q.toNat bD
 if (!((a7 o.op).name.toList==(⟨#[]⟩:ByteArray).toList))=true then
  (if mG (a7 o.op).d o.d=true then (if mG (a7 o.op).a o.a=true then (if mG (a7 o.op).b o.b=true then ey N.length li ls q o.op o.n else false) else false) else false) else false
theorem h54:Q 54=some f54:=by kernel_rfl
theorem afu (q:Int) (hp:(LM N V I U)∧0≤q∧q.toNat < N.length) (A:NP):ak (env 49 247 D0 [(82,Xv),(83,c83),(84,c84)] [] A) hN (5) f54 [(cd N V I U),J q]=some (.bool (hH N V.length I.length q)):=by
 obtain⟨hl,h0,aR⟩:=hp;have aw:=aD (d:=bD) aR;simp only[hH];obtain⟨x,hx⟩:∃ x,N.getD q.toNat bD=x:=⟨_,rfl⟩
 simp only[hx] at aw ⊢;have e82:=fF x.op;have afv:=Ga (a7 x.op).d x.d;have afw:=Ga (a7 x.op).a x.a;have afx:=Ga (a7 x.op).b x.b;have e84:=Zb N V I U q x.op x.d x.a x.b x.n ⟨hl,h0,by omega⟩;rw[R9] at afv afw afx;generalize mG (a7 x.op).d x.d=r1 at *;generalize mG (a7 x.op).a x.a=r2 at *;generalize mG (a7 x.op).b x.b=r3 at *;generalize ey N.length V.length I.length q x.op x.n=r4 at *;cases h1:((a7 x.op).name.toList==(⟨#[]⟩:ByteArray).toList) <;> cases r1 <;> cases r2 <;> cases r3;all_goals
  simp only[BL];simp only[ak,ai,f54];simp only[go_sem,h1,e82,afv,afw,afx,e84,aw,h0];try rfl
noncomputable def c54:=bk (α:=(List bp) × (List Int) × (List ByteArray) × (List aP) × Int) (fun (N,V,I,U,q)=>(LM N V I U)∧0≤q∧q.toNat < N.length) (fun (N,V,I,U,q)=>[(cd N V I U),J q]) (fun (N,V,I,U,q)=> .bool (hH N V.length I.length q))
theorem iC (q:Int) (hp:(LM N V I U)∧0≤q∧q.toNat < N.length):c54 [(cd N V I U),J q]=some (.bool (hH N V.length I.length q)):=aJ (fun X Y hp bZ h'=>by
 obtain⟨N,V,I,U,q⟩:=X;obtain⟨c7,bJ,bL,bK,q'⟩:=Y;simp only[cJ] at h';obtain⟨rfl,rfl,rfl,rfl,rfl⟩:=h';rfl) (N,V,I,U,q) hp
theorem afy:cI 54 c54:=aE h54 rfl rfl fun (N,V,I,U,q) hp=>rc h54 (fun A=>afu N V I U q hp A) (fun _=>[]) rfl rfl rfl (by kernel_rfl) ⟨En,adN,afr,trivial⟩ trivial
def dE (p:Nat→Bool):Nat→Nat→Bool
 | _,0=>true
 | i,m+1=>p i&&dE p (i+1) m
def jl (s:ByteArray):Bool:=if (decide (64 < (s.size:Int)))=true then false else !(decide (0≤fT s 0))
def aU (N:List bp) (V:List Int) (I:List ByteArray) (U:List aP):Bool:=
 if (decide (1≤(N.length:Int))&&decide ((N.length:Int)≤500))=true then
  (if decide (200 < (V.length:Int))=true then false else if decide (200 < (I.length:Int))=true then false else if decide (500 < (U.length:Int))=true then false
   else if (!((N.getD (N.length - 1) bD).op==40))=true then false
   else if dE (fun i=>jl (I.getD i ⟨#[]⟩)) 0 I.length=true then (if dE (fun i=>hH N V.length I.length i) 0 N.length=true then dE (fun i=>fU N U i) 0 U.length else false) else false)
 else false
def cy (b:Bool):Int:=if b=true then 0 else 150
theorem h33:Q 33=some f33:=by kernel_rfl
def B1:Nat→Hint:=fun i=>if i=5 then ({ tm:=[1,43,44,45],ob:=[1],fin:=some ([1,2],[1]) }:Hint) else if i=11 then ({ tm:=[1,60,61],ob:=[1],fin:=some ([1,2],[1]) }:Hint) else if i=17 then ({ tm:=[1,71,72],ob:=[1],fin:=some ([1,2],[1]) }:Hint) else { tm:=[],ob:=[] }
theorem lW:B1 5=({ tm:=[1,43,44,45],ob:=[1],fin:=some ([1,2],[1]) }:Hint):=by simp[B1]
theorem jm:B1 11=({ tm:=[1,60,61],ob:=[1],fin:=some ([1,2],[1]) }:Hint):=by simp[B1]
theorem jn:B1 17=({ tm:=[1,71,72],ob:=[1],fin:=some ([1,2],[1]) }:Hint):=by simp[B1]
theorem Oj (hl:LM N V I U) (p:Nat→Bool) (yI:∀ i,i < I.length→p i=jl (I.getD i ⟨#[]⟩)) (A:NP) (k:Nat):∀ (m i:Nat) (σ:St),i+m=I.length→
 σ.cA (B1 5)=⟨[(1,pb 1 27),(43,.sl 9 gF (I.map eS)),(44,J I.length),(45,J i)],[(1,(bC N V I U))]⟩→
 post (B1 5) (aG ty (a9 (env 80 318915454188557432783087 D0 [(52,NI),(53,c53),(54,c54),(55,c55)] [] A) B1 k (sub (f33.body.getD .skip) [1,1,1,0,1,0,0])) (B1 5) (m+1) σ) =
 some (if dE p i m=true then (.exit 0,⟨[(1,pb 1 27)],[(1,(bC N V I U))]⟩) else (.ret,⟨[(1,pb 1 27),(2,J 150)],[(1,(bC N V I U))]⟩)):=by
 simp only[f33,sub,Option.getD_some,lW];intro m
 induction m with
 | zero=>
   intro i σ hi hσ;have h1:¬ ((i:Int) < ((I.length:Nat):Int)):=by omega
   rw[aG,hσ];simp only[go_sem,h1];simp[post,St.fin,aQ,aA,dE]
 | succ m ih=>
   intro i σ hi hσ;have h1:(i:Int) < ((I.length:Nat):Int):=by omega
   have aR:i < I.length:=by omega
   have hw:IntKind.i64.wrap ((i:Int)+1)=((i+1:Nat):Int):=a_ (by omega);have aw:=aD (d:=(⟨#[]⟩:ByteArray)) aR;have pM:=yI i aR;have cY:(0:Int)≤(i:Int):=Int.natCast_nonneg i;generalize I.getD i ⟨#[]⟩=s at *;have e53:=iA s 0;simp only[jl] at pM;generalize fT s 0=ix at *;generalize rV:decide (64 < (s.size:Int))=b1 at *;generalize hd2:decide (0≤ix)=b2 at *;rw[aG,hσ];cases hq:p i;all_goals
    rw[hq] at pM;cases b1 <;> cases b2
   all_goals first | (simp at pM;done) | skip
   all_goals
    simp only[go_sem,kj,iC,iB,h1,cY,aw,hw,e53,rV,hd2];simp only[dE,hq,BL];first
    | (simp[post,St.fin,aQ,aA];done)
    | exact ih (i+1) _ (by omega) (by simp only[go_sem])
theorem J4 (hl:LM N V I U) (p:Nat→Bool) (yI:∀ i,i < N.length→p i=hH N V.length I.length i) (A:NP) (k:Nat):∀ (m i:Nat) (σ:St),i+m=N.length→
 σ.cA (B1 11)=⟨[(1,pb 1 27),(60,J N.length),(61,J i)],[(1,(bC N V I U))]⟩→
 post (B1 11) (aG ty (a9 (env 80 318915454188557432783087 D0 [(52,NI),(53,c53),(54,c54),(55,c55)] [] A) B1 k (sub (f33.body.getD .skip) [1,1,1,1,0,1,0,0])) (B1 11) (m+1) σ) =
 some (if dE p i m=true then (.exit 2,⟨[(1,pb 1 27)],[(1,(bC N V I U))]⟩) else (.ret,⟨[(1,pb 1 27),(2,J 150)],[(1,(bC N V I U))]⟩)):=by
 simp only[f33,sub,Option.getD_some,jm];intro m
 induction m with
 | zero=>
   intro i σ hi hσ;have h1:¬ ((i:Int) < ((N.length:Nat):Int)):=by omega
   rw[aG,hσ];simp only[go_sem,h1];simp[post,St.fin,aQ,aA,dE]
 | succ m ih=>
   intro i σ hi hσ;have h1:(i:Int) < ((N.length:Nat):Int):=by omega
   have aR:i < N.length:=by omega
   have hw:IntKind.i64.wrap ((i:Int)+1)=((i+1:Nat):Int):=a_ (by omega);have pM:=yI i aR;have e54:=iC N V I U i ⟨hl,Int.natCast_nonneg i,by simpa using aR⟩;rw[← pM] at e54;rw[aG,hσ];cases hq:p i;all_goals
    rw[hq] at e54
    skip
   all_goals
    simp only[go_sem,kj,iA,iB,h1,hw,e54];simp only[dE,hq,BL];first
    | (simp[post,St.fin,aQ,aA];done)
    | exact ih (i+1) _ (by omega) (by simp only[go_sem])
theorem J5 (hl:LM N V I U) (hs:(LS U)) (p:Nat→Bool) (yI:∀ i,i < U.length→p i=fU N U i) (A:NP) (k:Nat):∀ (m i:Nat) (σ:St),i+m=U.length→
 σ.cA (B1 17)=⟨[(1,pb 1 27),(71,J U.length),(72,J i)],[(1,(bC N V I U))]⟩→
 post (B1 17) (aG ty (a9 (env 80 318915454188557432783087 D0 [(52,NI),(53,c53),(54,c54),(55,c55)] [] A) B1 k (sub (f33.body.getD .skip) [1,1,1,1,1,0,1,0,0])) (B1 17) (m+1) σ) =
 some (if dE p i m=true then (.exit 4,⟨[(1,pb 1 27)],[(1,(bC N V I U))]⟩) else (.ret,⟨[(1,pb 1 27),(2,J 150)],[(1,(bC N V I U))]⟩)):=by
 simp only[f33,sub,Option.getD_some,jn];intro m
 induction m with
 | zero=>
   intro i σ hi hσ;have h1:¬ ((i:Int) < ((U.length:Nat):Int)):=by omega
   rw[aG,hσ];simp only[go_sem,h1];simp[post,St.fin,aQ,aA,dE]
 | succ m ih=>
   intro i σ hi hσ;have h1:(i:Int) < ((U.length:Nat):Int):=by omega
   have aR:i < U.length:=by omega
   have hw:IntKind.i64.wrap ((i:Int)+1)=((i+1:Nat):Int):=a_ (by omega);have pM:=yI i aR;have e55:=iB N V I U i ⟨hl.1,hl.2.2.2,Int.natCast_nonneg i,by simpa using aR,hs⟩;rw[← pM] at e55;rw[aG,hσ];cases hq:p i;all_goals
    rw[hq] at e55
    skip
   all_goals
    simp only[go_sem,kj,iA,iC,h1,hw,e55];simp only[dE,hq,BL];first
    | (simp[post,St.fin,aQ,aA];done)
    | exact ih (i+1) _ (by omega) (by simp only[go_sem])
theorem afz (hp:(LM N V I U)∧(LS U)) (A:NP):ak (env 80 318915454188557432783087 D0 [(52,NI),(53,c53),(54,c54),(55,c55)] [] A) (B1) (100010) f33 [(cd N V I U)]=some (J (cy (aU N V I U))):=by
 obtain⟨hl,hs⟩:=hp;have AN:=Oj N V I U hl (fun i=>jl (I.getD i ⟨#[]⟩)) (fun _ _=>rfl) A 100010 I.length 0;have afA:=J4 N V I U hl (fun i=>hH N V.length I.length i) (fun _ _=>rfl) A 100010 N.length 0;have Ok:=J5 N V I U hl hs (fun i=>fU N U i) (fun _ _=>rfl) A 100010 U.length 0;simp only[f33,sub,Option.getD_some,lW,jm,jn] at AN afA Ok;have o7:=kj (N.length:Int) 1 500;have lJ:IntKind.i64.wrap ((N.length:Int) - 1)=(N.length:Int) - 1:=wrap_i64 (by omega) (by omega);simp only[aU];generalize hq5:dE (fun i=>jl (I.getD i ⟨#[]⟩)) 0 I.length=a1 at *;generalize apa:dE (fun i=>hH N V.length I.length i) 0 N.length=a2 at *;generalize afB:dE (fun i=>fU N U i) 0 U.length=a3 at *
 have gq:(decide (1≤(N.length:Int))&&decide ((N.length:Int)≤500))=true→1≤N.length:=fun h=>by simp at h;omega
 generalize (decide (1≤(N.length:Int))&&decide ((N.length:Int)≤500))=b0 at *;cases b0
 ·have h0:=trivial;have aw:=trivial;simp only[cy,BL];simp only[ak,ai,f33];simp only[go_sem,iA,iC,iB,o7,d1,d2,d3,d4,lJ,h0,aw,lW,jm,jn];try rfl
 have hpo:=gq rfl;have h0:0≤(N.length:Int) - 1:=by omega
 have aw:=aD (d:=bD) (show N.length - 1 < N.length by omega);have afC:((N.length:Int) - 1).toNat=N.length - 1:=by omega
 rw[← afC] at aw;rw[← afC];generalize N.getD ((N.length:Int) - 1).toNat bD=x at *;cases d1:decide (200 < (V.length:Int));rotate_left
 ·simp only[cy,BL];simp only[ak,ai,f33];simp only[go_sem,iA,iC,iB,o7,d1,d2,d3,d4,lJ,h0,aw,lW,jm,jn];try rfl
 cases d2:decide (200 < (I.length:Int));rotate_left
 ·simp only[cy,BL];simp only[ak,ai,f33];simp only[go_sem,iA,iC,iB,o7,d1,d2,d3,d4,lJ,h0,aw,lW,jm,jn];try rfl
 cases d3:decide (500 < (U.length:Int));rotate_left
 ·simp only[cy,BL];simp only[ak,ai,f33];simp only[go_sem,iA,iC,iB,o7,d1,d2,d3,d4,lJ,h0,aw,lW,jm,jn];try rfl
 cases d4:(x.op==40)
 ·simp only[cy,BL];simp only[ak,ai,f33];simp only[go_sem,iA,iC,iB,o7,d1,d2,d3,d4,lJ,h0,aw,lW,jm,jn];try rfl
 simp only[ak,ai,f33];simp only[go_sem,iA,iC,iB,o7,d1,d2,d3,d4,lJ,h0,aw,lW,jm,jn];rw[aY (AN _ (by simp) (by simp only[go_sem])) (by omega)];cases a1
 ·simp only[go_sem,iA,iC,iB,o7,d1,d2,d3,d4,lJ,h0,aw,lW,jm,jn];simp only[cy,BL];try rfl
 simp only[go_sem,iA,iC,iB,o7,d1,d2,d3,d4,lJ,h0,aw,lW,jm,jn];rw[aY (afA _ (by simp) (by simp only[go_sem])) (by omega)];cases a2
 ·simp only[go_sem,iA,iC,iB,o7,d1,d2,d3,d4,lJ,h0,aw,lW,jm,jn];simp only[cy,BL];try rfl
 simp only[go_sem,iA,iC,iB,o7,d1,d2,d3,d4,lJ,h0,aw,lW,jm,jn];rw[aY (Ok _ (by simp) (by simp only[go_sem])) (by omega)];cases a3
 ·simp only[go_sem,iA,iC,iB,o7,d1,d2,d3,d4,lJ,h0,aw,lW,jm,jn];simp only[cy,BL];try rfl
 simp only[go_sem,iA,iC,iB,o7,d1,d2,d3,d4,lJ,h0,aw,lW,jm,jn];simp only[cy,BL];try rfl
noncomputable def o_:=bk (α:=(List bp) × (List Int) × (List ByteArray) × (List aP)) (fun (N,V,I,U)=>(LM N V I U)∧(LS U)) (fun (N,V,I,U)=>[(cd N V I U)]) (fun (N,V,I,U)=>J (cy (aU N V I U)))
theorem qb (hp:(LM N V I U)∧(LS U)):o_ [(cd N V I U)]=some (J (cy (aU N V I U))):=aJ (fun X Y hp bZ h'=>by
 obtain⟨N,V,I,U⟩:=X;obtain⟨c7,bJ,bL,bK⟩:=Y;simp only[cJ] at h';obtain⟨rfl,rfl,rfl,rfl⟩:=h';rfl) (N,V,I,U) hp
theorem Ex:cI 33 o_:=aE h33 rfl rfl fun (N,V,I,U) hp=>rc h33 (fun A=>afz N V I U hp A) (fun _=>[]) rfl rfl rfl (by kernel_rfl) ⟨Em,afl,afy,afp,trivial⟩ trivial
def eG (N:List bp) (q:Int):List Int:=
 let o:=N.getD q.toNat bD
 if (o.op==40)=true then [] else if (o.op==24)=true then [o.n] else if (o.op==25)=true then (if (o.n==q+1)=true then [q+1] else [q+1,o.n]) else [q+1]
def kq (ok:Bool) (N:List bp) (q:Int):List Int × Int:=if ok=true then (if (decide (0≤q)&&decide (q≤(N.length:Int) - 1))=true then (eG N q,0) else ([],1)) else ([],150)
theorem y6 (a b:Int):[a,b].map eI=[.int .i64 a,.int .i64 b]:=rfl
theorem y7 (a:Int):[a].map eI=[.int .i64 a]:=rfl
theorem y8:([]:List Int).map eI=[]:=rfl
theorem h88:Tryz.prog.funcs[88]? = some f88:=by kernel_rfl
theorem afD (q:Int) (hp:(LM N V I U)∧∀ r ∈ U,r.str.size≤9223372036854775807∧r.mem.size≤9223372036854775807) :∃ r,wk r (.cE [.sl 3 gT ((kq (aU N V I U) N q).1.map eI),.int .i64 (kq (aU N V I U) N q).2])∧∀ A,ak (env 51 9094593775863 D0 [(33,o_),(52,NI)] [] A) hN (5) f88 [(cd N V I U),.int .i64 q]=some r:=by
 have hl:=hp.1;have mP:=qb N V I U hp;have o7:=kj q 0 ((N.length:Int) - 1);have lJ:IntKind.i64.wrap ((N.length:Int) - 1)=(N.length:Int) - 1:=wrap_i64 (by omega) (by omega);simp only[kq];generalize aU N V I U=ok at *;cases ok
 ·simp only[cy,BL] at mP ⊢;apply bu
  ·intro A;simp only[ak,ai,f88];simp only[go_sem,mP,o7,lJ];try rfl
  ·simp[WK,aS,ax,y8,y7,y6,eI]
 simp only[cy,BL] at mP ⊢;have hb:(decide (0≤q)&&decide (q≤(N.length:Int) - 1))=true→0≤q∧q.toNat < N.length:=fun h=>by simp at h;omega
 generalize (decide (0≤q)&&decide (q≤(N.length:Int) - 1))=b at *;cases b
 ·simp only[BL];apply bu
  ·intro A;simp only[ak,ai,f88];simp only[go_sem,mP,o7,lJ];try rfl
  ·simp[WK,aS,ax,y8,y7,y6,eI]
 obtain⟨h0,aR⟩:=hb rfl;have kz:IntKind.i64.wrap (q+1)=q+1:=wrap_i64 (by omega) (by omega);have aw:=aD (d:=bD) aR;simp only[eG,BL];generalize N.getD q.toNat bD=x at *;cases IT:(x.op==40)
 rotate_left
 ·simp only[BL];apply bu
  ·intro A;simp only[ak,ai,f88];simp only[go_sem,mP,o7,lJ,aw,h0,IT];try rfl
  ·simp[WK,aS,ax,y8,y7,y6,eI]
 cases gM:(x.op==24)
 rotate_left
 ·simp only[BL];apply bu
  ·intro A;simp only[ak,ai,f88];simp only[go_sem,mP,o7,lJ,aw,h0,IT,gM];try rfl
  ·simp[WK,aS,ax,y8,y7,y6,eI]
 cases dU:(x.op==25)
 ·simp only[BL];apply bu
  ·intro A;simp only[ak,ai,f88];simp only[go_sem,mP,o7,lJ,aw,h0,kz,IT,gM,dU];try rfl
  ·simp[WK,aS,ax,y8,y7,y6,eI]
 cases hn:(x.n==q+1)
 all_goals
  simp only[BL];apply bu
  ·intro A;simp only[ak,ai,f88];simp only[go_sem,mP,o7,lJ,aw,h0,kz,IT,gM,dU,hn];try rfl
  ·simp[WK,aS,ax,y8,y7,y6,eI]
noncomputable def c88:=bk (α:=(List bp) × (List Int) × (List ByteArray) × (List aP) × Int) (fun (N,V,I,U,q)=>(LM N V I U)∧∀ r ∈ U,r.str.size≤9223372036854775807∧r.mem.size≤9223372036854775807) (fun (N,V,I,U,q)=>[(cd N V I U),.int .i64 q]) (fun (N,V,I,U,q)=> .cE [.sl 3 gT ((kq (aU N V I U) N q).1.map eI),.int .i64 (kq (aU N V I U) N q).2])
theorem Zd (q:Int) (hp:(LM N V I U)∧∀ r ∈ U,r.str.size≤9223372036854775807∧r.mem.size≤9223372036854775807):c88 [(cd N V I U),.int .i64 q]=some (.cE [.sl 3 gT ((kq (aU N V I U) N q).1.map eI),.int .i64 (kq (aU N V I U) N q).2]):=aJ (fun X Y hp bZ h'=>by
 obtain⟨N,V,I,U,q⟩:=X;obtain⟨c7,bJ,bL,bK,q'⟩:=Y;simp only[cJ] at h';obtain⟨rfl,rfl,rfl,rfl,rfl⟩:=h';rfl) (N,V,I,U,q) hp
theorem afE:cI 88 c88:=aE h88 rfl rfl fun (N,V,I,U,q) hp=>let ⟨_,hw,hr⟩:=afD N V I U q hp;(rc h88 hr (fun _=>[]) rfl rfl rfl (by kernel_rfl) ⟨Ex,Em,trivial⟩ trivial).eK hw
theorem h57:Tryz.prog.funcs[57]? = some f57:=by kernel_rfl
theorem afF (q:Int) (hp:(LM N V I U)∧∀ r ∈ U,r.str.size≤9223372036854775807∧r.mem.size≤9223372036854775807) (A:Nat→Prop):ak (env 14 55 D0 [(88,c88)] [] A) hN (5) f57 [(cd N V I U),.int .i64 q]=some (.sl 3 gT ((kq (aU N V I U) N q).1.map eI)):=by
 have e88:=Zd N V I U q hp;simp only[ak,ai,f57];simp only[go_sem,e88]
noncomputable def R_:=bk (α:=(List bp) × (List Int) × (List ByteArray) × (List aP) × Int) (fun (N,V,I,U,q)=>(LM N V I U)∧∀ r ∈ U,r.str.size≤9223372036854775807∧r.mem.size≤9223372036854775807) (fun (N,V,I,U,q)=>[(cd N V I U),.int .i64 q]) (fun (N,V,I,U,q)=> .sl 3 gT ((kq (aU N V I U) N q).1.map eI))
theorem Ol (q:Int) (hp:(LM N V I U)∧∀ r ∈ U,r.str.size≤9223372036854775807∧r.mem.size≤9223372036854775807):R_ [(cd N V I U),.int .i64 q]=some (.sl 3 gT ((kq (aU N V I U) N q).1.map eI)):=aJ (fun X Y hp bZ h'=>by
 obtain⟨N,V,I,U,q⟩:=X;obtain⟨c7,bJ,bL,bK,q'⟩:=Y;simp only[cJ] at h';obtain⟨rfl,rfl,rfl,rfl,rfl⟩:=h';rfl) (N,V,I,U,q) hp
theorem afG:cI 57 R_:=aE h57 rfl rfl fun (N,V,I,U,q) hp=>rc h57 (fun A=>afF N V I U q hp A) (fun _=>[]) rfl rfl rfl (by kernel_rfl) ⟨afE,trivial⟩ trivial
end Go.Proofs.Tryz
end
