/- A part of a proof. -/
import Derived.Orders
import Derived.Carry
import Derived.WalkKit
import Derived.Laws.Tables
import Derived.RangeFuncOwn
import Derived.Test.YtbdbjpdlcemeaaaGreatDoorRu02
import Derived.Test.YtbdbjpdlcemeaaaGreatDoorRu03
set_option linter.unusedSimpArgs false
set_option linter.unusedVariables false
section
namespace Go.Abs
open Go Go.RowKit
theorem AH {E:Env} {L:List Oper}:∀ r σ,lO E L [] r σ=A6 E L r σ
 | [],σ=>rfl
 | o::r,σ=>by
   have:∀ σ',E8 E L o vP σ σ'=true:=fun σ'=>by simp[E8,vP]
   simp only[lO,A6,List.headD_nil,this,if_true,List.tail_nil];congr;funext σ';exact AH r σ'
theorem uM {E:Env} {L:List Oper}:∀ (r:List Oper) (hs:List DH) (σ σ':St),lO E L hs r σ=some σ'→
 ∃ gB:Nat→St,gB 0=σ∧gB r.length=σ'∧∀ k o,r[k]? = some o→u_ E L o (gB k)=some (gB (k+1))∧E8 E L o (hs.getD k vP) (gB k) (gB (k+1))=true
 | [],hs,σ,σ',h=>by
   simp only[lO] at h;injection h with h
   exact⟨fun _=>σ,rfl,h,fun k o hk=>by simp at hk⟩
 | o::r,hs,σ,σ',h=>by
   simp only[lO] at h;obtain⟨σ1,h1,h2⟩:=aq h;split at h2
   ·rename_i gU;obtain⟨gB,s1,s2,s3⟩:=uM r hs.tail σ1 σ' h2;refine⟨fun k=>match k with | 0=>σ | k+1=>gB k,rfl,s2,fun k q hk=>?_⟩;cases k with
    | zero=>
      simp at hk;subst hk;have e:hs.getD 0 vP=hs.headD vP:=by cases hs <;> rfl
      rw[e];exact⟨by show u_ E L o σ=some (gB 0);rw[h1,s1],by show E8 E L o _ σ (gB 0)=true;rw[s1];exact gU⟩
    | succ k=>
      have e:hs.getD (k+1) vP=hs.tail.getD k vP:=by cases hs <;> simp
      rw[e];exact s3 k q (by simpa using hk)
   ·cases h2
def looks (L:List Oper) (o:Oper):List Nat:=
 (o.op.operands.toList.filterMap fun | .tmp t=>some t | _=>none)++(match o.guard with | some (g,_)=>(ib L g).toList | none=>[])
def xT (M:List Nat):List Edge→Nat
 | []=>0
 | e::r=>if Region.binds .any e=true then (1 <<< e.on) ||| M.getD e.on 0 ||| xT M r else xT M r
def cmp (M:List Nat) (i k:Nat):Bool:=(M.getD i 0).testBit k || (M.getD k 0).testBit i
def lz (Q:FuncId→Bool) (L:List Oper) (hs:List DH) (i k:Nat) (oi ok:Oper):Bool:=
 (match ok.dst with | none=>true | some t=> !(looks L oi).contains t&&oi.dst != some t)&&
 (!Ri Q ok.op || (!(hs.getD k vP).wr.isEmpty&&(hs.getD k vP).wr.all fun o=>(hs.getD i vP).del.contains o&& !(hs.getD i vP).wr.contains o))
def n_ (Q:FuncId→Bool) (L:List Oper) (hs:List DH) (kg M:List Nat) (i:Nat) (oi:Oper):Bool:=
 (decide (M.getD i 0 < 2 ^ i)&&(M.getD i 0==xT M oi.after.toList)&&oi.after.toList.all (fun e=> !Region.binds .any e || decide (e.on < i)))&&
 ((List.range L.length).all fun k=>k==i || cmp M i k || (match L[k]? with | none=>true | some ok=>lz Q L hs i k oi ok))&&
 (!il Q oi.op || ((List.range L.length).all fun k=>k==i || cmp M i k) ||
   (kg.contains (oi.dst.getD 0)&&(List.range L.length).all fun k=>k==i || (M.getD k 0).testBit i || (hs.getD k vP).nom.contains (oi.dst.getD 0)))
def cert (Q:FuncId→Bool) (L:List Oper) (hs:List DH) (kg M:List Nat):Bool:=(List.range L.length).all fun i=>match L[i]? with | none=>true | some oi=>n_ Q L hs kg M i oi
theorem pZ {M:List Nat} {k:Nat}:∀ l,(xT M l).testBit k=true→∃ e ∈ l,Region.binds .any e=true∧(e.on=k∨(M.getD e.on 0).testBit k=true)
 | [],h=>by simp[xT] at h
 | e::r,h=>by
   simp only[xT] at h;split at h
   ·rename_i hb;simp only[Nat.testBit_or,Bool.or_eq_true] at h;rcases h with (h | h) | h
    ·refine⟨e,by simp,hb,.inl ?_⟩;rw[Nat.one_shiftLeft,Nat.testBit_two_pow] at h;simpa using h
    ·exact⟨e,by simp,hb,.inr h⟩
    ·obtain⟨e',h1,h2⟩:=pZ r h;exact⟨e',by simp[h1],h2⟩
   ·obtain⟨e',h1,h2⟩:=pZ r h;exact⟨e',by simp[h1],h2⟩
def Fr (d:Nat) (σ:St):Prop:=(∀ t v,aA t σ.tm=some v→bA d v=false)∧(∀ o b,aA o σ.ob=some b→o ≠ d→b.bA d=false)
theorem Fr.of {d:Nat} {σ:St} (h:σ.free d=true):Fr d σ:=by
 simp only[St.free,Bool.and_eq_true] at h;exact⟨fun t v=>iI h.1 t v,fun o b=>kU h.2 o b⟩
def St.norm (σ:St):St:=⟨aQ σ.tm (σ.tm.map (·.1)),aQ σ.ob (σ.ob.map (·.1))⟩
theorem sN {α:Type} {t:Nat}:∀ {l:List (Nat × α)},t ∉ l.map (·.1)→aA t l=none
 | [],_=>rfl
 | (u,v)::r,h=>by
   simp only[List.map_cons,List.mem_cons,not_or] at h;simp only[aA];rw[if_neg (fun e=>h.1 e.symm)];exact sN h.2
theorem p5 {α:Type} (l:List (Nat × α)) (t:Nat):∀ ts,t ∈ ts→aA t (aQ l ts)=aA t l
 | [],h=>by simp at h
 | u::r,h=>by
   simp only[aQ];by_cases e:u=t
   ·subst e;split
    ·rename_i v hv;simp[aA,hv]
    ·rename_i hv;rw[hv];cases hq:aA u (aQ l r) with
     | none=>rfl
     | some y=>rw[fZ l r u y hq] at hv;cases hv
   ·have hm:t ∈ r:=by
     rcases List.mem_cons.1 h with h | h
     ·exact absurd h.symm e
     ·exact h
    split
    ·simp only[aA];rw[if_neg e];exact p5 l t r hm
    ·exact p5 l t r hm
theorem AI {α:Type} (l:List (Nat × α)) (t:Nat):aA t (aQ l (l.map (·.1)))=aA t l:=by
 by_cases h:t ∈ l.map (·.1)
 ·exact p5 l t _ h
 ·rw[sN h];cases hq:aA t (aQ l (l.map (·.1))) with
  | none=>rfl
  | some y=>rw[← fZ l _ t y hq,sN h]
theorem p6 {d:Nat} {l:List (Nat × AV)} (h:∀ t v,aA t l=some v→bA d v=false):∀ ts,St.free.qs d (aQ l ts)=true
 | []=>rfl
 | t::r=>by
   simp only[aQ];split
   ·rename_i v hv;simp[St.free.qs,h t v hv,p6 h r]
   ·exact p6 h r
theorem p7 {d:Nat} {l:List (Nat × Obj)} (h:∀ o b,aA o l=some b→o ≠ d→b.bA d=false):∀ ts,St.free.kZ d (aQ l ts)=true
 | []=>rfl
 | t::r=>by
   simp only[aQ];split
   ·rename_i b hb;simp only[St.free.kZ,Bool.and_eq_true,Bool.or_eq_true,p7 h r,and_true];by_cases e:t=d
    ·exact .inl (by simp[e])
    ·refine .inr ?_;have:=h t b hb e;unfold Obj.bA at this;cases hr:b.r with
     | box t=>simp only[hr] at this ⊢;simp[this]
     | row t=>simp[bA.du]
     | oQ t=>simp only[hr] at this ⊢;simp[this]
   ·exact p7 h r
theorem Fr.norm {d:Nat} {σ:St} (h:Fr d σ):σ.norm.free d=true:=by
 simp only[St.free,Bool.and_eq_true];exact⟨p6 h.1 _,p7 h.2 _⟩
def oU (d:Option Nat) (x:AV) (l:List (Nat × AV)):List (Nat × AV):=match d with | some t=>bE t x l | none=>l
section
variable {E:Env} {L:List Oper} {o:Oper}
theorem uN {σ σ1:St} {d:Option Nat} {x:AV × List (Nat × Obj)} (h:bI E σ d x=some σ1):σ1.tm=oU d x.1 σ.tm∧σ1.ob=x.2∧∀ τ,bI E τ d x=some ⟨oU d x.1 τ.tm,x.2⟩:=by
 unfold bI at h ⊢;cases d with
 | none=>simp only at h;injection h with h;subst h;exact⟨rfl,rfl,fun _=>rfl⟩
 | some t=>
   simp only at h;split at h
   ·rename_i hl;injection h with h;subst h;exact⟨rfl,rfl,fun _=>by simp[oU,hl]⟩
   ·cases h
theorem xU {σ σ1:St} {d:Option Nat} {x:AV} {b:List (Nat × Obj)} (h:bI E σ d (x,b)=some σ1) (τ:St) (b':List (Nat × Obj)):bI E τ d (x,b')=some ⟨oU d x τ.tm,b'⟩:=by
 unfold bI at h ⊢;cases d with
 | none=>rfl
 | some t=>
   simp only at h ⊢;split at h
   ·rename_i hl;simp[oU,hl]
   ·cases h
theorem Eg {G:cC} {s τ:St} {y:Operand} (h:∀ t,y = .tmp t→aA t s.tm=aA t τ.tm) (v:AV) (hv:s.val G y=some v):τ.val G y=some v:=by
 cases y with
 | tmp t=>simp only[St.val] at hv ⊢;rw[← h t rfl];exact hv
 | _=>exact hv
theorem Iy {G:cC} {s σ:St} (h:σ.tm=s.tm):∀ l,dZ G σ l=dZ G s l
 | []=>rfl
 | x::r=>by
   have:σ.val G x=s.val G x:=by cases x <;> simp[St.val,h]
   simp only[dZ,this,Iy h r]
theorem Wn {Q:FuncId→Bool} {G:cC} {d:Nat} {s σ:St} (h:σ.tm=s.tm) (op:Op):A7 Q G d σ op=A7 Q G d s op:=by
 cases op <;> simp only[A7]
 ·rename_i t a v;have:σ.val G a=s.val G a:=by cases a <;> simp[St.val,h]
  rw[this]
 ·simp only[pP,Iy h]
theorem BG {s s1 σ σ1 τ:St} (hs:u_ E L o s=some s1) (hσ:u_ E L o σ=some σ1) (Iw:σ.tm=s.tm)
 (hle:∀ k b,aA k σ.ob=some b→aA k s.ob=some b) (aj6:∀ k b,aA k σ.ob=some b→aA k τ.ob=some b)
 (hv:∀ t ∈ looks L o,aA t s.tm=aA t τ.tm) (hf:il E.Q o.op=true→s.free (o.dst.getD 0)=true→τ.free (o.dst.getD 0)=true) :
 ∃ x b,u_ E L o τ=some ⟨oU o.dst x τ.tm,b⟩∧s1.tm=oU o.dst x s.tm∧(Qd (A7 E.Q E.G (o.dst.getD 0) s o.op) s.ob s1.ob τ.ob b∨(s1.ob=s.ob∧b=τ.ob)):=by
 have hvv:∀ y ∈ o.op.operands.toList,∀ t,y = .tmp t→aA t s.tm=aA t τ.tm:=fun y hy t e=>hv t (by
  subst e;exact List.mem_append_left _ (List.mem_filterMap.2 ⟨.tmp t,hy,rfl⟩))
 have main:∀ (hs:av (aZ E (o.dst.getD 0) s o.op) (bI E s o.dst)=some s1) (hσ:av (aZ E (o.dst.getD 0) σ o.op) (bI E σ o.dst)=some σ1),
  ∃ x b,av (aZ E (o.dst.getD 0) τ o.op) (bI E τ o.dst)=some ⟨oU o.dst x τ.tm,b⟩∧s1.tm=oU o.dst x s.tm∧Qd (A7 E.Q E.G (o.dst.getD 0) s o.op) s.ob s1.ob τ.ob b:=fun hs hσ=>by
  obtain⟨⟨x,b⟩,h1,h2⟩:=aq hs;obtain⟨⟨x',b'⟩,h3,h4⟩:=aq hσ;obtain⟨b2,k1,k2⟩:=Ay (τ:=s) (fun y hy v hv=>Eg (s:=σ) (fun t e=>by rw[Iw]) v hv) hle (fun ha=>Az h1 ha) h3;rw[k1] at h1;injection h1 with h1;injection h1 with h1 h5;subst h1;subst h5
  obtain⟨b3,k3,k4⟩:=Ay (τ:=τ) (fun y hy v hv=>Eg (s:=σ) (fun t e=>by rw[Iw];exact hvv y hy t e) v hv) aj6 (fun ha=>hf ha (Az k1 ha)) h3;obtain⟨e1,e2,_⟩:=uN h2;refine⟨x',b3,by rw[k3,aN];exact xU h2 τ b3,e1,?_⟩;rw[e2];rw[Wn Iw] at k2 k4;exact⟨fun q hq=>⟨(k2.1 q hq).2,(k4.1 q hq).2⟩,fun q hq=>by rw[← k2.2 q hq,← k4.2 q hq]⟩
 have skip:∀ (hs:bI E s o.dst (.cE [],s.ob)=some s1),∃ x b,bI E τ o.dst (.cE [],τ.ob)=some ⟨oU o.dst x τ.tm,b⟩∧s1.tm=oU o.dst x s.tm∧s1.ob=s.ob∧b=τ.ob:=fun hs=>by
  obtain⟨e1,e2,_⟩:=uN hs;exact⟨.cE [],τ.ob,xU hs τ τ.ob,e1,e2,rfl⟩
 unfold u_ at hs hσ ⊢;split at hs
 ·rename_i hg;simp only[hg] at hσ ⊢;obtain⟨x,b,h1,h2,h3⟩:=main hs hσ;exact⟨x,b,h1,h2,.inl h3⟩
 ·rename_i j q hg;simp only[hg] at hσ ⊢;split at hs
  ·rename_i t ht;simp only[ht,Iw] at hσ ⊢;have ha:aA t τ.tm=aA t s.tm:=(hv t (by simp[looks,hg,ht])).symm;simp only[ha];split at hs
   ·rename_i c hc;simp only[hc] at hσ ⊢;split at hs
    ·rename_i e;simp only[e,if_true] at hσ ⊢;obtain⟨x,b,h1,h2,h3⟩:=main hs hσ;exact⟨x,b,h1,h2,.inl h3⟩
    ·rename_i e;simp only[e,if_false] at hσ ⊢;obtain⟨x,b,h1,h2,h3⟩:=skip hs;exact⟨x,b,h1,h2,.inr h3⟩
   ·rename_i hc;simp only[hc] at hσ ⊢;obtain⟨x,b,h1,h2,h3⟩:=skip hs;exact⟨x,b,h1,h2,.inr h3⟩
   ·cases hs
  ·cases hs
theorem xV (ds:List Nat) (l:List (Nat × Obj)) (o:Nat):aA o (jR ds l)=if o ∈ ds then none else aA o l:=by
 induction ds with
 | nil=>simp[jR]
 | cons d r ih=>
   simp only[jR,cZ,ih,List.mem_cons];by_cases h:o=d
   ·simp[h]
   ·simp[h,Ne.symm h]
theorem mC {d:Option Nat} {x:AV} {l:List (Nat × AV)} {t:Nat}:aA t (oU d x l)=if d=some t then some x else aA t l:=by
 cases d with
 | none=>simp[oU]
 | some u=>
   simp only[oU,bn,Option.some.injEq]
def un (f:Nat→Bool):Nat→Nat
 | 0=>0
 | m+1=>un f m+(if f m=true then 0 else 1)
theorem BH {f:Nat→Bool}:∀ n,un f n=0→∀ k,k < n→f k=true
 | 0,_,k,hk=>by omega
 | n+1,h,k,hk=>by
   simp only[un] at h;by_cases e:k=n
   ·subst e;cases hq:f k with
    | true=>rfl
    | false=>rw[hq] at h;simp at h
   ·exact BH n (by omega) k (by omega)
theorem F6 {f g:Nat→Bool} {i:Nat} (hi:f i=false) (hg:∀ k,g k=(f k || k==i)):∀ n,un g n+(if i < n then 1 else 0)=un f n
 | 0=>by simp[un]
 | n+1=>by
   simp only[un];have ih:=F6 hi hg n;rw[hg n];by_cases e:n=i
   ·subst e;simp[hi] at ih ⊢;omega
   ·have e2:(n==i)=false:=by simpa using e
    simp only[e2,Bool.or_false];by_cases h1:i < n
    ·have h2:i < n+1:=by omega
     simp only[h1,h2,if_true] at ih ⊢;omega
    ·have h2:¬ i < n+1:=by omega
     simp only[h1,h2,if_false] at ih ⊢;omega
theorem Ns (f:Nat→Bool):∀ n,un f n≤n
 | 0=>Nat.le_refl _
 | n+1=>by simp only[un];have:=Ns f n;split <;> omega
section
variable {hs:List DH} {kg M:List Nat} {gB:Nat→St}
def Wr (E:Env) (L:List Oper) (gB:Nat→St) (k:Nat):List Nat:=
 match L[k]? with | some o=>A7 E.Q E.G (o.dst.getD 0) (gB k) o.op | none=>[]
structure Inv (E:Env) (L:List Oper) (hs:List DH) (kg M:List Nat) (gB:Nat→St) (S:Nat→Bool) (σ:St):Prop where
 T:∀ t p,p≤L.length→(∀ k,k < L.length→ib L k=some t→(k < p↔S k=true))→aA t σ.tm=aA t (gB p).tm
 O:∀ o p,p≤L.length→(∀ k,k < L.length→o ∈ Wr E L gB k→(k < p↔S k=true))→aA o σ.ob=aA o (gB p).ob
 F:∀ k o,L[k]? = some o→il E.Q o.op=true→((List.range L.length).all fun j=>j==k || cmp M k j)=false→S k=false→Fr (o.dst.getD 0) σ
 C:∀ i,i < L.length→S i=true→∀ k,(M.getD i 0).testBit k=true→S k=true
theorem BI (BJ:∀ k o,L[k]? = some o→u_ E L o (gB k)=some (gB (k+1))) {t:Nat} {p:Nat}:∀ m,p+m≤L.length→(∀ k,p≤k→k < p+m→ib L k ≠ some t)→aA t (gB (p+m)).tm=aA t (gB p).tm
 | 0,_,_=>rfl
 | m+1,hl,h=>by
   rw[← BI BJ m (by omega) fun k h1 h2=>h k h1 (by omega)];have aR:p+m < L.length:=by omega
   have ho:=List.getElem?_eq_getElem aR;have ha:=BJ _ _ ho;obtain⟨x,b,h1,h2,h3⟩:=BG (τ:=gB (p+m)) ha ha rfl (fun _ _ h=>h) (fun _ _ h=>h) (fun _ _=>rfl) (fun _ h=>h);show aA t (gB (p+m+1)).tm=_;rw[h2,mC,if_neg];have:=h (p+m) (by omega) (by omega);simpa[ib,ho] using this
theorem BK (BJ:∀ k o,L[k]? = some o→u_ E L o (gB k)=some (gB (k+1))) {t:Nat} {p:Nat}:∀ m,p+m≤L.length→(∀ k,p≤k→k < p+m→t ∉ Wr E L gB k)→aA t (gB (p+m)).ob=aA t (gB p).ob
 | 0,_,_=>rfl
 | m+1,hl,h=>by
   rw[← BK BJ m (by omega) fun k h1 h2=>h k h1 (by omega)];have aR:p+m < L.length:=by omega
   have ho:=List.getElem?_eq_getElem aR;have ha:=BJ _ _ ho;obtain⟨x,b,h1,h2,h3⟩:=BG (τ:=gB (p+m)) ha ha rfl (fun _ _ h=>h) (fun _ _ h=>h) (fun _ _=>rfl) (fun _ h=>h);show aA t (gB (p+m+1)).ob=_;have:=h (p+m) (by omega) (by omega);simp only[Wr,ho] at this;rcases h3 with h3 | h3
   ·exact (h3.1 t this).1
   ·rw[h3.1]
theorem xW {Q:FuncId→Bool} {G:cC} {d:Nat} {s:St} {op:Op} {o:Nat} (h:o ∈ A7 Q G d s op):Ri Q op=true:=by
 cases op with
 | call c=>
   simp only[A7,pP] at h;split at h
   ·rename_i g hc;split at h
    ·rename_i hq;simp[Ri,il,hc,hq]
    ·cases h
   ·rename_i b hc;split at h
    ·rename_i hq;simp[Ri,il,hc,hq]
    ·cases h
   ·cases h
 | _=>first | rfl | (simp only[A7] at h;cases h)
theorem Nt (BJ:∀ k o,L[k]? = some o→u_ E L o (gB k)=some (gB (k+1))∧E8 E L o (hs.getD k vP) (gB k) (gB (k+1))=true)
 (hc:cert E.Q L hs kg M=true) {S S':Nat→Bool} {σ:St} (h:Inv E L hs kg M gB S σ) {i:Nat} {oi:Oper} (hi:L[i]? = some oi) (hu:S i=false)
 (hp:∀ e ∈ oi.after.toList,Region.binds .any e=true→S e.on=true) (hS:∀ k,S' k=(S k || k==i)) :
 ∃ τ τ1,(∀ t,aA t τ.tm=aA t σ.tm)∧(∀ o,aA o τ.ob=aA o σ.ob)∧u_ E L oi τ=some τ1∧Inv E L hs kg M gB S' τ1:=by
 have qk:i < L.length:=(List.getElem?_eq_some_iff.1 hi).1;have Iz:∀ k o,L[k]? = some o→n_ E.Q L hs kg M k o=true:=fun k o hk=>by
  have yF:k < L.length:=(List.getElem?_eq_some_iff.1 hk).1;have:=List.all_eq_true.1 hc k (by simpa using yF);simpa[hk] using this
 have aR:∀ k,k < L.length→∀ j,(M.getD k 0).testBit j=true→j < k:=fun k hk j hj=>by
  have h1:=Iz k _ (List.getElem?_eq_getElem hk);simp only[n_,Bool.and_eq_true,decide_eq_true_eq] at h1;have h2:M.getD k 0 < 2 ^ k:=h1.1.1.1.1;refine Nat.lt_of_not_le fun hle=>?_
  have h3:(M.getD k 0).testBit j=false:=Nat.testBit_lt_two_pow (Nat.lt_of_lt_of_le h2 (Nat.pow_le_pow_right (by omega) hle));rw[h3] at hj;cases hj
 have hci:=Iz i oi hi;have yZ:∀ k,(M.getD i 0).testBit k=true→S k=true:=fun k hk=>by
  simp only[n_,Bool.and_eq_true,beq_iff_eq] at hci;have h1:M.getD i 0=xT M oi.after.toList:=hci.1.1.1.2;rw[h1] at hk;obtain⟨e,he,hb,h2⟩:=pZ _ hk;have h3:=hp e he hb;rcases h2 with h2 | h2
  ·rw[← h2];exact h3
  ·have h4:e.on < i:=by
    have h5:=hci.1.1.2;have:=List.all_eq_true.1 h5 e he;simpa[hb] using this
   exact h.C e.on (by omega) h3 k h2
 have JO:∀ k,k < L.length→k ≠ i→cmp M i k=true→(k < i↔S k=true):=fun k hk d_ hq=>by
  simp only[cmp,Bool.or_eq_true] at hq;rcases hq with hq | hq
  ·have h1:=aR i qk k hq;have h2:=yZ k hq;simp[h1,h2]
  ·have h1:=aR k hk i hq;refine⟨fun h2=>by omega,fun h2=>?_⟩;have:=h.C k hk h2 i hq;rw[hu] at this;cases this
 have IA:∀ k ok,L[k]? = some ok→k ≠ i→cmp M i k=true∨lz E.Q L hs i k oi ok=true:=fun k ok hk d_=>by
  have yF:k < L.length:=(List.getElem?_eq_some_iff.1 hk).1;simp only[n_,Bool.and_eq_true] at hci;have h1:=List.all_eq_true.1 hci.1.2 k (by simpa using yF);simp only[hk,Bool.or_eq_true] at h1;rcases h1 with (h1 | h1) | h1
  ·simp at h1;exact absurd h1 d_
  ·exact .inl h1
  ·exact .inr h1
 have Wo:∀ k ok,L[k]? = some ok→k ≠ i→cmp M i k=true∨lz E.Q L hs k i ok oi=true:=fun k ok hk d_=>by
  have yF:k < L.length:=(List.getElem?_eq_some_iff.1 hk).1;have oV:=Iz k ok hk;simp only[n_,Bool.and_eq_true] at oV;have h1:=List.all_eq_true.1 oV.1.2 i (by simpa using qk);simp only[hi,Bool.or_eq_true] at h1;rcases h1 with (h1 | h1) | h1
  ·simp at h1;exact absurd h1.symm d_
  ·exact .inl (by simpa[cmp,Bool.or_comm] using h1)
  ·exact .inr h1
 have ac5:∀ t ∈ looks L oi,aA t (gB i).tm=aA t σ.tm:=fun t ht=>by
  refine (h.T t i (by omega) fun k hk hd=>?_).symm;by_cases e:k=i
  ·subst e;simp[hu]
  ·have sO:=List.getElem?_eq_getElem hk;rcases IA k _ sO e with hq | hq
   ·exact JO k hk e hq
   ·simp only[lz,Bool.and_eq_true] at hq;have qA:L[k].dst=some t:=by simpa[ib,sO] using hd
    rw[qA] at hq;simp only[Bool.and_eq_true,Bool.not_eq_true',List.contains_eq_mem,decide_eq_false_iff_not] at hq;exact absurd ht hq.1.1
 obtain⟨htx,gU⟩:=BJ i oi hi;have aj7:∀ o,o ∉ (hs.getD i vP).del→aA o (gB i).ob=aA o σ.ob:=fun o ho=>by
  refine (h.O o i (by omega) fun k hk hd=>?_).symm;by_cases e:k=i
  ·subst e;simp[hu]
  ·have sO:=List.getElem?_eq_getElem hk;rcases IA k _ sO e with hq | hq
   ·exact JO k hk e hq
   ·simp only[lz,Bool.and_eq_true,Bool.or_eq_true] at hq;simp only[Wr,sO] at hd;have hw:=xW hd;rcases hq.2 with h2 | h2
    ·rw[hw] at h2;cases h2
    ·have h3:=(BJ k _ sO).2;simp only[E8,Bool.and_eq_true,Bool.or_eq_true] at h3;simp only[Bool.and_eq_true,Bool.not_eq_true'] at h2;rcases h3.1.2 with h4 | h4
     ·rw[h4] at h2;cases h2.1
     ·have h5:=List.all_eq_true.1 h4 o hd;have h6:=List.all_eq_true.1 h2.2 o (by simpa using h5);simp only[Bool.and_eq_true,List.contains_eq_mem,decide_eq_true_eq] at h6;exact absurd h6.1 ho
 have aj8:∃ ρ1,u_ E L oi ⟨(gB i).tm,jR (hs.getD i vP).del (gB i).ob⟩=some ρ1:=by
  simp only[E8,Bool.and_eq_true,Bool.or_eq_true] at gU;rcases gU.1.1 with h1 | h1
  ·have:(hs.getD i vP).del=[]:=by simpa using h1
   rw[this];exact⟨_,htx⟩
  ·exact Option.isSome_iff_exists.1 h1
 obtain⟨ρ1,hρ⟩:=aj8;have hnt:∀ t,aA t σ.norm.tm=aA t σ.tm:=fun t=>AI _ t
 have vd:∀ t,aA t σ.norm.ob=aA t σ.ob:=fun t=>AI _ t
 have jb:il E.Q oi.op=true→(gB i).free (oi.dst.getD 0)=true→σ.norm.free (oi.dst.getD 0)=true:=fun ha hf=>by
  refine Fr.norm ?_;cases h2:(List.range L.length).all fun j=>j==i || cmp M i j with
  | false=>exact h.F i oi hi ha h2 hu
  | true=>
    have cw:∀ k,k < L.length→(k < i↔S k=true):=fun k hk=>by
     by_cases e:k=i
     ·subst e;simp[hu]
     ·have:=List.all_eq_true.1 h2 k (by simpa using hk);simp only[Bool.or_eq_true] at this;rcases this with h3 | h3
      ·simp at h3;exact absurd h3 e
      ·exact JO k hk e h3
    have h4:=Fr.of hf;refine⟨fun t v hv=>h4.1 t v ?_,fun o b hb=>h4.2 o b ?_⟩
    ·rw[← h.T t i (by omega) fun k hk _=>cw k hk];exact hv
    ·rw[← h.O o i (by omega) fun k hk _=>cw k hk];exact hb
 obtain⟨x,b,h1,h2,h3⟩:=BG (τ:=σ.norm) htx hρ rfl (fun k b hk=>by
  rw[xV] at hk;split at hk
  ·cases hk
  ·exact hk) (fun k b hk=>by
  rw[xV] at hk;split at hk
  ·cases hk
  ·rename_i hn;rw[vd,← aj7 k hn];exact hk) (fun t ht=>by rw[hnt];exact ac5 t ht) jb
 refine⟨σ.norm,_,hnt,vd,h1,?_⟩;have Wp:S' i=true:=by rw[hS];simp
 have JP:∀ k,k ≠ i→S' k=S k:=fun k hk=>by rw[hS];simp[hk]
 have zr:∀ o,(o ∈ Wr E L gB i→aA o b=aA o (gB (i+1)).ob∨(aA o b=aA o σ.ob∧aA o (gB (i+1)).ob=aA o (gB i).ob))∧(o ∉ Wr E L gB i→aA o b=aA o σ.ob):=fun o=>by
  simp only[Wr,hi];rcases h3 with h3 | h3
  ·exact⟨fun e=> .inl (h3.2 o e).symm,fun e=>by rw[(h3.1 o e).2];exact vd o⟩
  ·exact⟨fun _=> .inr ⟨by rw[h3.2];exact vd o,by rw[h3.1]⟩,fun _=>by rw[h3.2];exact vd o⟩
 constructor
 ·
  intro t p K0 Wq;show aA t (oU oi.dst x σ.norm.tm)=_;rw[mC];by_cases e:oi.dst=some t
  ·rw[if_pos e];have hip:i < p:=(Wq i qk (by simp[ib,hi,e])).2 Wp;obtain⟨m,rfl⟩:=Nat.exists_eq_add_of_le (show i+1≤p by omega);rw[BI (fun k o hk=>(BJ k o hk).1) m K0,h2,mC,if_pos e];intro k AJ BE hd;have yF:k < L.length:=by omega
   have sO:=List.getElem?_eq_getElem yF;have Ws:S k=true:=by rw[← JP k (by omega)];exact (Wq k yF hd).1 BE
   rcases IA k _ sO (by omega) with hq | hq
   ·have:=(JO k yF (by omega) hq).2 Ws;omega
   ·simp only[lz,Bool.and_eq_true] at hq;have qA:L[k].dst=some t:=by simpa[ib,sO] using hd
    rw[qA] at hq;simp only[Bool.and_eq_true] at hq;have:=hq.1.2;rw[e] at this;simp at this
  ·rw[if_neg e,hnt];refine h.T t p K0 fun k hk hd=>?_
   have d_:k ≠ i:=by
    rintro rfl;simp only[ib,hi] at hd;exact e hd
   rw[← JP k d_];exact Wq k hk hd
 ·
  intro o p K0 Wq;show aA o b=_;by_cases e:o ∈ Wr E L gB i
  ·have hip:i < p:=(Wq i qk e).2 Wp;have Uj:∀ k,k < L.length→k ≠ i→o ∈ Wr E L gB k→cmp M i k=true:=fun k yF d_ hd=>by
    have sO:=List.getElem?_eq_getElem yF;rcases IA k _ sO d_ with hq | hq
    ·exact hq
    ·rcases Wo k _ sO d_ with Qq | Qq
     ·exact Qq
     ·exfalso;simp only[Wr,sO] at hd;simp only[Wr,hi] at e;simp only[lz,Bool.and_eq_true,Bool.or_eq_true,xW hd,xW e,Bool.not_true,Bool.false_eq_true,false_or] at hq Qq;have h5:=(BJ k _ sO).2;simp only[E8,Bool.and_eq_true,Bool.or_eq_true] at h5;have h6:=gU;simp only[E8,Bool.and_eq_true,Bool.or_eq_true] at h6;have sP:=hq.2;have Wt:=Qq.2;simp only[Bool.and_eq_true,Bool.not_eq_true'] at sP Wt;have h7:o ∈ (hs.getD k vP).wr:=by
       rcases h5.1.2 with h8 | h8
       ·rw[h8] at sP;cases sP.1
       ·simpa using List.all_eq_true.1 h8 o hd
      have h7':o ∈ (hs.getD i vP).wr:=by
       rcases h6.1.2 with h8 | h8
       ·rw[h8] at Wt;cases Wt.1
       ·simpa using List.all_eq_true.1 h8 o e
      have h9:=List.all_eq_true.1 sP.2 o h7;simp only[Bool.and_eq_true,Bool.not_eq_true',List.contains_eq_mem,decide_eq_false_iff_not] at h9;exact h9.2 h7'
   obtain⟨m,rfl⟩:=Nat.exists_eq_add_of_le (show i+1≤p by omega);have e1:aA o (gB (i+1+m)).ob=aA o (gB (i+1)).ob:=by
    refine BK (fun k o hk=>(BJ k o hk).1) m K0 fun k AJ BE hd=>?_
    have yF:k < L.length:=by omega
    have Ws:S k=true:=by rw[← JP k (by omega)];exact (Wq k yF hd).1 BE
    have:=(JO k yF (by omega) (Uj k yF (by omega) hd)).2 Ws;omega
   rw[e1];rcases (zr o).1 e with q1 | ⟨q1,q2⟩
   ·rw[q1]
   ·rw[q1,q2];refine h.O o i (by omega) fun k hk hd=>?_
    by_cases e:k=i
    ·subst e;simp[hu]
    ·exact JO k hk e (Uj k hk e hd)
  ·rw[(zr o).2 e];refine h.O o p K0 fun k hk hd=>?_
   have d_:k ≠ i:=by rintro rfl;exact e hd
   rw[← JP k d_];exact Wq k hk hd
 ·
  intro k o sO ha ac6 Ws;have d_:k ≠ i:=by rintro rfl;rw[Wp] at Ws;cases Ws
  have ac7:S k=false:=by rw[← JP k d_];exact Ws
  have yF:k < L.length:=(List.getElem?_eq_some_iff.1 sO).1;have hFr:=h.F k o sO ha ac6 ac7;have oV:=Iz k o sO;have aj_:(hs.getD i vP).nom.contains (o.dst.getD 0)=true:=by
   simp only[n_,Bool.and_eq_true,Bool.or_eq_true,ha,Bool.not_true,Bool.false_eq_true,false_or] at oV;rcases oV.2 with h5 | h5
   ·have h5':((List.range L.length).all fun j=>j==k || cmp M k j)=true:=by
     refine List.all_eq_true.2 fun j hj=>?_
     have:=List.all_eq_true.1 h5 j hj;simpa using this
    rw[ac6] at h5';cases h5'
   ·have:=List.all_eq_true.1 h5.2 i (by simpa using qk);simp only[Bool.or_eq_true] at this;rcases this with (h6 | h6) | h6
    ·simp at h6;exact absurd h6.symm d_
    ·have:=yZ k h6;rw[ac7] at this;cases this
    ·exact h6
  have FD:A8 (o.dst.getD 0) (gB (i+1)) oi.dst (A7 E.Q E.G (oi.dst.getD 0) (gB i) oi.op)=true:=by
   simp only[E8,Bool.and_eq_true] at gU;exact List.all_eq_true.1 gU.2 _ (by simpa using aj_)
  simp only[A8,Bool.and_eq_true] at FD;refine⟨fun t v hv=>?_,fun q bb hq hqd=>?_⟩
  ·change aA t (oU oi.dst x σ.norm.tm)=some v at hv
   rw[mC] at hv;split at hv
   ·rename_i e;injection hv with hv;subst hv
    have h5:=FD.1;have h6:aA t (gB (i+1)).tm=some x:=by rw[h2,mC,if_pos e]
    simp only[e,h6] at h5;simpa using h5
   ·exact hFr.1 t v (by rw[← hnt];exact hv)
  ·change aA q b=some bb at hq
   by_cases e:q ∈ Wr E L gB i
   ·rcases (zr q).1 e with q1 | ⟨q1,q2⟩
    ·rw[hq] at q1;have h5:=FD.2;simp only[Wr,hi] at e;have h6:=List.all_eq_true.1 h5 q e;rw[← q1] at h6;simpa using h6
    ·rw[q1] at hq;exact hFr.2 q bb hq hqd
   ·rw[(zr q).2 e] at hq;exact hFr.2 q bb hq hqd
 ·intro j hj hSj k hk;by_cases e:j=i
  ·subst e;rw[hS,yZ k hk];rfl
  ·rw[JP j e] at hSj;rw[hS,h.C j hj hSj k hk];rfl
variable {P:Program} {w0:World}
theorem bG.drawn {E:Env} {w0 w:World} {σ:St} {a:Act} {β:Nat→Option Nat} (h:bG E w0 σ a w β):bG E w0 σ a { w with drawn:=w.drawn+1 } β:=by
 exact h.grow (w':={ w with drawn:=w.drawn+1 }) ⟨rfl,rfl,rfl,Nat.le_refl _,fun _ _=>rfl⟩
theorem Inv.start (BJ:∀ k o,L[k]? = some o→u_ E L o (gB k)=some (gB (k+1))∧E8 E L o (hs.getD k vP) (gB k) (gB (k+1))=true)
 (hc:cert E.Q L hs kg M=true) (hm:∀ d,kg.contains d=true→(gB 0).free d=true):Inv E L hs kg M gB (fun _=>false) (gB 0) where
 T:=fun t p hp h=>by
  have:=BI (fun k o hk=>(BJ k o hk).1) (t:=t) (p:=0) p (by omega) fun k h1 h2 hd=>by
   have:=(h k (by omega) hd).1 (by omega);cases this
  rw[Nat.zero_add] at this;exact this.symm
 O:=fun t p hp h=>by
  have:=BK (fun k o hk=>(BJ k o hk).1) (t:=t) (p:=0) p (by omega) fun k h1 h2 hd=>by
   have:=(h k (by omega) hd).1 (by omega);cases this
  rw[Nat.zero_add] at this;exact this.symm
 F:=fun k o sO ha vd _=>by
  have yF:k < L.length:=(List.getElem?_eq_some_iff.1 sO).1;have oV:n_ E.Q L hs kg M k o=true:=by
   have:=List.all_eq_true.1 hc k (by simpa using yF);simpa[sO] using this
  simp only[n_,Bool.and_eq_true,Bool.or_eq_true,ha,Bool.not_true,Bool.false_eq_true,false_or] at oV;rcases oV.2 with h5 | h5
  ·have h5':((List.range L.length).all fun j=>j==k || cmp M k j)=true:=by
    refine List.all_eq_true.2 fun j hj=>?_
    have:=List.all_eq_true.1 h5 j hj;simpa using this
   rw[vd] at h5';cases h5'
  ·exact Fr.of (hm _ h5.1)
 C:=fun i _ h=>by cases h
theorem Nu (hT:dk P E.ty) (hC:cM P E) (hG:bj E w0) {N:Array Oper} (hL:N.toList=L)
 (BJ:∀ k o,L[k]? = some o→u_ E L o (gB k)=some (gB (k+1))∧E8 E L o (hs.getD k vP) (gB k) (gB (k+1))=true)
 (hc:cert E.Q L hs kg M=true) {Q:Exit→Act→World→Prop} (hQ:∀ a' w' β',bG E w0 (gB L.length) a' w' β'→Q .normal a' w') :
 ∀ (fuel:Nat) (listed:Array Bool) (σ:St) (a:Act) (w:World) (β:Nat→Option Nat),listed.size=L.length→un (fun k=>listed.getD k false) L.length≤fuel→
   Inv E L hs kg M gB (fun k=>listed.getD k false) σ→bG E w0 σ a w β→wpAny P .any N Q fuel listed a w:=by
 have cS:N.size=L.length:=by rw[← hL];simp
 have aw:∀ k:Nat,N[k]? = L[k]?:=fun k=>by rw[← hL,Array.getElem?_toList]
 have fin:∀ (listed:Array Bool) (σ:St) (a:Act) (w:World) (β:Nat→Option Nat),(∀ k,k < L.length→listed.getD k false=true)→Inv E L hs kg M gB (fun k=>listed.getD k false) σ→bG E w0 σ a w β→Q .normal a w:=fun listed σ a w β cw hI hS=>by
  refine hQ a w β (hS.less (fun t x hx=>?_) fun o b hb=>?_)
  ·rw[hI.T t L.length (Nat.le_refl _) fun k hk _=>by simp[hk,cw k hk]];exact hx
  ·rw[hI.O o L.length (Nat.le_refl _) fun k hk _=>by simp[hk,cw k hk]];exact hb
 intro fuel
 induction fuel with
 | zero=>
   intro listed σ a w β Uk Qf hI hS;have cw:=BH L.length (Nat.le_zero.1 Qf);refine⟨?_,fin listed σ a w β cw hI hS⟩;unfold Region.ready;refine List.filter_eq_nil_iff.2 fun i hi=>?_
   have qk:i < L.length:=by rw[← cS];simpa using hi
   have:=cw i qk;simp only[Array.getD_eq_getD_getElem?] at this ⊢;rw[Array.getElem?_eq_getElem (by omega)] at this ⊢;simp at this;simp[this]
 | succ fuel ih=>
   intro listed σ a w β Uk Qf hI hS;refine⟨fun hr=>fin listed σ a w β (fun k=>?_) hI hS,fun i hi=>?_⟩
   ·
    induction k using Nat.strongRecOn with
    | ind k ihk=>
      intro hk;cases hq:listed.getD k false with
      | true=>rfl
      | false=>
        exfalso;have sO:=List.getElem?_eq_getElem hk;have oV:n_ E.Q L hs kg M k L[k]=true:=by
         have:=List.all_eq_true.1 hc k (by simpa using hk);simpa[sO] using this
        have:k ∈ Region.ready .any N listed:=by
         unfold Region.ready;refine List.mem_filter.2 ⟨by simpa[cS] using hk,?_⟩;simp only[Array.getD_eq_getD_getElem?] at hq ⊢;rw[Array.getElem?_eq_getElem (by omega)] at hq ⊢;simp at hq;simp only[Option.getD_some,hq,Bool.not_false,Bool.true_and,aw,sO,Option.map_some];rw[← Array.all_toList];refine List.all_eq_true.2 fun e he=>?_
         simp only[n_,Bool.and_eq_true] at oV;have h5:=List.all_eq_true.1 oV.1.1.2 e he;simp only[Bool.or_eq_true,Bool.not_eq_true',decide_eq_true_eq] at h5 ⊢;rcases h5 with h5 | h5
         ·exact .inl h5
         ·refine .inr ?_;have:=ihk e.on h5 (by omega);simpa only[Array.getD_eq_getD_getElem?] using this
        rw[hr] at this;cases this
   ·unfold Region.ready at hi;obtain⟨vj,P_⟩:=List.mem_filter.1 hi;have qk:i < L.length:=by rw[← cS];simpa using vj
    have Ul:=List.getElem?_eq_getElem qk;have aR:i < listed.size:=by omega
    simp only[aw,Ul,Option.map_some,Option.getD_some,Bool.and_eq_true,Bool.not_eq_true'] at P_;have hu:listed.getD i false=false:=by
     have:=P_.1;simp only[Array.getD_eq_getD_getElem?] at this ⊢;rw[Array.getElem?_eq_getElem aR] at this ⊢;simpa using this
    have hp:∀ e ∈ L[i].after.toList,Region.binds .any e=true→listed.getD e.on false=true:=fun e he hb=>by
     have h5:=P_.2;rw[← Array.all_toList] at h5;have:=List.all_eq_true.1 h5 e he;simpa[hb] using this
    have nL:∀ k,(listed.setIfInBounds i true).getD k false=(listed.getD k false || k==i):=fun k=>by
     simp only[Array.getD_eq_getD_getElem?,Array.getElem?_setIfInBounds];by_cases e:i=k
     ·subst e;simp[aR]
     ·rw[if_neg e];have:(k==i)=false:=by simpa using fun h=>e h.symm
      simp[this]
    obtain⟨τ,τ1,e1,e2,e3,e4⟩:=Nt BJ hc hI Ul hu hp nL;have hSτ:bG E w0 τ a w β:=hS.less (fun t x hx=>by rw[← e1];exact hx) fun o b hb=>by rw[← e2];exact hb
    have e3':u_ E N.toList L[i] τ=some τ1:=by rw[hL];exact e3
    have key:=JD (Q:=Q) hT hC hSτ hG e3' (K:=wpAny P .any N Q fuel (listed.setIfInBounds i true)) fun a' w' β' Vl=>
     ih _ τ1 a' w' β' (by simpa using Uk) (by
      have:=F6 (f:=fun k=>listed.getD k false) (g:=fun k=>(listed.setIfInBounds i true).getD k false) hu nL L.length;rw[if_pos qk] at this;omega) e4 Vl
    unfold wpOp;simp only[aw,Ul];split
    ·rename_i hw;rw[if_pos hw] at key;exact .inl key
    ·rename_i hw;rw[if_neg hw] at key;exact key
theorem JQ (hT:dk P E.ty) (hC:cM P E) (hm:P.follows .mixedOrders=true) {id:Nat} {N:Array Oper} {M:List Nat}
 (hc:cert E.Q N.toList ((E.D id).getD ([],[])).1 ((E.D id).getD ([],[])).2 M=true):LN P E id N:=by
 intro w0 σ σ' a w β Q hG hr hS hQ;refine wp_region_any hm ?_;have:lO E N.toList ((E.D id).getD ([],[])).1 N.toList σ=some σ'∧∀ d,((E.D id).getD ([],[])).2.contains d=true→σ.free d=true:=by
  unfold zk at hr;split at hr
  ·rename_i hD;rw[hD];simp only[Option.getD_none,AH];exact⟨hr,fun d hd=>by simp at hd⟩
  ·rename_i hs kg hD;rw[hD];split at hr
   ·rename_i hf;exact⟨hr,fun d hd=>List.all_eq_true.1 hf d (by simpa using hd)⟩
   ·cases hr
 obtain⟨gB,s0,s1,BJ⟩:=uM _ _ _ _ this.1;refine Nu hT hC hG rfl BJ hc (fun a' w' β' h=>hQ a' w' β' (by rw[← s1];exact h)) N.size _ (gB 0) a _ β (by simp) (Nat.le_trans (Ns _ _) (by simp)) ?_ (by rw[s0];exact hS.drawn);have fL:=Inv.start BJ hc (by rw[s0];exact this.2);have hf:(fun k=>(Array.replicate N.size false).getD k false)=fun _=>false:=by
  funext k
  simp only[Array.getD_eq_getD_getElem?,Array.getElem?_replicate];split <;> rfl
 rw[hf];exact fL
def lS (Q:FuncId→Bool) (D:Nat→Option (List DH × List Nat)) (M:Nat→List Nat):Code→Bool
 | .region id N true=>cert Q N.toList ((D id).getD ([],[])).1 ((D id).getD ([],[])).2 (M id)
 | .seq a b=>lS Q D M a&&lS Q D M b
 | .cond _ a b=>lS Q D M a&&lS Q D M b
 | .block _ c=>lS Q D M c
 | .loop c=>lS Q D M c
 | _=>true
theorem eT (hT:dk P E.ty) (hC:cM P E) (hm:P.follows .mixedOrders=true) (M:Nat→List Nat):∀ c,lS E.Q E.D M c=true→gk P E c:=by
 intro c
 induction c with
 | region id N dr=>
   intro h;cases dr with
   | true=>exact JQ hT hC hm h
   | false=>trivial
 | seq a b iha ihb=>intro h;simp only[lS,Bool.and_eq_true] at h;exact⟨iha h.1,ihb h.2⟩
 | cond q a b iha ihb=>intro h;simp only[lS,Bool.and_eq_true] at h;exact⟨iha h.1,ihb h.2⟩
 | block id c ih=>intro h;exact ih h
 | loop c ih=>intro h;exact ih h
 | _=>intro _;trivial
end
end
end Go.Abs
end
section
namespace Go.Abs
open Go Go.RowKit
def wk:AV→AV→Prop
 | .sl t fl es,y=>∃ t' Eh,y = .sl t' Eh es∧(t'=t∨es=[])∧(Eh.fr=true→fl.fr=true)∧Eh.nil=none∧Eh.tight=false
 | .st t fs,y=>∃ gs,y = .st t gs∧JR fs gs
 | .cE xs,y=>∃ ys,y = .cE ys∧JR xs ys
 | x,y=>y=x
where JR:List AV→List AV→Prop
 | [],ys=>ys=[]
 | x::r,ys=>∃ y s,ys=y::s∧wk x y∧JR r s
theorem uO {t t':TypeId} {fl Eh:Fl} {es es':List AV}:wk (.sl t fl es) (.sl t' Eh es')↔es'=es∧(t'=t∨es=[])∧(Eh.fr=true→fl.fr=true)∧Eh.nil=none∧Eh.tight=false:=by
 simp only[wk];constructor
 ·rintro⟨a,b,h,h2⟩;injection h with h3 h4 h5
  subst h3;subst h4;subst h5;exact⟨rfl,h2⟩
 ·rintro⟨rfl,h⟩;exact⟨t',Eh,rfl,h⟩
theorem Ei {t t':TypeId} {fs gs:List AV}:wk (.st t fs) (.st t' gs)↔t'=t∧wk.JR fs gs:=by
 simp only[wk];constructor
 ·rintro⟨a,h,h2⟩;injection h with h3 h4
  subst h3;subst h4;exact⟨rfl,h2⟩
 ·rintro⟨rfl,h⟩;exact⟨gs,rfl,h⟩
theorem oa {fs gs:List AV}:wk (.cE fs) (.cE gs)↔wk.JR fs gs:=by
 simp only[wk];constructor
 ·rintro⟨a,h,h2⟩;injection h with h3
  subst h3;exact h2
 ·intro h;exact⟨gs,rfl,h⟩
theorem lT:wk.JR [] []↔True:=by simp[wk.JR]
theorem j7 {x y:AV} {r s:List AV}:wk.JR (x::r) (y::s)↔wk x y∧wk.JR r s:=by
 simp only[wk.JR];constructor
 ·rintro⟨a,b,h,h2⟩;injection h with h3 h4
  subst h3;subst h4;exact h2
 ·intro h;exact⟨y,s,rfl,h⟩
theorem oc {k:IntKind} {n:Int} {y:AV}:wk (.int k n) y↔y = .int k n:=by simp only[wk]
theorem IB {b:Bool} {y:AV}:wk (.bool b) y↔y = .bool b:=by simp only[wk]
theorem Nv {b:ByteArray} {y:AV}:wk (.str b) y↔y = .str b:=by simp only[wk]
theorem LR.eK {ty:bX} {w:World} {okb okb':Nat→Prop} {t t':TypeId} {fl Eh:Fl} {es:List AV} {v:Value} (h:LR ty w okb (.sl t fl es) v) (gU:∀ b,okb b→okb' b) (ht:t'=t∨es=[]) (hn:Eh.nil=none) (hg:Eh.tight=false):LR ty w okb' (.sl t' Eh es) v:=by
 have h:=h.mono (okb':=okb') fun b hb hl=>⟨gU b hb,hl,rfl⟩
 cases h with
 | sx t fl cc h1 h2=>exact .sx t' _ cc (by simp[hn]) h2
 | sl t fl es eQ off cc vs h1 h2 h3 h4 h5 h6 h7=>
   refine .sl t' _ es eQ off cc vs h1 (by simp[hn]) (by simp[hg]) h4 (fun x hx=>?_) h6 h7;rcases ht with ht | ht
   ·subst ht;exact h5 x hx
   ·subst ht;cases hx
def wkS (c:Cx) (base:Nat) (okA:Nat→Prop) (z z':AV):Prop:=∀ v,LR c.ty c.w (cX base okA (jw z)) z v→LR c.ty c.w (cX base okA (jw z')) z' v
theorem BM:∀ (fs gs:List AV),wk.JR fs gs→gs.length=fs.length∧∀ (i:Nat) (x:AV),fs[i]? = some x→∃ y,gs[i]? = some y∧wk x y
 | [],gs,h=>by simp[wk.JR] at h;subst h;simp
 | x::r,gs,h=>by
   simp only[wk.JR] at h;obtain⟨y,s,rfl,h1,h2⟩:=h;obtain⟨e1,e2⟩:=BM r s h2;refine⟨by simp[e1],fun i z hz=>?_⟩;cases i with
   | zero=>simp at hz;subst hz;exact⟨y,rfl,h1⟩
   | succ i=>exact e2 i z (by simpa using hz)
theorem IC {c:Cx} {base:Nat} {okA:Nat→Prop}:∀ (n:Nat) (x y:AV),SizeOf.sizeOf x < n→wk x y→mn x=true→ff c (wkS c base okA) x y
 | 0,_,_,h,_,_=>by omega
 | n+1,x,y,hn,h,hx=>by
   have same:∀ x,ff c (wkS c base okA) x x:=fun x=>⟨fun _ h=>h,fun hl=>⟨hl,fun v hv=>hv⟩,fun t _ j z hz=>⟨z,hz,fun v hv=>hv⟩⟩
   cases x with
   | sl t fl es=>
     simp only[wk] at h;obtain⟨t',Eh,rfl,h2,h3,h4,h5⟩:=h;exact .eJ rfl rfl fun v hv=>LR.eK hv (fun b hb=>⟨fun hf=>hb.1 (h3 hf),hb.2⟩) h2 h4 h5
   | st t fs=>
     simp only[wk] at h;obtain⟨gs,rfl,h1⟩:=h;obtain⟨e1,e2⟩:=BM fs gs h1;have hk:∀ u,br c.ty u (.st t fs)→u=t:=fun u hc=>by
      cases hc with
      | leaf _ _ _ q4=>cases q4
      | st _ _ _ _=>rfl
     have cw:∀ {u},br c.ty u (.st t fs)→br c.ty t (.st t gs)∧∀ (j:Nat) (z':AV),(ay gs)[j]? = some z'→∃ z,(ay fs)[j]? = some z∧wkS c base okA z z':=fun {u} hc=>by
      have hu:=hk u hc;subst hu;refine ln (c:=c) rfl hc e1 fun i q hq=>?_
      obtain⟨y,h2,h3⟩:=e2 i q hq;refine⟨y,h2,?_⟩;have hs:SizeOf.sizeOf q < n:=by
       have:=List.sizeOf_lt_of_mem (List.mem_of_getElem? hq);simp at hn;omega
      cases q with
      | cE l=>
        exfalso;cases hc with
        | leaf _ _ _ q4=>cases q4
        | @st _ ts s b z _ g1 g2 g3 g4=>
          have hi:i < ts.length:=by rw[← g2];exact (List.getElem?_eq_some_iff.1 hq).1
          have:=g4 i _ ts[i] hq (by rw[List.getElem?_eq_getElem hi]);cases this with
          | leaf _ _ _ q4=>cases q4
      | _=>exact IC n _ y hs h3 rfl
     refine⟨fun u hc=>?_,(fun hl=>by cases hl),fun u hc j z' hz=>(cw hc).2 j z' hz⟩;have:=hk u hc;subst this;exact (cw hc).1
   | cE l=>cases hx
   | _=>simp only[wk] at h;subst h;exact same _
theorem nz.eK {ty:bX} {w:World} {base:Nat} {okA:Nat→Prop} {x y:AV} {v:Value} (h:nz ty w (cX base okA) x v) (hw:wk x y):nz ty w (cX base okA) y v:=by
 have tr:=fun (hx:mn x=true)=>IC (c:=⟨ty,base,w,fun _=>none,fun _=>True,fun _=>True⟩) (base:=base) (okA:=okA) _ x y (Nat.lt_succ_self _) hw hx
 have pT:∀ (hx:mn x=true) (vs:Array Value) (t:TypeId),br ty t x→F2 (fun x u=>LR ty w (cX base okA (jw x)) x u) (leaves x) vs.toList→F2 (fun x u=>LR ty w (cX base okA (jw x)) x u) (leaves y) vs.toList:=fun hx vs t hc hF=>by
  have ok:=tr hx;have hl:(leaves y).length=(leaves x).length:=by rw[(ok.fy t hc).len,br.len (ty:=ty) hc]
  refine⟨by rw[hl];exact hF.1,fun i z' u hz hu=>?_⟩;obtain⟨z,r1,r2⟩:=ok.all t hc i z' hz;exact r2 u (hF.2 i z u r1 hu)
 cases x with
 | st t fs=>
   obtain⟨vs,e,hc,hF⟩:=h;have ok:=tr rfl;simp only[wk] at hw;obtain⟨gs,rfl,h1⟩:=hw;exact⟨vs,e,ok.fy t hc,pT rfl vs t hc hF⟩
 | cE _=>exact h.elim
 | sl t fl es=>
   have ok:=tr rfl;have:=(ok.leaf rfl).2 v h;simp only[wk] at hw;obtain⟨t',Eh,rfl,_⟩:=hw;exact this
 | _=>simp only[wk] at hw;subst hw;exact h
theorem CR.eK {ty:bX} {w:World} {base:Nat} {okA:Nat→Prop} {x y:AV} {v:Value} (h:CR ty w (cX base okA) x v) (hw:wk x y):CR ty w (cX base okA) y v:=by
 cases x with
 | cE xs=>
   simp only[wk] at hw;obtain⟨ys,rfl,hw⟩:=hw;obtain⟨vs,e,hF⟩:=h;obtain⟨h1,h2⟩:=BM xs ys hw;refine⟨vs,e,h1.trans hF.1,fun i y v hy hv=>?_⟩;have hi:i < xs.length:=by rw[← h1];exact (List.getElem?_eq_some_iff.1 hy).1
   have hx:xs[i]? = some xs[i]:=List.getElem?_eq_getElem hi;obtain⟨y',q1,q2⟩:=h2 i _ hx;rw[q1] at hy;injection hy with hy;subst hy
   exact (hF.2 i _ v hx hv).eK q2
 | st t fs=>
   have U6:=hw;simp only[wk] at U6;obtain⟨gs,rfl,_⟩:=U6;exact wa (nz.eK (x:= .st t fs) h hw)
 | sl t fl es=>
   have U6:=hw;simp only[wk] at U6;obtain⟨t',Eh,rfl,_⟩:=U6;exact wa (nz.eK (x:= .sl t fl es) h hw)
 | _=>simp only[wk] at hw;subst hw;exact h
theorem tx.eK {P:Program} {ty:bX} {G:cC} {f:FuncId} {args:List AV} {r r':AV} (h:tx P ty G f args r) (hw:wk r r'):tx P ty G f args r':=by
 intro okA w vs lI hG;refine Calls.mono (h okA w vs lI hG) fun e w' he=>?_
 obtain⟨v,h1,h2,h3⟩:=he;exact⟨v,h1,h2,h3.eK hw⟩
theorem oH {P:Program} {ty:bX} {G:cC} {f:FuncId} {t d:Nat} {fr tg fr':Bool} {es:List AV} {T:kD} (hT:ty t=some T) (gq:0 < T.size)
 (ake:iy P ty G f [.sl t ⟨fr,some true,tg⟩ []] [] (.sl 0 ⟨true,some true,true⟩ []) [])
 (ac9:iy P ty G f [.sl t ⟨fr,some false,tg⟩ es] [] (.own d t 0 es.length) [(d,⟨.row t,fr',es⟩)]) :
 iy P ty G f [.sl t ⟨fr,none,tg⟩ es] [] (.own d t 0 es.length) [(d,⟨.row t,fr',es⟩)]:=by
 intro lo okA lent w β vs yU yV lI hG;have hlen:vs.length=1:=lI.1.symm;obtain⟨v,rfl⟩:∃ v,vs=[v]:=by
  match vs,hlen with
  | [v],_=>exact⟨v,rfl⟩
 have hv:OR (ql ty lo okA lent w.heap.size [] w β) (.sl t ⟨fr,none,tg⟩ es) v:=lI.2 0 _ _ rfl rfl;have arg:∀ {fl:Fl} {es:List AV},LR ty w ((ql ty lo okA lent w.heap.size [] w β).okb fl.fr) (.sl t fl es) v→F2 (VR (ql ty lo okA lent w.heap.size [] w β)) [.sl t fl es] [v]:=fun {fl es} h=>
  ⟨rfl,fun i x u hx hu=>by
    cases i with
    | zero=>simp at hx hu;subst hx;subst hu;exact .cl h
    | succ i=>simp at hx⟩
 cases hv with
 | cl hv=>
   cases hv with
   | sx _ _ c h1 h2=>
     refine Calls.mono (ake lo okA lent w β _ yU yV (arg (.sx t _ c (by simp) h2)) hG) fun e w' he=>?_
     obtain⟨u,β',e1,e2,_,_,e5⟩:=he;have hu:u = .slice none 0 0:=by
      have h5:OR _ (.sl 0 ⟨true,some true,true⟩ []) u:=e5;cases h5 with
      | cl h5=>
        cases h5 with
        | sx _ _ _ _ h=>subst h;rfl
        | sl _ _ _ _ _ _ _ _ h=>simp at h
     refine⟨u,fun _=>none,e1,e2,fun o b ho=>?_,fun _ _ _ _ _ _ _ h=>by simp at h,?_⟩
     ·simp only[aA] at ho;split at ho
      ·injection ho with ho;subst ho
       exact⟨⟨by simp,by simp[ql,aH,hT,gq]⟩,by simp[ql]⟩
      ·cases ho
     ·subst hu;exact .l8 d t rfl
   | sl _ _ _ eQ off c vs' h1 h2 h3 h4 h5 h6 h7=>
     exact ac9 lo okA lent w β _ yU yV (arg (.sl t _ es eQ off c vs' h1 (by simp) h3 h4 h5 h6 h7)) hG
theorem vk (k:Nat):∀ (es:List AV) (j:Nat) (x:AV),(ay (es.take k))[j]? = some x→(ay es)[j]? = some x:=fun es j x h=>eO k j h
theorem iy.shrink {P:Program} {ty:bX} {G:cC} {f:FuncId} {args:List AV} {ob:List (Nat × Obj)} {d t n k:Nat} {fr:Bool} {es:List AV} (h:iy P ty G f args ob (.own d t 0 n) [(d,⟨.row t,fr,es⟩)]) :
 iy P ty G f args ob (.own d t 0 n) [(d,⟨.row t,fr,es.take k⟩)]:=by
 intro lo okA lent w β vs yU yV lI hG;refine Calls.mono (h lo okA lent w β vs yU yV lI hG) fun e w' he=>?_
 obtain⟨v,β',e1,e2,e3,e4,e5⟩:=he;have mV:∀ (b b':Obj),ql ty lo okA lent w.heap.size [(d,b)] w' β'=ql ty lo okA lent w.heap.size [(d,b')] w' β':=fun b b'=>by
  unfold ql;congr 1
  funext q
  have:∀ (b b':Obj) (o:Nat) (y:Obj),aA o [(d,b)]=some y→aA o [(d,b')]=some b':=fun b b' o y h1=>by
   simp only[aA] at h1 ⊢;split at h1
   ·rename_i e;rw[if_pos e]
   ·cases h1
  exact propext ⟨fun hm=>hm.imp id fun⟨o,y,h1,h2⟩=>⟨o,b',this _ _ o y h1,h2⟩,fun hm=>hm.imp id fun⟨o,y,h1,h2⟩=>⟨o,b,this _ _ o y h1,h2⟩⟩
 refine⟨v,β',e1,e2,fun o b hb=>?_,fun o o' b b' q h1 h2 k1 k2=>?_,?_⟩
 ·simp only[aA] at hb;split at hb
  ·rename_i e;subst e;injection hb with hb;subst hb
   have hO:=e3 d ⟨.row t,fr,es⟩ (by simp[aA]);rw[mV ⟨.row t,fr,es⟩ ⟨.row t,fr,es.take k⟩] at hO;obtain⟨h1,h2⟩:=hO;refine⟨⟨fun x hx=>h1.1 x (List.mem_of_mem_take hx),h1.2⟩,?_⟩;split
   ·rename_i hn;rw[hn] at h2;exact⟨h2.1,by have:=h2.2;simp only at this;simp[this]⟩
   ·rename_i q hq;rw[hq] at h2;obtain⟨a,arr,e,g1,g2⟩:=h2;refine⟨a,arr,e,g1,fun j x hx=>?_⟩;obtain⟨u,r1,r2⟩:=g2 j x (vk k es j x hx);exact⟨u,r1,r2⟩
  ·cases hb
 ·simp only[aA] at h1 h2;split at h1
  ·split at h2
   ·rename_i a b;rw[← a,← b]
   ·cases h2
  ·cases h1
 ·rw[mV ⟨.row t,fr,es.take k⟩ ⟨.row t,fr,es⟩];exact e5
end Go.Abs
end
section
namespace Go.Proofs.Tryz
open Go Go.Abs
set_option maxRecDepth 100000
structure Ej where
 name:ByteArray
 d:Bool
 a:Bool
 b:Bool
 n:Bool
def Nw (f:Ej):AV:= .st 142 [.str f.name,.bool f.d,.bool f.a,.bool f.b,.bool f.n]
def sQ:List Ej:=[⟨⟨#[]⟩,false,false,false,false⟩,⟨⟨#[108,100,105]⟩,true,false,false,true⟩,⟨⟨#[108,100,115]⟩,true,false,false,true⟩,⟨⟨#[109,111,118]⟩,true,true,false,false⟩,⟨⟨#[97,100,100]⟩,true,true,true,false⟩,⟨⟨#[115,117,98]⟩,true,true,true,false⟩,⟨⟨#[109,117,108]⟩,true,true,true,false⟩,⟨⟨#[100,105,118]⟩,true,true,true,false⟩,⟨⟨#[100,105,118,117]⟩,true,true,true,false⟩,⟨⟨#[109,111,100]⟩,true,true,true,false⟩,⟨⟨#[109,111,100,117]⟩,true,true,true,false⟩,⟨⟨#[97,110,100]⟩,true,true,true,false⟩,⟨⟨#[111,114]⟩,true,true,true,false⟩,⟨⟨#[120,111,114]⟩,true,true,true,false⟩,⟨⟨#[115,104,108]⟩,true,true,true,false⟩,⟨⟨#[115,104,114]⟩,true,true,true,false⟩,⟨⟨#[115,97,114]⟩,true,true,true,false⟩,⟨⟨#[110,101,103]⟩,true,true,false,false⟩,⟨⟨#[110,111,116]⟩,true,true,false,false⟩,⟨⟨#[119,114,97,112]⟩,true,true,false,true⟩,⟨⟨#[108,116]⟩,true,true,true,false⟩,⟨⟨#[108,116,117]⟩,true,true,true,false⟩,⟨⟨#[101,113]⟩,true,true,true,false⟩,⟨⟨#[99,109,112]⟩,true,true,true,false⟩,⟨⟨#[106,109,112]⟩,false,false,false,true⟩,⟨⟨#[106,122]⟩,false,true,false,true⟩,⟨⟨#[108,111,97,100]⟩,true,true,false,true⟩,⟨⟨#[117,108,111,97,100]⟩,true,true,false,true⟩,⟨⟨#[98,117,105]⟩,true,false,false,true⟩,⟨⟨#[97,114,103]⟩,true,false,false,true⟩,⟨⟨#[103,108,111]⟩,true,false,false,true⟩,⟨⟨#[115,101,116,103,108,111]⟩,false,true,false,true⟩,⟨⟨#[116,104,114]⟩,true,false,false,true⟩,⟨⟨#[115,101,116,116,104,114]⟩,false,true,false,true⟩,⟨⟨#[108,111,99]⟩,true,false,false,true⟩,⟨⟨#[115,101,116,108,111,99]⟩,false,true,false,true⟩,⟨⟨#[112,117,115,104]⟩,false,true,false,false⟩,⟨⟨#[97,115,99]⟩,true,false,false,true⟩,⟨⟨#[115,101,116,97,115,99]⟩,false,true,false,true⟩,⟨⟨#[99,97,108,108]⟩,true,false,false,true⟩,⟨⟨#[114,101,116]⟩,false,true,false,false⟩]
def p8:AV:= .ar 158 (sQ.map Nw)
def iP:AV:= .ar 210 [.st 133 [.int .i64 4,.bool true],.st 133 [.int .i64 4,.bool false],.st 133 [.int .i64 8,.bool true],.st 133 [.int .i64 8,.bool false]]
def G0:cC:=fun g=>if g=0 then some (158,p8) else if g=2 then some (210,iP) else none
theorem akf:G0 0=some (158,p8):=rfl
theorem akg:G0 2=some (210,iP):=rfl
def D0:Nat→Option (List DH × List Nat):=fun _=>none
theorem ac_ (i:Nat):D0 i=none:=rfl
def eV (f:FuncId):Bool:=f==10 || f==46 || f==76 || f==77 || f==78 || f==79 || f==128 || f==129 || f==134 || f==141 || f==142
def mc (f:FuncId):Bool:=f==76 || f==77 || f==78 || f==79
abbrev CK:=List (FuncId × (List AV→Option AV))
abbrev MK:=List (FuncId × (List AV→List (Nat × Abs.Obj)→Option (AV × List (Nat × Abs.Obj))))
def rQ:CK→FuncId→List AV→Option AV
 | [],_,_=>none
 | (g,c)::r,f,l=>if g=f then c l else rQ r f l
def Nx:MK→FuncId→List AV→List (Nat × Abs.Obj)→Option (AV × List (Nat × Abs.Obj))
 | [],_,_,_=>none
 | (g,c)::r,f,l,o=>if g=f then c l o else Nx r f l o
theorem Ny (g:FuncId) (c:List AV→Option AV) (r:CK) (f:FuncId) (l:List AV):rQ ((g,c)::r) f l=if g=f then c l else rQ r f l:=rfl
theorem Nz (g:FuncId) (c:List AV→List (Nat × Abs.Obj)→Option (AV × List (Nat × Abs.Obj))) (r:MK) (f:FuncId) (l:List AV) (o:List (Nat × Abs.Obj)):Nx ((g,c)::r) f l o=if g=f then c l o else Nx r f l o:=rfl
def p9 (Z:Nat→List Nat) (W:FuncId→Bool) (n K:Nat) (D:Nat→Option (List DH × List Nat)) (C:CK) (M:MK) (lo:Option Nat) (A L:Nat→Prop):Env:=⟨ty,G0,n,K,rQ C,D,A,lo,L,W,Nx M,mc,Z⟩
def Z0:Nat→List Nat:=fun _=>[]
theorem ada (i:Nat):Z0 i=[]:=rfl
def ej (n K:Nat) (D:Nat→Option (List DH × List Nat)) (C:CK) (M:MK) (lo:Option Nat) (A L:Nat→Prop):Env:=⟨ty,G0,n,K,rQ C,D,A,lo,L,eV,Nx M,mc,Z0⟩
def jD (Z:Nat→List Nat) (W:FuncId→Bool) (n K:Nat) (D:Nat→Option (List DH × List Nat)) (C:CK) (M:MK) (A:Nat→Prop):Env:=p9 Z W n K D C M none A fun _=>False
def env (n K:Nat) (D:Nat→Option (List DH × List Nat)) (C:CK) (M:MK) (A:Nat→Prop):Env:=ej n K D C M none A fun _=>False
theorem adb (n K:Nat) (D:Nat→Option (List DH × List Nat)) (C:CK) (M:MK) (A:Nat→Prop):(env n K D C M A).Z=Z0:=rfl
theorem Wu (n K:Nat) (D:Nat→Option (List DH × List Nat)) (C:CK) (M:MK) (lo:Option Nat) (A L:Nat→Prop):(ej n K D C M lo A L).Z=Z0:=rfl
theorem Rq (Z:Nat→List Nat) (W:FuncId→Bool) (n K:Nat) (D:Nat→Option (List DH × List Nat)) (C:CK) (M:MK) (A:Nat→Prop):(jD Z W n K D C M A).ty=ty:=rfl
theorem Wv (Z:Nat→List Nat) (W:FuncId→Bool) (n K:Nat) (D:Nat→Option (List DH × List Nat)) (C:CK) (M:MK) (A:Nat→Prop):(jD Z W n K D C M A).G=G0:=rfl
theorem Ww (Z:Nat→List Nat) (W:FuncId→Bool) (n K:Nat) (D:Nat→Option (List DH × List Nat)) (C:CK) (M:MK) (A:Nat→Prop):(jD Z W n K D C M A).n=n:=rfl
theorem Wx (Z:Nat→List Nat) (W:FuncId→Bool) (n K:Nat) (D:Nat→Option (List DH × List Nat)) (C:CK) (M:MK) (A:Nat→Prop):(jD Z W n K D C M A).K=K:=rfl
theorem Wy (Z:Nat→List Nat) (W:FuncId→Bool) (n K:Nat) (D:Nat→Option (List DH × List Nat)) (C:CK) (M:MK) (A:Nat→Prop):(jD Z W n K D C M A).C=rQ C:=rfl
theorem Wz (Z:Nat→List Nat) (W:FuncId→Bool) (n K:Nat) (D:Nat→Option (List DH × List Nat)) (C:CK) (M:MK) (A:Nat→Prop):(jD Z W n K D C M A).D=D:=rfl
theorem WA (Z:Nat→List Nat) (W:FuncId→Bool) (n K:Nat) (D:Nat→Option (List DH × List Nat)) (C:CK) (M:MK) (A:Nat→Prop):(jD Z W n K D C M A).W=W:=rfl
theorem WB (Z:Nat→List Nat) (W:FuncId→Bool) (n K:Nat) (D:Nat→Option (List DH × List Nat)) (C:CK) (M:MK) (A:Nat→Prop):(jD Z W n K D C M A).M=Nx M:=rfl
theorem WC (Z:Nat→List Nat) (W:FuncId→Bool) (n K:Nat) (D:Nat→Option (List DH × List Nat)) (C:CK) (M:MK) (A:Nat→Prop):(jD Z W n K D C M A).Q=mc:=rfl
theorem WD (Z:Nat→List Nat) (W:FuncId→Bool) (n K:Nat) (D:Nat→Option (List DH × List Nat)) (C:CK) (M:MK) (A:Nat→Prop):(jD Z W n K D C M A).Z=Z:=rfl
theorem ade (n K:Nat) (D:Nat→Option (List DH × List Nat)) (C:CK) (M:MK) (A:Nat→Prop):(env n K D C M A).Q=mc:=rfl
theorem WE (n K:Nat) (D:Nat→Option (List DH × List Nat)) (C:CK) (M:MK) (lo:Option Nat) (A L:Nat→Prop):(ej n K D C M lo A L).Q=mc:=rfl
theorem WG (n K:Nat) (D:Nat→Option (List DH × List Nat)) (C:CK) (M:MK) (A:Nat→Prop):(env n K D C M A).ty=ty:=rfl
theorem Rr (n K:Nat) (D:Nat→Option (List DH × List Nat)) (C:CK) (M:MK) (lo:Option Nat) (A L:Nat→Prop):(ej n K D C M lo A L).ty=ty:=rfl
theorem adf (n K:Nat) (D:Nat→Option (List DH × List Nat)) (C:CK) (M:MK) (A:Nat→Prop):(env n K D C M A).G=G0:=rfl
theorem WH (n K:Nat) (D:Nat→Option (List DH × List Nat)) (C:CK) (M:MK) (lo:Option Nat) (A L:Nat→Prop):(ej n K D C M lo A L).G=G0:=rfl
theorem adg (n K:Nat) (D:Nat→Option (List DH × List Nat)) (C:CK) (M:MK) (A:Nat→Prop):(env n K D C M A).n=n:=rfl
theorem WI (n K:Nat) (D:Nat→Option (List DH × List Nat)) (C:CK) (M:MK) (lo:Option Nat) (A L:Nat→Prop):(ej n K D C M lo A L).n=n:=rfl
theorem adh (n K:Nat) (D:Nat→Option (List DH × List Nat)) (C:CK) (M:MK) (A:Nat→Prop):(env n K D C M A).K=K:=rfl
theorem WJ (n K:Nat) (D:Nat→Option (List DH × List Nat)) (C:CK) (M:MK) (lo:Option Nat) (A L:Nat→Prop):(ej n K D C M lo A L).K=K:=rfl
theorem adi (n K:Nat) (D:Nat→Option (List DH × List Nat)) (C:CK) (M:MK) (A:Nat→Prop):(env n K D C M A).C=rQ C:=rfl
theorem WL (n K:Nat) (D:Nat→Option (List DH × List Nat)) (C:CK) (M:MK) (lo:Option Nat) (A L:Nat→Prop):(ej n K D C M lo A L).C=rQ C:=rfl
theorem adj (n K:Nat) (D:Nat→Option (List DH × List Nat)) (C:CK) (M:MK) (A:Nat→Prop):(env n K D C M A).D=D:=rfl
theorem WM (n K:Nat) (D:Nat→Option (List DH × List Nat)) (C:CK) (M:MK) (lo:Option Nat) (A L:Nat→Prop):(ej n K D C M lo A L).D=D:=rfl
theorem adk (n K:Nat) (D:Nat→Option (List DH × List Nat)) (C:CK) (M:MK) (A:Nat→Prop):(env n K D C M A).W=eV:=rfl
theorem WN (n K:Nat) (D:Nat→Option (List DH × List Nat)) (C:CK) (M:MK) (lo:Option Nat) (A L:Nat→Prop):(ej n K D C M lo A L).W=eV:=rfl
theorem adl (n K:Nat) (D:Nat→Option (List DH × List Nat)) (C:CK) (M:MK) (A:Nat→Prop):(env n K D C M A).M=Nx M:=rfl
theorem WO (n K:Nat) (D:Nat→Option (List DH × List Nat)) (C:CK) (M:MK) (lo:Option Nat) (A L:Nat→Prop):(ej n K D C M lo A L).M=Nx M:=rfl
def cI (f:FuncId) (c:List AV→Option AV):Prop:=∀ l r,c l=some r→yS Tryz.prog f∧tx Tryz.prog ty G0 f l r
def sR (f:FuncId) (c:List AV→List (Nat × Abs.Obj)→Option (AV × List (Nat × Abs.Obj))):Prop:=∀ l o r o',c l o=some (r,o')→yS Tryz.prog f∧iy Tryz.prog ty G0 f l o r o'
def CS:CK→Prop
 | []=>True
 | (g,c)::r=>cI g c∧CS r
def MS:MK→Prop
 | []=>True
 | (g,c)::r=>sR g c∧MS r
theorem CS.of:∀ {C:CK},CS C→∀ f l r,rQ C f l=some r→yS Tryz.prog f∧tx Tryz.prog ty G0 f l r
 | [],_,_,_,_,h=>by cases h
 | (g,c)::t,hC,f,l,r,h=>by
   simp only[rQ] at h;split at h
   ·rename_i e;subst e;exact hC.1 l r h
   ·exact CS.of hC.2 f l r h
theorem MS.of:∀ {C:MK},MS C→∀ f l o r o',Nx C f l o=some (r,o')→yS Tryz.prog f∧iy Tryz.prog ty G0 f l o r o'
 | [],_,_,_,_,_,_,h=>by cases h
 | (g,c)::t,hC,f,l,o,r,o',h=>by
   simp only[Nx] at h;split at h
   ·rename_i e;subst e;exact hC.1 l o r o' h
   ·exact MS.of hC.2 f l o r o' h
theorem kK {n K D C M lo A L} (hC:CS C) (hM:MS M):cM Tryz.prog (ej n K D C M lo A L):=⟨hC.of,hM.of⟩
theorem NA {Z W n K D C M A} (hC:CS C) (hM:MS M):cM Tryz.prog (jD Z W n K D C M A):=⟨hC.of,hM.of⟩
theorem hm:Tryz.prog.follows .mixedOrders=true:=by kernel_rfl
theorem rc {n K D} {C:CK} {M:MK} {f fn H k args r c} (hf:Tryz.prog.funcs[f]? = some fn) (hr:∀ A,ak (env n K D C M A) H k fn args=some r) (Mk:Nat→List Nat) (hn:fn.ntmps=n) (hb:fn.body=some c) (hl:Nat.ble args.length fn.ntmps=true) (hd:lS mc D Mk c=true) (hC:CS C) (hM:MS M):tx Tryz.prog ty G0 f args r:=
 qN (Ef:=fun A=>env n K D C M A) (fun _=>rfl) (fun _=>rfl) (fun _=>rfl) cF (fun _=>kK hC hM) hf (fun _=>hn) hb (Nat.le_of_ble_eq_true hl) (fun _=>eT cF (kK hC hM) hm Mk _ hd) hr
theorem rX {Z W n K D} {C:CK} {M:MK} {f fn H k args r c} (hf:Tryz.prog.funcs[f]? = some fn) (hr:∀ A,ak (jD Z W n K D C M A) H k fn args=some r) (Mk:Nat→List Nat) (hn:fn.ntmps=n) (hb:fn.body=some c) (hl:Nat.ble args.length fn.ntmps=true) (hd:lS mc D Mk c=true) (hC:CS C) (hM:MS M):tx Tryz.prog ty G0 f args r:=
 qN (Ef:=fun A=>jD Z W n K D C M A) (fun _=>rfl) (fun _=>rfl) (fun _=>rfl) cF (fun _=>NA hC hM) hf (fun _=>hn) hb (Nat.le_of_ble_eq_true hl) (fun _=>eT cF (NA hC hM) hm Mk _ hd) hr
theorem rm {n K D} {C:CK} {M:MK} {f fn H k args ob r fP c} (hf:Tryz.prog.funcs[f]? = some fn) (hr:∀ lo A L,ai (ej n K D C M lo A L) H k fn args ob=some (r,fP)) (Mk:Nat→List Nat) (hn:fn.ntmps=n) (hb:fn.body=some c) (hl:Nat.ble args.length fn.ntmps=true) (hd:lS mc D Mk c=true) (hC:CS C) (hM:MS M):iy Tryz.prog ty G0 f args ob r fP:=
 dj (Ef:=fun lo A L=>ej n K D C M lo A L) (fun _ _ _=>rfl) (fun _ _ _=>rfl) (fun _ _ _=>rfl) (fun _ _ _=>rfl) (fun _ _ _=>rfl) cF (fun _ _ _=>kK hC hM) hf (fun _ _ _=>hn) hb (Nat.le_of_ble_eq_true hl) (fun _ _ _=>eT cF (kK hC hM) hm Mk _ hd) hr
theorem bu {P:AV→(Nat→Prop)→Prop} {r a:AV} (h:∀ A,P r A) (hw:wk r a):∃ r,wk r a∧∀ A,P r A:=⟨r,hw,h⟩
open Classical in
noncomputable def y4 (R:List AV→AV→Prop) (l:List AV):Option AV:=if h:∃ r,R l r then some h.choose else none
theorem oI {R:List AV→AV→Prop} (hf:∀ l r r',R l r→R l r'→r=r') {l:List AV} {r:AV} (h:R l r):y4 R l=some r:=by
 have hex:∃ r,R l r:=⟨r,h⟩
 simp only[y4,dif_pos hex,Option.some.injEq];exact hf l _ _ hex.choose_spec h
theorem sS {R:List AV→AV→Prop} {l:List AV} {r:AV} (h:y4 R l=some r):R l r:=by
 unfold y4 at h;split at h
 ·rename_i hex;injection h with h;rw[← h];exact hex.choose_spec
 ·cases h
noncomputable def bk {α:Type} (p:α→Prop) (a:α→List AV) (b:α→AV):List AV→Option AV:=y4 fun l r=>∃ x,p x∧l=a x∧r=b x
theorem aJ {α:Type} {p:α→Prop} {a:α→List AV} {b:α→AV} (hi:∀ x y,p x→p y→a x=a y→b x=b y) (x:α) (hp:p x):bk p a b (a x)=some (b x):=
 oI (fun _ _ _ ⟨x,hx,h1,h2⟩ ⟨y,hy,h3,h4⟩=>by rw[h2,h4];exact hi x y hx hy (h1.symm.trans h3)) ⟨x,hp,rfl,rfl⟩
theorem aE {α:Type} {p:α→Prop} {a:α→List AV} {b:α→AV} {f fn} (hf:Tryz.prog.funcs[f]? = some fn) (hb:fn.body.isSome=true) (hn:(fn.name != "runtime.NumGoroutine")=true) (hr:∀ x,p x→tx Tryz.prog ty G0 f (a x) (b x)):cI f (bk p a b):=fun l r h=>by
 obtain⟨x,hx,rfl,rfl⟩:=sS h;exact⟨⟨fn,hf,hb,by simpa using hn⟩,hr x hx⟩
open Classical in
noncomputable def NB (R:List AV→List (Nat × Abs.Obj)→AV × List (Nat × Abs.Obj)→Prop) (l:List AV) (o:List (Nat × Abs.Obj)):Option (AV × List (Nat × Abs.Obj)):=if h:∃ r,R l o r then some h.choose else none
theorem Rs {R:List AV→List (Nat × Abs.Obj)→AV × List (Nat × Abs.Obj)→Prop} (hf:∀ l o r r',R l o r→R l o r'→r=r') {l:List AV} {o:List (Nat × Abs.Obj)} {r:AV × List (Nat × Abs.Obj)} (h:R l o r):NB R l o=some r:=by
 have hex:∃ r,R l o r:=⟨r,h⟩
 simp only[NB,dif_pos hex,Option.some.injEq];exact hf l o _ _ hex.choose_spec h
theorem WQ {R:List AV→List (Nat × Abs.Obj)→AV × List (Nat × Abs.Obj)→Prop} {l:List AV} {o:List (Nat × Abs.Obj)} {r:AV × List (Nat × Abs.Obj)} (h:NB R l o=some r):R l o r:=by
 unfold NB at h;split at h
 ·rename_i hex;injection h with h;rw[← h];exact hex.choose_spec
 ·cases h
noncomputable def mD {α:Type} (p:α→Prop) (a:α→List AV) (o:α→List (Nat × Abs.Obj)) (b:α→AV × List (Nat × Abs.Obj)):List AV→List (Nat × Abs.Obj)→Option (AV × List (Nat × Abs.Obj)):=NB fun l q r=>∃ x,p x∧l=a x∧q=o x∧r=b x
theorem je {α:Type} {p:α→Prop} {a:α→List AV} {o:α→List (Nat × Abs.Obj)} {b:α→AV × List (Nat × Abs.Obj)} (hi:∀ x y,p x→p y→a x=a y→o x=o y→b x=b y) (x:α) (hp:p x):mD p a o b (a x) (o x)=some (b x):=
 Rs (fun _ _ _ _ ⟨x,hx,h1,h2,h3⟩ ⟨y,hy,h4,h5,h6⟩=>by rw[h3,h6];exact hi x y hx hy (h1.symm.trans h4) (h2.symm.trans h5)) ⟨x,hp,rfl,rfl,rfl⟩
theorem gr {α:Type} {p:α→Prop} {a:α→List AV} {o:α→List (Nat × Abs.Obj)} {b:α→AV × List (Nat × Abs.Obj)} {f fn} (hf:Tryz.prog.funcs[f]? = some fn) (hb:fn.body.isSome=true) (hn:(fn.name != "runtime.NumGoroutine")=true) (hr:∀ x,p x→iy Tryz.prog ty G0 f (a x) (o x) (b x).1 (b x).2):sR f (mD p a o b):=fun l q r q' h=>by
 obtain⟨x,hx,rfl,rfl,e⟩:=WQ h;have h2:=hr x hx;rw[← e] at h2;exact⟨⟨fn,hf,hb,by simpa using hn⟩,h2⟩
def sub:Code→List Nat→Code
 | c,[]=>c
 | .seq a _,0::p=>sub a p
 | .seq _ b,1::p=>sub b p
 | .cond _ a _,0::p=>sub a p
 | .cond _ _ b,1::p=>sub b p
 | .block _ c,_::p=>sub c p
 | .loop c,_::p=>sub c p
 | c,_=>c
structure bp where
 op:Int
 d:Int
 a:Int
 b:Int
 n:Int
 deriving DecidableEq
structure aP where
 kind:Int
 at_:Int
 str:ByteArray
 mem:ByteArray
structure aL where
 ops:List bp
 ints:List Int
 strs:List ByteArray
 U:List aP
structure ct where
 rule:Int
 at_:Int
 deriving DecidableEq
structure aB where
 sort:Int
 n:Int
 deriving DecidableEq
def dD (o:bp):AV:= .st 80 [.int .i64 o.op,.int .i64 o.d,.int .i64 o.a,.int .i64 o.b,.int .i64 o.n]
def eI (n:Int):AV:= .int .i64 n
def eS (s:ByteArray):AV:= .str s
def b_ (r:aP):AV:= .st 90 [.int .i64 r.kind,.int .i64 r.at_,.str r.str,.str r.mem]
def bo (s:ct):AV:= .st 29 [.int .i64 s.rule,.int .i64 s.at_]
def eB (b:Bool):AV:= .bool b
def aW (f:aB):AV:= .st 117 [.int .i64 f.sort,.int .i64 f.n]
def aF (l:List aB):AV:= .ar 119 (l.map aW)
def eU (n:Int):AV:= .int .u8 n
theorem JS (x y:aB):(aW x=aW y)=(x=y):=by cases x;cases y;simp[aW]
theorem WR (x y:Int):(eU x=eU y)=(x=y):=by simp[eU]
def ax (c:aL):AV:= .st 27 [.sl 80 ⟨false,none,false⟩ (c.ops.map dD),.sl 2 ⟨false,none,false⟩ (c.ints.map eI),.sl 9 ⟨false,none,false⟩ (c.strs.map eS),.sl 90 ⟨false,none,false⟩ (c.U.map b_)]
def aS (r:Option aL):AV:=match r with
 | some c=> .cE [ax c,.bool true]
 | none=> .cE [ax ⟨[],[],[],[]⟩,.bool false]
def bD:bp:=⟨0,0,0,0,0⟩
theorem Rt (x y:bp):(dD x=dD y)=(x=y):=by cases x;cases y;simp[dD]
theorem WS (x y:Int):(eI x=eI y)=(x=y):=by simp[eI]
theorem WT (x y:ByteArray):(eS x=eS y)=(x=y):=by simp[eS]
theorem WU (x y:Bool):(eB x=eB y)=(x=y):=by simp[eB]
theorem NC (x y:aP):(b_ x=b_ y)=(x=y):=by cases x;cases y;simp[b_]
theorem JT (x y:ct):(bo x=bo y)=(x=y):=by cases x;cases y;simp[bo]
theorem jf {α:Type} {f:α→AV} (hf:∀ x y,(f x=f y)=(x=y)) (a b:List α):(a.map f=b.map f)=(a=b):=by
 refine propext ⟨fun h=>?_,fun h=>by rw[h]⟩
 induction a generalizing b with
 | nil=>cases b with | nil=>rfl | cons=>simp at h
 | cons x r ih=>
   cases b with
   | nil=>simp at h
   | cons y s=>
     simp only[List.map_cons,List.cons.injEq] at h;rw[(hf x y).mp h.1,ih s h.2]
theorem F7 (x y:List aB):(aF x=aF y)=(x=y):=by simp only[aF,AV.ar.injEq,true_and];exact jf JS x y
theorem fQ (a b:List (List aB)):(a.map aF=b.map aF)=(a=b):=jf F7 a b
theorem m_ (a b:List Int):(a.map eU=b.map eU)=(a=b):=jf WR a b
theorem kL (a b:List bp):(a.map dD=b.map dD)=(a=b):=jf Rt a b
theorem nc (a b:List Int):(a.map eI=b.map eI)=(a=b):=jf WS a b
theorem nd (a b:List ByteArray):(a.map eS=b.map eS)=(a=b):=jf WT a b
theorem nf (a b:List Bool):(a.map eB=b.map eB)=(a=b):=jf WU a b
theorem jg (a b:List aP):(a.map b_=b.map b_)=(a=b):=jf NC a b
theorem gI (a b:List ct):(a.map bo=b.map bo)=(a=b):=jf JT a b
theorem WV (c:Prop) [Decidable c] (a b:Bool):some (AV.bool (if c then a else b))=if c then some (AV.bool a) else some (AV.bool b):=by split <;> rfl
theorem xX {t:bX} {f:St→Option (AX × St)} {h:Hint}:∀ (k:Nat) (σ:St) (r:AX × St),aG t f h k σ=some r→aG t f h (k+1) σ=some r
 | 0,_,_,hr=>by cases hr
 | k+1,σ,r,hr=>by
   rw[aG] at hr ⊢;cases hf:f ((σ.cA h).nw t h.sl) with
   | none=>rw[hf] at hr;cases hr
   | some x=>
     obtain⟨e,σ1⟩:=x;rw[hf] at hr;cases e with
     | norm=>exact xX k σ1 r hr
     | exit i=>exact hr
     | ret=>exact hr
theorem aY {t:bX} {f:St→Option (AX × St)} {h:Hint} {k k':Nat} {σ:St} {r:AX × St} (hr:post h (aG t f h k σ)=some r) (hk:k≤k'):post h (aG t f h k' σ)=some r:=by
 unfold post at hr;split at hr
 ·rename_i x σ1 h1;have:aG t f h k' σ=some (x,σ1):=by
   obtain⟨j,rfl⟩:=Nat.exists_eq_add_of_le hk;clear hk
   induction j with
   | zero=>exact h1
   | succ j ih=>exact xX _ _ _ ih
  rw[this];exact hr
 ·cases hr
theorem wrap_i64 {x:Int} (h1:-9223372036854775808≤x) (h2:x < 9223372036854775808):IntKind.i64.wrap x=x:=by
 have e:IntKind.i64.wrap x=if (IntKind.i64.signed&&decide (x % (2 ^ 64:Int) ≥ (2 ^ 63:Int)))=true then x % (2 ^ 64:Int) - (2 ^ 64:Int) else x % (2 ^ 64:Int):=rfl
 rw[e];have hs:IntKind.i64.signed=true:=rfl;simp only[hs,Bool.true_and,decide_eq_true_eq,ge_iff_le];split <;> omega
theorem a_ {i:Nat} (h:i < 1000000):IntKind.i64.wrap ((i:Int)+1)=((i+1:Nat):Int):=by
 rw[wrap_i64 (by omega) (by omega)];omega
theorem TY:type_of% (aI @FH (aI @oS (aI @vh (aI @acy (aI @yY (aI @TG (aI @zG (aI @zH (aI @zI (aI @zJ (aI @Dh (aI @TH (aI @TI (aI @TJ (aI @TL (aI @TM (aI @TN (aI @TO (aI @TP (aI @TQ (aI @TS (aI @TT (aI @TU (aI @TV (aI @Di (aI @TW (aI @TX (aI @Dj (aI @TZ (aI @LW (aI @LX (aI @LY (aI @LZ (aI @L0 (aI @L1 (aI @L2 (aI @L3 (aI @sJ (aI @Bu (aI @L4 (aI @L5 (aI @Bv (aI @L6 (aI @L7 (aI @L8 (aI @L9 (aI @L_ (aI @Ma (aI @Mb (aI @Mc (aI @Md (aI @Me (aI @Bw (aI @FI (aI @FJ (aI @FK (@FL))))))))))))))))))))))))))))))))))))))))))))))))))))))))):=⟨@FH,@oS,@vh,@acy,@yY,@TG,@zG,@zH,@zI,@zJ,@Dh,@TH,@TI,@TJ,@TL,@TM,@TN,@TO,@TP,@TQ,@TS,@TT,@TU,@TV,@Di,@TW,@TX,@Dj,@TZ,@LW,@LX,@LY,@LZ,@L0,@L1,@L2,@L3,@sJ,@Bu,@L4,@L5,@Bv,@L6,@L7,@L8,@L9,@L_,@Ma,@Mb,@Mc,@Md,@Me,@Bw,@FI,@FJ,@FK,@FL⟩
abbrev gF:Fl:=⟨false,none,false⟩
abbrev gT:Fl:=⟨true,none,false⟩
abbrev cd (o:List bp) (i:List Int) (s:List ByteArray) (r:List aP):AV:= .st 27 [.sl 80 ⟨false,none,false⟩ (o.map dD),.sl 2 ⟨false,none,false⟩ (i.map eI),.sl 9 ⟨false,none,false⟩ (s.map eS),.sl 90 ⟨false,none,false⟩ (r.map b_)]
theorem BL:type_of% (aI @if_true.{1} (aI @if_false.{1} (aI @if_true.{0} (aI @if_false.{0} (aI @Bool.false_eq_true (aI @Bool.true_and (aI @Bool.and_true (aI @Bool.false_and (aI @Bool.and_false (aI @Bool.not_true (aI @Bool.not_false (aI @Bool.or_true (aI @Bool.true_or (aI @Bool.or_false (aI @Bool.false_or (aI @Bool.or_self (aI @Bool.and_self (aI @decide_true (@decide_false))))))))))))))))))):=aI @if_true.{1} (aI @if_false.{1} (aI @if_true.{0} (aI @if_false.{0} (aI @Bool.false_eq_true (aI @Bool.true_and (aI @Bool.and_true (aI @Bool.false_and (aI @Bool.and_false (aI @Bool.not_true (aI @Bool.not_false (aI @Bool.or_true (aI @Bool.true_or (aI @Bool.or_false (aI @Bool.false_or (aI @Bool.or_self (aI @Bool.and_self (aI @decide_true (@decide_false))))))))))))))))))
theorem cJ:type_of% (aI (@List.cons.injEq (Nat × Abs.Obj)) (aI (@List.cons.injEq AV) (aI @AV.st.injEq (aI @AV.sl.injEq (aI @AV.int.injEq (aI @AV.bool.injEq (aI @AV.str.injEq (aI @AV.ro.injEq (aI @AV.fn.injEq (aI @AV.own.injEq (aI @Fl.mk.injEq (aI (@Prod.mk.injEq Nat Abs.Obj) (aI @Abs.Obj.mk.injEq (aI @kL (aI @nc (aI @nd (aI @nf (aI @jg (aI @gI (aI @fQ (aI @m_ (aI @and_true (aI @true_and (@and_assoc)))))))))))))))))))))))):=aI (@List.cons.injEq (Nat × Abs.Obj)) (aI (@List.cons.injEq AV) (aI @AV.st.injEq (aI @AV.sl.injEq (aI @AV.int.injEq (aI @AV.bool.injEq (aI @AV.str.injEq (aI @AV.ro.injEq (aI @AV.fn.injEq (aI @AV.own.injEq (aI @Fl.mk.injEq (aI (@Prod.mk.injEq Nat Abs.Obj) (aI @Abs.Obj.mk.injEq (aI @kL (aI @nc (aI @nd (aI @nf (aI @jg (aI @gI (aI @fQ (aI @m_ (aI @and_true (aI @true_and (@and_assoc)))))))))))))))))))))))
theorem WK:type_of% (aI @uO (aI @Ei (aI @oa (aI @lT (aI @j7 (aI @oc (aI @IB (@Nv)))))))):=aI @uO (aI @Ei (aI @oa (aI @lT (aI @j7 (aI @oc (aI @IB (@Nv)))))))
attribute [go_sem] EV1 EV2 EV3 EV4 EV5 EV6 EV7 EV8 EV9 ajS Jt vQ Lb ib one St.free St.free.qs St.free.kZ bA bA.du kx kx.vM fresh fresh.iv closed closed.fq flat flat.zg iw iw.zh jw cL cL.qq dS Ba jd fv isBool isSlice isStr pg.ph pg.yM roomy List.length_cons List.length_nil inK if_true if_false Bool.and_true Bool.true_and Bool.not_false Bool.not_true Bool.or_false Bool.false_or Bool.or_true Bool.true_or Bool.and_self Bool.or_self beq_self_eq_true Option.getD_some and_self and_true true_and and_false false_and or_false false_or or_true true_or List.getElem?_cons_zero List.getElem?_cons_succ List.nil_append List.cons_append Option.some.injEq List.set_cons_zero List.set_cons_succ decide_true decide_false Bool.false_eq_true Bool.false_and Bool.and_false List.append_nil List.isEmpty_nil List.append_assoc Nat.zero_add Nat.add_zero Nat.le_refl Nat.zero_le E8 A7 pP isApp A8 Abs.Obj.bA Option.isSome_some Option.isSome_none jR Abs.bA.du List.contains_cons List.contains_nil eq_self bq List.all_cons List.all_nil ne_eq not_false_eq_true not_true_eq_false adb Wu ada Rq Wv Ww Wx Wy Wz WA WB WC WD ade WE mc WG Rr adf WH adg WI adh WJ adi WL adj WM adk WN adl WO Ny Nz eV akf akg ac_ TY CM zi pj zj List.isEmpty_cons ids ids.lL num rn jx jx.u9 mR nv pick lM sv oC within gR Lc nN k_ mn Int.toNat_natCast List.getElem?_map Option.map_some List.length_map St.nw kE St.cA aQ Int.natCast_zero List.length_set Int.natCast_nonneg dD eI eS b_ eB eU fo fo.ml eH
attribute [go_sem] reduceDIte Nat.reduceEqDiff Nat.reduceOr Array.reduceGetElem? Nat.reducePow Nat.reduceGT Nat.reduceBneDiff Array.reduceGetElem! Nat.reduceSubDiff Nat.reduceMod Nat.reduceXor Int.reduceGE Int.reduceBmod Int.reduceToNat Int.reduceEq Int.reduceFDiv Nat.reduceAnd Nat.reduceShiftRight Int.reduceNatCast Int.reduceGT Int.reducePow Nat.reduceAdd Nat.reduceBNe Int.reduceDiv Int.reduceMul reduceCtorEq Int.reduceBEq Nat.reduceBeqDiff Int.reduceTMod Int.reduceOfNat Nat.reduceShiftLeft Nat.reduceLeDiff Int.reduceNe Int.reduceSub Int.reduceLT Nat.reduceSub Int.reduceNeg Nat.reduceDiv Int.reduceBNe Nat.reduceMul Int.reduceAdd Nat.reduceBEq Nat.reduceSucc Array.reduceGetElem Int.reduceTDiv Nat.reduceLT Int.reduceLE Int.reduceMod reduceIte List.reduceReplicate Int.reduceNatCast'
abbrev LM (o:List bp) (i:List Int) (s:List ByteArray) (r:List aP):Prop:=o.length≤100000∧i.length≤100000∧s.length≤100000∧r.length≤100000
abbrev wv (o:List bp) (i:List Int) (s:List ByteArray) (r:List aP) (f:List (List aB)) (b:List Bool) (l:List Int):AV:= .ro false 106 (.st 106 [(cd o i s r),.sl 119 gT (f.map aF),.sl 4 gT (b.map eB),.sl 109 gT (l.map eU)])
abbrev bC (o:List bp) (i:List Int) (s:List ByteArray) (r:List aP):Abs.Obj:=⟨.box 27,false,[(cd o i s r)]⟩
noncomputable abbrev Q (n:Nat):=Tryz.prog.funcs[n]?
abbrev LS (l:List aP):Prop:=∀ r ∈ l,r.str.size≤9223372036854775807∧r.mem.size≤9223372036854775807
end Go.Proofs.Tryz
end
section
set_option maxHeartbeats 4000000
set_option maxRecDepth 20000
namespace Go.Proofs.Tryz
open Go Go.Abs
variable (N : List bp) (V : List Int) (I : List ByteArray) (U : List aP) (ao : List (List aB)) (aj : List Bool) (au : List Int)
theorem h87:Q 87=some f87:=by kernel_rfl
def gu (s n d a:Int):Int × Int:=if s=1 then (s,n) else if s=2∧n ≠ d then (s,n) else if s=2 then (0,0) else if a ≠ d then (2,a) else (s,n)
theorem adm (s n d a:Int) (A:NP):ak (env 35 276828367 D0 [] [] A) hN (5) f87 [.st 117 [J s,J n],J d,J a]=some (.st 117 [J (gu s n d a).1,J (gu s n d a).2]):=by
 simp only[ak,ai,f87];simp only[go_sem];repeat' (split <;> simp only[go_sem, *])
 all_goals simp_all [gu]
noncomputable def c87:=bk (α:=Int × Int × Int × Int) (fun _=>True) (fun (s,n,d,a)=>[.st 117 [J s,J n],J d,J a]) (fun (s,n,d,a)=> .st 117 [J (gu s n d a).1,J (gu s n d a).2])
theorem ND (s n d a:Int):c87 [.st 117 [J s,J n],J d,J a]=some (.st 117 [J (gu s n d a).1,J (gu s n d a).2]):=aJ (fun X Y hp bZ h'=>by
 obtain⟨s,n,d,a⟩:=X;obtain⟨s',n',d',a'⟩:=Y;simp only[cJ] at h';obtain⟨rfl,rfl,rfl,rfl⟩:=h';rfl) (s,n,d,a) trivial
theorem adn:cI 87 c87:=aE h87 rfl rfl fun (s,n,d,a) _=>rc h87 (fun A=>adm s n d a A) (fun _=>[]) rfl rfl rfl (by kernel_rfl) trivial trivial
theorem ado:Q 111=some f111:=by kernel_rfl
theorem WW (k a x:Int) (s m:ByteArray) (A:NP):ak (env 8 15 D0 [] [] A) hN (5) f111 [.st 90 [J k,J a,.str s,.str m],.ro false 3 (J x)]=some (.bool (a==x)):=by
 simp only[ak,ai,f111];simp only[go_sem]
noncomputable def xY:=bk (α:=Int × Int × Int × ByteArray × ByteArray) (fun _=>True) (fun (k,a,x,s,m)=>[.st 90 [J k,J a,.str s,.str m],.ro false 3 (J x)]) (fun (k,a,x,s,m)=> .bool (a==x))
theorem jN (k a x:Int) (s m:ByteArray):xY [.st 90 [J k,J a,.str s,.str m],.ro false 3 (J x)]=some (.bool (a==x)):=aJ (fun X Y hp bZ h'=>by
 obtain⟨k,a,x,s,m⟩:=X;obtain⟨k',a',x',s',m'⟩:=Y;simp only[cJ] at h';obtain⟨rfl,rfl,rfl,rfl,rfl⟩:=h';rfl) (k,a,x,s,m) trivial
theorem WX:cI 111 xY:=aE ado rfl rfl fun (k,a,x,s,m) _=>rc ado (fun A=>WW k a x s m A) (fun _=>[]) rfl rfl rfl (by kernel_rfl) trivial trivial
def fixF (N:List bp) (i:Int) (r:aP):Bool:=(N.getD r.at_.toNat ⟨0,0,0,0,0⟩).op==1&&(N.getD r.at_.toNat ⟨0,0,0,0,0⟩).n==i
theorem aD {α:Type} {l:List α} {i:Nat} {d:α} (h:i < l.length):l[i]? = some (l.getD i d):=by simp[List.getD,List.getElem?_eq_getElem h]
theorem adp:Q 144=some f144:=by kernel_rfl
theorem WY (k a:Int) (s m:ByteArray) (N:List bp) (V:List Int) (I:List ByteArray) (U:List aP) (i:Int) (hp:0≤a∧a.toNat < N.length) (A:NP):ak (env 21 63 D0 [] [] A) hN (5) f144 [.st 90 [J k,J a,.str s,.str m],.ro false 27 ((cd N V I U)),.ro false 3 (J i)]=some (.bool (fixF N i ⟨k,a,s,m⟩)):=by
 obtain⟨h0,aR⟩:=hp;have aw:=aD (d:=(⟨0,0,0,0,0⟩:bp)) aR;simp only[fixF];generalize N.getD a.toNat ⟨0,0,0,0,0⟩=o at *;cases h1:(o.op==1)
 all_goals
  simp only[ak,ai,f144];simp only[go_sem,h0,aw,h1]
noncomputable def xZ:=bk (α:=Int × Int × ByteArray × ByteArray × (List bp) × (List Int) × (List ByteArray) × (List aP) × Int) (fun (k,a,s,m,N,V,I,U,i)=>0≤a∧a.toNat < N.length) (fun (k,a,s,m,N,V,I,U,i)=>[.st 90 [J k,J a,.str s,.str m],.ro false 27 ((cd N V I U)),.ro false 3 (J i)]) (fun (k,a,s,m,N,V,I,U,i)=> .bool (fixF N i ⟨k,a,s,m⟩))
theorem jO (k a:Int) (s m:ByteArray) (N:List bp) (V:List Int) (I:List ByteArray) (U:List aP) (i:Int) (hp:0≤a∧a.toNat < N.length):xZ [.st 90 [J k,J a,.str s,.str m],.ro false 27 ((cd N V I U)),.ro false 3 (J i)]=some (.bool (fixF N i ⟨k,a,s,m⟩)):=aJ (fun X Y hp bZ h'=>by
 obtain⟨k,a,s,m,N,V,I,U,i⟩:=X;obtain⟨k',a',s',m',c7,bJ,bL,bK,i'⟩:=Y;simp only[cJ] at h';obtain⟨rfl,rfl,rfl,rfl,rfl,rfl,rfl,rfl,rfl⟩:=h';rfl) (k,a,s,m,N,V,I,U,i) hp
theorem WZ:cI 144 xZ:=aE adp rfl rfl fun (k,a,s,m,N,V,I,U,i) hp=>rc adp (fun A=>WY k a s m N V I U i hp A) (fun _=>[]) rfl rfl rfl (by kernel_rfl) trivial trivial
theorem adq:Q 143=some f143:=by kernel_rfl
theorem W5 (k a x:Int) (s m:ByteArray) (A:NP):ak (env 8 15 D0 [] [] A) hN (5) f143 [.st 90 [J k,J a,.str s,.str m],.ro false 3 (J x)]=some (.bool (a==x)):=by
 simp only[ak,ai,f143];simp only[go_sem]
noncomputable def oW:=bk (α:=Int × Int × Int × ByteArray × ByteArray) (fun _=>True) (fun (k,a,x,s,m)=>[.st 90 [J k,J a,.str s,.str m],.ro false 3 (J x)]) (fun (k,a,x,s,m)=> .bool (a==x))
theorem gJ (k a x:Int) (s m:ByteArray):oW [.st 90 [J k,J a,.str s,.str m],.ro false 3 (J x)]=some (.bool (a==x)):=aJ (fun X Y hp bZ h'=>by
 obtain⟨k,a,x,s,m⟩:=X;obtain⟨k',a',x',s',m'⟩:=Y;simp only[cJ] at h';obtain⟨rfl,rfl,rfl,rfl,rfl⟩:=h';rfl) (k,a,x,s,m) trivial
theorem F8:cI 143 oW:=aE adq rfl rfl fun (k,a,x,s,m) _=>rc adq (fun A=>W5 k a x s m A) (fun _=>[]) rfl rfl rfl (by kernel_rfl) trivial trivial
theorem adr:Q 122=some f122:=by kernel_rfl
theorem W9 (n:Int) (N:List bp) (V:List Int) (I:List ByteArray) (U:List aP) (i:Int) (hp:0≤i∧i.toNat < V.length) (A:NP):ak (env 12 23 D0 [] [] A) hN (5) f122 [J n,.ro false 27 ((cd N V I U)),.ro false 3 (J i)]=some (.bool (n==V.getD i.toNat 0)):=by
 obtain⟨h0,aR⟩:=hp;have aw:=aD (d:=(0:Int)) aR;simp only[ak,ai,f122];simp only[go_sem,h0,aw]
noncomputable def Ek:=bk (α:=Int × (List bp) × (List Int) × (List ByteArray) × (List aP) × Int) (fun (n,N,V,I,U,i)=>0≤i∧i.toNat < V.length) (fun (n,N,V,I,U,i)=>[J n,.ro false 27 ((cd N V I U)),.ro false 3 (J i)]) (fun (n,N,V,I,U,i)=> .bool (n==V.getD i.toNat 0))
theorem jP (n:Int) (N:List bp) (V:List Int) (I:List ByteArray) (U:List aP) (i:Int) (hp:0≤i∧i.toNat < V.length):Ek [J n,.ro false 27 ((cd N V I U)),.ro false 3 (J i)]=some (.bool (n==V.getD i.toNat 0)):=aJ (fun X Y hp bZ h'=>by
 obtain⟨n,N,V,I,U,i⟩:=X;obtain⟨n',c7,bJ,bL,bK,i'⟩:=Y;simp only[cJ] at h';obtain⟨rfl,rfl,rfl,rfl,rfl,rfl⟩:=h';rfl) (n,N,V,I,U,i) hp
theorem W_:cI 122 Ek:=aE adr rfl rfl fun (n,N,V,I,U,i) hp=>rc adr (fun A=>W9 n N V I U i hp A) (fun _=>[]) rfl rfl rfl (by kernel_rfl) trivial trivial
theorem ads:Q 127=some f127:=by kernel_rfl
theorem Xa (o d a b n:Int) (p q:Int) (A:NP):ak (env 15 31 D0 [] [] A) hN (5) f127 [.st 80 [J o,J d,J a,J b,J n],.ro false 3 (J p),.ro false 3 (J q)]=some (.bool ((o==p)&&(n==q))):=by
 cases h1:(o==p)
 all_goals
  simp only[ak,ai,f127];simp only[go_sem,h1]
noncomputable def x5:=bk (α:=Int × Int × Int × Int × Int × Int × Int) (fun _=>True) (fun (o,d,a,b,n,p,q)=>[.st 80 [J o,J d,J a,J b,J n],.ro false 3 (J p),.ro false 3 (J q)]) (fun (o,d,a,b,n,p,q)=> .bool ((o==p)&&(n==q)))
theorem jh (o d a b n:Int) (p q:Int):x5 [.st 80 [J o,J d,J a,J b,J n],.ro false 3 (J p),.ro false 3 (J q)]=some (.bool ((o==p)&&(n==q))):=aJ (fun X Y hp bZ h'=>by
 obtain⟨o,d,a,b,n,p,q⟩:=X;obtain⟨o',d',a',b',n',p',q'⟩:=Y;simp only[cJ] at h';obtain⟨rfl,rfl,rfl,rfl,rfl,rfl,rfl⟩:=h';rfl) (o,d,a,b,n,p,q) trivial
theorem Xb:cI 127 x5:=aE ads rfl rfl fun (o,d,a,b,n,p,q) _=>rc ads (fun A=>Xa o d a b n p q A) (fun _=>[]) rfl rfl rfl (by kernel_rfl) trivial trivial
def dV (bh:List AV):Prop:=closed.fq bh=true∧fo.ml bh=true∧∀ k ob,20≤k→cH.gQ ty ob k bh=some bh
def bf {α:Type} (p:α→Bool):List α→Nat→Int
 | [],_=> -1
 | x::r,i=>if p x=true then (i:Int) else bf p r (i+1)
theorem ji {α:Type} (p:α→Bool):∀ (l:List α) (i:Nat),bf p l i = -1∨(i:Int)≤bf p l i
 | [],_=> .inl rfl
 | x::r,i=>by
   simp only[bf];split
   ·exact .inr (Int.le_refl _)
   ·exact (ji p r (i+1)).imp id fun h=>by omega
theorem lU {α:Type} {p q:α→Bool}:∀ {l:List α} {i:Nat},(∀ x ∈ l,p x=q x)→bf p l i=bf q l i
 | [],_,_=>rfl
 | x::r,i,h=>by
   simp only[bf,h x (by simp)];rw[lU fun y hy=>h y (by simp[hy])]
theorem adt:Q 136=some f136:=by kernel_rfl
theorem Ru (xs:List aP) (f:FuncId) (bh:List AV) (p:aP→Bool) (hp:∀ r ∈ xs,rQ [(111,xY),(144,xZ),(143,oW)] f (b_ r::bh)=some (.bool (p r))) (hc:dV bh) (hf:eV f=false) (dO:xs.length≤100000) (A:NP) (k:Nat):∀ (m i:Nat) (σ:St),i+m=xs.length→
 σ.cA ({ tm:=[0,1,7,8],ob:=[],fin:=some ([4],[]) }:Hint)=⟨[(0,.sl 90 gF (xs.map b_)),(1,.fn f bh),(7,J xs.length),(8,J i)],[]⟩→
 post ({ tm:=[0,1,7,8],ob:=[],fin:=some ([4],[]) }:Hint) (aG ty (a9 (env 19 66483 D0 [(111,xY),(144,xZ),(143,oW)] [] A) (fun _=>({ tm:=[0,1,7,8],ob:=[],fin:=some ([4],[]) }:Hint)) k (sub (f136.body.getD .skip) [1,0,1,0,0])) ({ tm:=[0,1,7,8],ob:=[],fin:=some ([4],[]) }:Hint) (m+1) σ) =
 some (if bf p (xs.drop i) i = -1 then (.exit 0,⟨[],[]⟩) else (.ret,⟨[(4,J (bf p (xs.drop i) i))],[]⟩)):=by
 obtain⟨sy,fp,hc3⟩:=hc;simp only[eV] at hf;simp only[f136,sub,Option.getD_some];intro m
 induction m with
 | zero=>
   intro i σ hi hσ;have h1:¬ ((i:Int) < (xs.length:Int)):=by omega
   rw[aG,hσ];simp only[go_sem,jN,jO,gJ,h1];simp[post,St.fin,aQ,aA,show xs.drop i=[] by simp;omega,bf]
 | succ m ih=>
   intro i σ hi hσ;have h1:(i:Int) < (xs.length:Int):=by omega
   have aR:i < xs.length:=by omega
   have aw:xs[i]? = some xs[i]:=List.getElem?_eq_getElem aR;have hw:IntKind.i64.wrap ((i:Int)+1)=((i+1:Nat):Int):=a_ (by omega);have hC:=hp xs[i] (List.getElem_mem aR);have hd:xs.drop i=xs[i]::xs.drop (i+1):=List.drop_eq_getElem_cons aR;rw[aG,hσ,hd];generalize xs[i]=r at *;simp only[b_] at hC;simp only[go_sem,jN,jO,gJ,h1,aw,sy,hc3,hC,hw,hf];cases x6:p r with
   | true=>
     simp only[go_sem,jN,jO,gJ];simp[post,St.fin,aQ,aA,bf,x6]
   | false=>
     simp only[go_sem,jN,jO,gJ,hw];rw[ih (i+1) _ (by omega) (by simp only[go_sem,jN,jO,gJ])];simp[bf,x6]
theorem Xc (xs:List aP) (f:FuncId) (bh:List AV) (p:aP→Bool) (hp:(∀ r ∈ xs,rQ [(111,xY),(144,xZ),(143,oW)] f (b_ r::bh)=some (.bool (p r)))∧dV bh∧eV f=false∧xs.length≤100000) (A:NP):ak (env 19 66483 D0 [(111,xY),(144,xZ),(143,oW)] [] A) (fun _=>({ tm:=[0,1,7,8],ob:=[],fin:=some ([4],[]) }:Hint)) (xs.length+1) f136 [.sl 90 gF (xs.map b_),.fn f bh]=some (J (bf p xs 0)):=by
 obtain⟨hp,hc,hf,dO⟩:=hp;have hl:=Ru xs f bh p hp hc hf dO A (xs.length+1) xs.length 0;simp only[f136,sub,Option.getD_some,List.drop_zero] at hl;simp only[ak,ai,f136];simp only[go_sem,jN,jO,gJ,hc.1,hc.2.1];rw[hl _ (by simp) (by simp only[go_sem,jN,jO,gJ])];rcases ji p xs 0 with h | h
 ·simp only[go_sem,jN,jO,gJ,h]
 ·have h':¬ bf p xs 0 = -1:=by omega
  simp only[go_sem,jN,jO,gJ,h']
noncomputable def El:=bk (α:=(List aP) × FuncId × (List AV) × (aP→Bool)) (fun (xs,f,bh,p)=>(∀ r ∈ xs,rQ [(111,xY),(144,xZ),(143,oW)] f (b_ r::bh)=some (.bool (p r)))∧dV bh∧eV f=false∧xs.length≤100000) (fun (xs,f,bh,p)=>[.sl 90 gF (xs.map b_),.fn f bh]) (fun (xs,f,bh,p)=>J (bf p xs 0))
theorem ID (xs:List aP) (f:FuncId) (bh:List AV) (p:aP→Bool) (hp:(∀ r ∈ xs,rQ [(111,xY),(144,xZ),(143,oW)] f (b_ r::bh)=some (.bool (p r)))∧dV bh∧eV f=false∧xs.length≤100000):El [.sl 90 gF (xs.map b_),.fn f bh]=some (J (bf p xs 0)):=aJ (fun X Y hp bZ h'=>by
 obtain⟨xs,f,bh,p⟩:=X;obtain⟨BN,f',IE,p'⟩:=Y;simp only[cJ] at h';obtain⟨rfl,rfl,rfl⟩:=h';try dsimp only at hp bZ ⊢
 rw[lU fun r hr=>AV.bool.inj (Option.some.inj ((hp.1 r hr).symm.trans (bZ.1 r hr)))]) (xs,f,bh,p) hp
theorem F9:cI 136 El:=aE adt rfl rfl fun (xs,f,bh,p) hp=>rc adt (fun A=>Xc xs f bh p hp A) (fun _=>[]) rfl rfl rfl (by kernel_rfl) ⟨WX,WZ,F8,trivial⟩ trivial
theorem adv:Q 121=some f121:=by kernel_rfl
theorem Rv (xs:List Int) (f:FuncId) (bh:List AV) (p:Int→Bool) (hp:∀ r ∈ xs,rQ [(122,Ek)] f (eI r::bh)=some (.bool (p r))) (hc:dV bh) (hf:eV f=false) (dO:xs.length≤100000) (A:NP) (k:Nat):∀ (m i:Nat) (σ:St),i+m=xs.length→
 σ.cA ({ tm:=[0,1,7,8],ob:=[],fin:=some ([4],[]) }:Hint)=⟨[(0,.sl 2 gF (xs.map eI)),(1,.fn f bh),(7,J xs.length),(8,J i)],[]⟩→
 post ({ tm:=[0,1,7,8],ob:=[],fin:=some ([4],[]) }:Hint) (aG ty (a9 (env 19 66483 D0 [(122,Ek)] [] A) (fun _=>({ tm:=[0,1,7,8],ob:=[],fin:=some ([4],[]) }:Hint)) k (sub (f121.body.getD .skip) [1,0,1,0,0])) ({ tm:=[0,1,7,8],ob:=[],fin:=some ([4],[]) }:Hint) (m+1) σ) =
 some (if bf p (xs.drop i) i = -1 then (.exit 0,⟨[],[]⟩) else (.ret,⟨[(4,J (bf p (xs.drop i) i))],[]⟩)):=by
 obtain⟨sy,fp,hc3⟩:=hc;simp only[eV] at hf;simp only[f121,sub,Option.getD_some];intro m
 induction m with
 | zero=>
   intro i σ hi hσ;have h1:¬ ((i:Int) < (xs.length:Int)):=by omega
   rw[aG,hσ];simp only[go_sem,jP,h1];simp[post,St.fin,aQ,aA,show xs.drop i=[] by simp;omega,bf]
 | succ m ih=>
   intro i σ hi hσ;have h1:(i:Int) < (xs.length:Int):=by omega
   have aR:i < xs.length:=by omega
   have aw:xs[i]? = some xs[i]:=List.getElem?_eq_getElem aR;have hw:IntKind.i64.wrap ((i:Int)+1)=((i+1:Nat):Int):=a_ (by omega);have hC:=hp xs[i] (List.getElem_mem aR);have hd:xs.drop i=xs[i]::xs.drop (i+1):=List.drop_eq_getElem_cons aR;rw[aG,hσ,hd];generalize xs[i]=r at *;simp only[eI] at hC;simp only[go_sem,jP,h1,aw,sy,hc3,hC,hw,hf];cases x6:p r with
   | true=>
     simp only[go_sem,jP];simp[post,St.fin,aQ,aA,bf,x6]
   | false=>
     simp only[go_sem,jP,hw];rw[ih (i+1) _ (by omega) (by simp only[go_sem,jP])];simp[bf,x6]
theorem Xd (xs:List Int) (f:FuncId) (bh:List AV) (p:Int→Bool) (hp:(∀ r ∈ xs,rQ [(122,Ek)] f (eI r::bh)=some (.bool (p r)))∧dV bh∧eV f=false∧xs.length≤100000) (A:NP):ak (env 19 66483 D0 [(122,Ek)] [] A) (fun _=>({ tm:=[0,1,7,8],ob:=[],fin:=some ([4],[]) }:Hint)) (xs.length+1) f121 [.sl 2 gF (xs.map eI),.fn f bh]=some (J (bf p xs 0)):=by
 obtain⟨hp,hc,hf,dO⟩:=hp;have hl:=Rv xs f bh p hp hc hf dO A (xs.length+1) xs.length 0;simp only[f121,sub,Option.getD_some,List.drop_zero] at hl;simp only[ak,ai,f121];simp only[go_sem,jP,hc.1,hc.2.1];rw[hl _ (by simp) (by simp only[go_sem,jP])];rcases ji p xs 0 with h | h
 ·simp only[go_sem,jP,h]
 ·have h':¬ bf p xs 0 = -1:=by omega
  simp only[go_sem,jP,h']
noncomputable def NF:=bk (α:=(List Int) × FuncId × (List AV) × (Int→Bool)) (fun (xs,f,bh,p)=>(∀ r ∈ xs,rQ [(122,Ek)] f (eI r::bh)=some (.bool (p r)))∧dV bh∧eV f=false∧xs.length≤100000) (fun (xs,f,bh,p)=>[.sl 2 gF (xs.map eI),.fn f bh]) (fun (xs,f,bh,p)=>J (bf p xs 0))
theorem Rw (xs:List Int) (f:FuncId) (bh:List AV) (p:Int→Bool) (hp:(∀ r ∈ xs,rQ [(122,Ek)] f (eI r::bh)=some (.bool (p r)))∧dV bh∧eV f=false∧xs.length≤100000):NF [.sl 2 gF (xs.map eI),.fn f bh]=some (J (bf p xs 0)):=aJ (fun X Y hp bZ h'=>by
 obtain⟨xs,f,bh,p⟩:=X;obtain⟨BN,f',IE,p'⟩:=Y;simp only[cJ] at h';obtain⟨rfl,rfl,rfl⟩:=h';try dsimp only at hp bZ ⊢
 rw[lU fun r hr=>AV.bool.inj (Option.some.inj ((hp.1 r hr).symm.trans (bZ.1 r hr)))]) (xs,f,bh,p) hp
theorem Xe:cI 121 NF:=aE adv rfl rfl fun (xs,f,bh,p) hp=>rc adv (fun A=>Xd xs f bh p hp A) (fun _=>[]) rfl rfl rfl (by kernel_rfl) ⟨W_,trivial⟩ trivial
theorem adw:Q 145=some f145:=by kernel_rfl
theorem Rx (xs:List bp) (f:FuncId) (bh:List AV) (p:bp→Bool) (hp:∀ r ∈ xs,rQ [(127,x5)] f (dD r::bh)=some (.bool (p r))) (hc:dV bh) (hf:eV f=false) (dO:xs.length≤100000) (A:NP) (k:Nat):∀ (m i:Nat) (σ:St),i+m=xs.length→
 σ.cA ({ tm:=[0,1,7,8],ob:=[],fin:=some ([4],[]) }:Hint)=⟨[(0,.sl 80 gF (xs.map dD)),(1,.fn f bh),(7,J xs.length),(8,J i)],[]⟩→
 post ({ tm:=[0,1,7,8],ob:=[],fin:=some ([4],[]) }:Hint) (aG ty (a9 (env 19 66483 D0 [(127,x5)] [] A) (fun _=>({ tm:=[0,1,7,8],ob:=[],fin:=some ([4],[]) }:Hint)) k (sub (f145.body.getD .skip) [1,0,1,0,0])) ({ tm:=[0,1,7,8],ob:=[],fin:=some ([4],[]) }:Hint) (m+1) σ) =
 some (if bf p (xs.drop i) i = -1 then (.exit 0,⟨[],[]⟩) else (.ret,⟨[(4,J (bf p (xs.drop i) i))],[]⟩)):=by
 obtain⟨sy,fp,hc3⟩:=hc;simp only[eV] at hf;simp only[f145,sub,Option.getD_some];intro m
 induction m with
 | zero=>
   intro i σ hi hσ;have h1:¬ ((i:Int) < (xs.length:Int)):=by omega
   rw[aG,hσ];simp only[go_sem,jh,h1];simp[post,St.fin,aQ,aA,show xs.drop i=[] by simp;omega,bf]
 | succ m ih=>
   intro i σ hi hσ;have h1:(i:Int) < (xs.length:Int):=by omega
   have aR:i < xs.length:=by omega
   have aw:xs[i]? = some xs[i]:=List.getElem?_eq_getElem aR;have hw:IntKind.i64.wrap ((i:Int)+1)=((i+1:Nat):Int):=a_ (by omega);have hC:=hp xs[i] (List.getElem_mem aR);have hd:xs.drop i=xs[i]::xs.drop (i+1):=List.drop_eq_getElem_cons aR;rw[aG,hσ,hd];generalize xs[i]=r at *;simp only[dD] at hC;simp only[go_sem,jh,h1,aw,sy,hc3,hC,hw,hf];cases x6:p r with
   | true=>
     simp only[go_sem,jh];simp[post,St.fin,aQ,aA,bf,x6]
   | false=>
     simp only[go_sem,jh,hw];rw[ih (i+1) _ (by omega) (by simp only[go_sem,jh])];simp[bf,x6]
theorem Xf (xs:List bp) (f:FuncId) (bh:List AV) (p:bp→Bool) (hp:(∀ r ∈ xs,rQ [(127,x5)] f (dD r::bh)=some (.bool (p r)))∧dV bh∧eV f=false∧xs.length≤100000) (A:NP):ak (env 19 66483 D0 [(127,x5)] [] A) (fun _=>({ tm:=[0,1,7,8],ob:=[],fin:=some ([4],[]) }:Hint)) (xs.length+1) f145 [.sl 80 gF (xs.map dD),.fn f bh]=some (J (bf p xs 0)):=by
 obtain⟨hp,hc,hf,dO⟩:=hp;have hl:=Rx xs f bh p hp hc hf dO A (xs.length+1) xs.length 0;simp only[f145,sub,Option.getD_some,List.drop_zero] at hl;simp only[ak,ai,f145];simp only[go_sem,jh,hc.1,hc.2.1];rw[hl _ (by simp) (by simp only[go_sem,jh])];rcases ji p xs 0 with h | h
 ·simp only[go_sem,jh,h]
 ·have h':¬ bf p xs 0 = -1:=by omega
  simp only[go_sem,jh,h']
noncomputable def Xg:=bk (α:=(List bp) × FuncId × (List AV) × (bp→Bool)) (fun (xs,f,bh,p)=>(∀ r ∈ xs,rQ [(127,x5)] f (dD r::bh)=some (.bool (p r)))∧dV bh∧eV f=false∧xs.length≤100000) (fun (xs,f,bh,p)=>[.sl 80 gF (xs.map dD),.fn f bh]) (fun (xs,f,bh,p)=>J (bf p xs 0))
theorem Ry (xs:List bp) (f:FuncId) (bh:List AV) (p:bp→Bool) (hp:(∀ r ∈ xs,rQ [(127,x5)] f (dD r::bh)=some (.bool (p r)))∧dV bh∧eV f=false∧xs.length≤100000):Xg [.sl 80 gF (xs.map dD),.fn f bh]=some (J (bf p xs 0)):=aJ (fun X Y hp bZ h'=>by
 obtain⟨xs,f,bh,p⟩:=X;obtain⟨BN,f',IE,p'⟩:=Y;simp only[cJ] at h';obtain⟨rfl,rfl,rfl⟩:=h';try dsimp only at hp bZ ⊢
 rw[lU fun r hr=>AV.bool.inj (Option.some.inj ((hp.1 r hr).symm.trans (bZ.1 r hr)))]) (xs,f,bh,p) hp
theorem Xh:cI 145 Xg:=aE adw rfl rfl fun (xs,f,bh,p) hp=>rc adw (fun A=>Xf xs f bh p hp A) (fun _=>[]) rfl rfl rfl (by kernel_rfl) ⟨Xb,trivial⟩ trivial
theorem adx:Q 124=some f124:=by kernel_rfl
theorem Rz (xs:List Int) (v:Int) (dO:xs.length≤100000) (A:NP) (k:Nat):∀ (m i:Nat) (σ:St),i+m=xs.length→
 σ.cA ({ tm:=[0,1,7,8],ob:=[],fin:=some ([4],[]) }:Hint)=⟨[(0,.sl 2 gF (xs.map eI)),(1,J v),(7,J xs.length),(8,J i)],[]⟩→
 post ({ tm:=[0,1,7,8],ob:=[],fin:=some ([4],[]) }:Hint) (aG ty (a9 (env 19 66483 D0 [] [] A) (fun _=>({ tm:=[0,1,7,8],ob:=[],fin:=some ([4],[]) }:Hint)) k (sub (f124.body.getD .skip) [1,0,1,0,0])) ({ tm:=[0,1,7,8],ob:=[],fin:=some ([4],[]) }:Hint) (m+1) σ) =
 some (if bf (fun x=>v==x) (xs.drop i) i = -1 then (.exit 0,⟨[],[]⟩) else (.ret,⟨[(4,J (bf (fun x=>v==x) (xs.drop i) i))],[]⟩)):=by
 simp only[f124,sub,Option.getD_some];intro m
 induction m with
 | zero=>
   intro i σ hi hσ;have h1:¬ ((i:Int) < (xs.length:Int)):=by omega
   rw[aG,hσ];simp only[go_sem,h1];simp[post,St.fin,aQ,aA,show xs.drop i=[] by simp;omega,bf]
 | succ m ih=>
   intro i σ hi hσ;have h1:(i:Int) < (xs.length:Int):=by omega
   have aR:i < xs.length:=by omega
   have aw:xs[i]? = some xs[i]:=List.getElem?_eq_getElem aR;have hw:IntKind.i64.wrap ((i:Int)+1)=((i+1:Nat):Int):=a_ (by omega);have hd:xs.drop i=xs[i]::xs.drop (i+1):=List.drop_eq_getElem_cons aR;rw[aG,hσ,hd];generalize xs[i]=r at *;simp only[go_sem,h1,aw,hw];cases x6:(fun x=>v==x) r with
   | true=>
     simp only[go_sem,x6];simp[post,St.fin,aQ,aA,bf,x6]
   | false=>
     simp only[go_sem,x6,hw];rw[ih (i+1) _ (by omega) (by simp only[go_sem])];simp[bf,x6]
theorem Xi (xs:List Int) (v:Int) (hp:xs.length≤100000) (A:NP):ak (env 19 66483 D0 [] [] A) (fun _=>({ tm:=[0,1,7,8],ob:=[],fin:=some ([4],[]) }:Hint)) (xs.length+1) f124 [.sl 2 gF (xs.map eI),J v]=some (J (bf (fun x=>v==x) xs 0)):=by
 have hl:=Rz xs v hp A (xs.length+1) xs.length 0;simp only[f124,sub,Option.getD_some,List.drop_zero] at hl;simp only[ak,ai,f124];simp only[go_sem];rw[hl _ (by simp) (by simp only[go_sem])];rcases ji (fun x=>v==x) xs 0 with h | h
 ·simp only[go_sem,h]
 ·have h':¬ bf (fun x=>v==x) xs 0 = -1:=by omega
  simp only[go_sem,h']
noncomputable def NG:=bk (α:=(List Int) × Int) (fun (xs,v)=>xs.length≤100000) (fun (xs,v)=>[.sl 2 gF (xs.map eI),J v]) (fun (xs,v)=>J (bf (fun x=>v==x) xs 0))
theorem RA (xs:List Int) (v:Int) (hp:xs.length≤100000):NG [.sl 2 gF (xs.map eI),J v]=some (J (bf (fun x=>v==x) xs 0)):=aJ (fun X Y hp bZ h'=>by
 obtain⟨xs,v⟩:=X;obtain⟨BN,v'⟩:=Y;simp only[cJ] at h';obtain⟨rfl,rfl⟩:=h';rfl) (xs,v) hp
theorem Xj:cI 124 NG:=aE adx rfl rfl fun (xs,v) hp=>rc adx (fun A=>Xi xs v hp A) (fun _=>[]) rfl rfl rfl (by kernel_rfl) trivial trivial
theorem ady:Q 140=some f140:=by kernel_rfl
theorem RB (xs:List Int) (v:Int) (dO:xs.length≤100000) (A:NP) (k:Nat):∀ (m i:Nat) (σ:St),i+m=xs.length→
 σ.cA ({ tm:=[0,1,7,8],ob:=[],fin:=some ([4],[]) }:Hint)=⟨[(0,.sl 3 gF (xs.map eI)),(1,J v),(7,J xs.length),(8,J i)],[]⟩→
 post ({ tm:=[0,1,7,8],ob:=[],fin:=some ([4],[]) }:Hint) (aG ty (a9 (env 19 66483 D0 [] [] A) (fun _=>({ tm:=[0,1,7,8],ob:=[],fin:=some ([4],[]) }:Hint)) k (sub (f140.body.getD .skip) [1,0,1,0,0])) ({ tm:=[0,1,7,8],ob:=[],fin:=some ([4],[]) }:Hint) (m+1) σ) =
 some (if bf (fun x=>v==x) (xs.drop i) i = -1 then (.exit 0,⟨[],[]⟩) else (.ret,⟨[(4,J (bf (fun x=>v==x) (xs.drop i) i))],[]⟩)):=by
 simp only[f140,sub,Option.getD_some];intro m
 induction m with
 | zero=>
   intro i σ hi hσ;have h1:¬ ((i:Int) < (xs.length:Int)):=by omega
   rw[aG,hσ];simp only[go_sem,h1];simp[post,St.fin,aQ,aA,show xs.drop i=[] by simp;omega,bf]
 | succ m ih=>
   intro i σ hi hσ;have h1:(i:Int) < (xs.length:Int):=by omega
   have aR:i < xs.length:=by omega
   have aw:xs[i]? = some xs[i]:=List.getElem?_eq_getElem aR;have hw:IntKind.i64.wrap ((i:Int)+1)=((i+1:Nat):Int):=a_ (by omega);have hd:xs.drop i=xs[i]::xs.drop (i+1):=List.drop_eq_getElem_cons aR;rw[aG,hσ,hd];generalize xs[i]=r at *;simp only[go_sem,h1,aw,hw];cases x6:(fun x=>v==x) r with
   | true=>
     simp only[go_sem,x6];simp[post,St.fin,aQ,aA,bf,x6]
   | false=>
     simp only[go_sem,x6,hw];rw[ih (i+1) _ (by omega) (by simp only[go_sem])];simp[bf,x6]
theorem Xk (xs:List Int) (v:Int) (hp:xs.length≤100000) (A:NP):ak (env 19 66483 D0 [] [] A) (fun _=>({ tm:=[0,1,7,8],ob:=[],fin:=some ([4],[]) }:Hint)) (xs.length+1) f140 [.sl 3 gF (xs.map eI),J v]=some (J (bf (fun x=>v==x) xs 0)):=by
 have hl:=RB xs v hp A (xs.length+1) xs.length 0;simp only[f140,sub,Option.getD_some,List.drop_zero] at hl;simp only[ak,ai,f140];simp only[go_sem];rw[hl _ (by simp) (by simp only[go_sem])];rcases ji (fun x=>v==x) xs 0 with h | h
 ·simp only[go_sem,h]
 ·have h':¬ bf (fun x=>v==x) xs 0 = -1:=by omega
  simp only[go_sem,h']
noncomputable def Xl:=bk (α:=(List Int) × Int) (fun (xs,v)=>xs.length≤100000) (fun (xs,v)=>[.sl 3 gF (xs.map eI),J v]) (fun (xs,v)=>J (bf (fun x=>v==x) xs 0))
theorem RC (xs:List Int) (v:Int) (hp:xs.length≤100000):Xl [.sl 3 gF (xs.map eI),J v]=some (J (bf (fun x=>v==x) xs 0)):=aJ (fun X Y hp bZ h'=>by
 obtain⟨xs,v⟩:=X;obtain⟨BN,v'⟩:=Y;simp only[cJ] at h';obtain⟨rfl,rfl⟩:=h';rfl) (xs,v) hp
theorem Xm:cI 140 Xl:=aE ady rfl rfl fun (xs,v) hp=>rc ady (fun A=>Xk xs v hp A) (fun _=>[]) rfl rfl rfl (by kernel_rfl) trivial trivial
theorem adz:Q 125=some f125:=by kernel_rfl
theorem RD (xs:List ByteArray) (v:ByteArray) (dO:xs.length≤100000) (A:NP) (k:Nat):∀ (m i:Nat) (σ:St),i+m=xs.length→
 σ.cA ({ tm:=[0,1,7,8],ob:=[],fin:=some ([4],[]) }:Hint)=⟨[(0,.sl 9 gF (xs.map eS)),(1,.str v),(7,J xs.length),(8,J i)],[]⟩→
 post ({ tm:=[0,1,7,8],ob:=[],fin:=some ([4],[]) }:Hint) (aG ty (a9 (env 19 66483 D0 [] [] A) (fun _=>({ tm:=[0,1,7,8],ob:=[],fin:=some ([4],[]) }:Hint)) k (sub (f125.body.getD .skip) [1,0,1,0,0])) ({ tm:=[0,1,7,8],ob:=[],fin:=some ([4],[]) }:Hint) (m+1) σ) =
 some (if bf (fun x=>v.toList==x.toList) (xs.drop i) i = -1 then (.exit 0,⟨[],[]⟩) else (.ret,⟨[(4,J (bf (fun x=>v.toList==x.toList) (xs.drop i) i))],[]⟩)):=by
 simp only[f125,sub,Option.getD_some];intro m
 induction m with
 | zero=>
   intro i σ hi hσ;have h1:¬ ((i:Int) < (xs.length:Int)):=by omega
   rw[aG,hσ];simp only[go_sem,h1];simp[post,St.fin,aQ,aA,show xs.drop i=[] by simp;omega,bf]
 | succ m ih=>
   intro i σ hi hσ;have h1:(i:Int) < (xs.length:Int):=by omega
   have aR:i < xs.length:=by omega
   have aw:xs[i]? = some xs[i]:=List.getElem?_eq_getElem aR;have hw:IntKind.i64.wrap ((i:Int)+1)=((i+1:Nat):Int):=a_ (by omega);have hd:xs.drop i=xs[i]::xs.drop (i+1):=List.drop_eq_getElem_cons aR;rw[aG,hσ,hd];generalize xs[i]=r at *;simp only[go_sem,h1,aw,hw];cases x6:(fun x=>v.toList==x.toList) r with
   | true=>
     simp only[go_sem,x6];simp[post,St.fin,aQ,aA,bf,x6]
   | false=>
     simp only[go_sem,x6,hw];rw[ih (i+1) _ (by omega) (by simp only[go_sem])];simp[bf,x6]
theorem Xn (xs:List ByteArray) (v:ByteArray) (hp:xs.length≤100000) (A:NP):ak (env 19 66483 D0 [] [] A) (fun _=>({ tm:=[0,1,7,8],ob:=[],fin:=some ([4],[]) }:Hint)) (xs.length+1) f125 [.sl 9 gF (xs.map eS),.str v]=some (J (bf (fun x=>v.toList==x.toList) xs 0)):=by
 have hl:=RD xs v hp A (xs.length+1) xs.length 0;simp only[f125,sub,Option.getD_some,List.drop_zero] at hl;simp only[ak,ai,f125];simp only[go_sem];rw[hl _ (by simp) (by simp only[go_sem])];rcases ji (fun x=>v.toList==x.toList) xs 0 with h | h
 ·simp only[go_sem,h]
 ·have h':¬ bf (fun x=>v.toList==x.toList) xs 0 = -1:=by omega
  simp only[go_sem,h']
noncomputable def NH:=bk (α:=(List ByteArray) × ByteArray) (fun (xs,v)=>xs.length≤100000) (fun (xs,v)=>[.sl 9 gF (xs.map eS),.str v]) (fun (xs,v)=>J (bf (fun x=>v.toList==x.toList) xs 0))
theorem RE (xs:List ByteArray) (v:ByteArray) (hp:xs.length≤100000):NH [.sl 9 gF (xs.map eS),.str v]=some (J (bf (fun x=>v.toList==x.toList) xs 0)):=aJ (fun X Y hp bZ h'=>by
 obtain⟨xs,v⟩:=X;obtain⟨BN,v'⟩:=Y;simp only[cJ] at h';obtain⟨rfl,rfl⟩:=h';rfl) (xs,v) hp
theorem Xo:cI 125 NH:=aE adz rfl rfl fun (xs,v) hp=>rc adz (fun A=>Xn xs v hp A) (fun _=>[]) rfl rfl rfl (by kernel_rfl) trivial trivial
theorem h52:Q 52=some f52:=by kernel_rfl
theorem adA (n lo hi:Int) (A:NP):ak (env 15 71 D0 [] [] A) hN (5) f52 [J n,J lo,J hi]=some (.bool (decide (lo≤n)&&decide (n≤hi))):=by
 simp only[ak,ai,f52];simp only[go_sem];repeat' (split <;> simp only[go_sem, *])
 all_goals simp_all
noncomputable def NI:=bk (α:=Int × Int × Int) (fun _=>True) (fun (n,lo,hi)=>[J n,J lo,J hi]) (fun (n,lo,hi)=> .bool (decide (lo≤n)&&decide (n≤hi)))
theorem kj (n lo hi:Int):NI [J n,J lo,J hi]=some (.bool (decide (lo≤n)&&decide (n≤hi))):=aJ (fun X Y hp bZ h'=>by
 obtain⟨n,lo,hi⟩:=X;obtain⟨n',Qb,zp⟩:=Y;simp only[cJ] at h';obtain⟨rfl,rfl,rfl⟩:=h';rfl) (n,lo,hi) trivial
theorem Em:cI 52 NI:=aE h52 rfl rfl fun (n,lo,hi) _=>rc h52 (fun A=>adA n lo hi A) (fun _=>[]) rfl rfl rfl (by kernel_rfl) trivial trivial
theorem adB:Q 108=some f108:=by kernel_rfl
theorem Xp (n lo hi:Int) (A:NP):ak (env 15 71 D0 [] [] A) hN (5) f108 [J n,J lo,J hi]=some (.bool (decide (lo≤n)&&decide (n≤hi))):=by
 simp only[ak,ai,f108];simp only[go_sem];repeat' (split <;> simp only[go_sem, *])
 all_goals simp_all
noncomputable def Xq:=bk (α:=Int × Int × Int) (fun _=>True) (fun (n,lo,hi)=>[J n,J lo,J hi]) (fun (n,lo,hi)=> .bool (decide (lo≤n)&&decide (n≤hi)))
theorem fR (n lo hi:Int):Xq [J n,J lo,J hi]=some (.bool (decide (lo≤n)&&decide (n≤hi))):=aJ (fun X Y hp bZ h'=>by
 obtain⟨n,lo,hi⟩:=X;obtain⟨n',Qb,zp⟩:=Y;simp only[cJ] at h';obtain⟨rfl,rfl,rfl⟩:=h';rfl) (n,lo,hi) trivial
theorem Xr:cI 108 Xq:=aE adB rfl rfl fun (n,lo,hi) _=>rc adB (fun A=>Xp n lo hi A) (fun _=>[]) rfl rfl rfl (by kernel_rfl) trivial trivial
def dz (s r:Int):Bool:=bV .and .u8 (su .u8 s r) 1==1
def lA (s r:Int):Int:=bV .or .u8 s (yL .u8 1 r)
def fE (s r:Int):Int:=bV .andNot .u8 s (yL .u8 1 r)
theorem h48:Q 48=some f48:=by kernel_rfl
theorem adC (s q:Int) (hp:0≤q) (A:NP):ak (env 10 19 D0 [] [] A) hN (5) f48 [.int .u8 s,J q]=some (.bool (dz s q)):=by
 have h0:¬ (q < 0):=by omega
 simp only[ak,ai,f48];simp only[go_sem,h0];rfl
noncomputable def c48:=bk (α:=Int × Int) (fun (s,q)=>0≤q) (fun (s,q)=>[.int .u8 s,J q]) (fun (s,q)=> .bool (dz s q))
theorem Xs (s q:Int) (hp:0≤q):c48 [.int .u8 s,J q]=some (.bool (dz s q)):=aJ (fun X Y hp bZ h'=>by
 obtain⟨s,q⟩:=X;obtain⟨s',q'⟩:=Y;simp only[cJ] at h';obtain⟨rfl,rfl⟩:=h';rfl) (s,q) hp
theorem adD:cI 48 c48:=aE h48 rfl rfl fun (s,q) hp=>rc h48 (fun A=>adC s q hp A) (fun _=>[]) rfl rfl rfl (by kernel_rfl) trivial trivial
theorem h61:Q 61=some f61:=by kernel_rfl
theorem adE (s q:Int) (hp:0≤q) (A:NP):ak (env 9 19 D0 [] [] A) hN (5) f61 [.int .u8 s,J q]=some (.int .u8 (lA s q)):=by
 have h0:¬ (q < 0):=by omega
 simp only[ak,ai,f61];simp only[go_sem,h0];rfl
noncomputable def RF:=bk (α:=Int × Int) (fun (s,q)=>0≤q) (fun (s,q)=>[.int .u8 s,J q]) (fun (s,q)=> .int .u8 (lA s q))
theorem Xt (s q:Int) (hp:0≤q):RF [.int .u8 s,J q]=some (.int .u8 (lA s q)):=aJ (fun X Y hp bZ h'=>by
 obtain⟨s,q⟩:=X;obtain⟨s',q'⟩:=Y;simp only[cJ] at h';obtain⟨rfl,rfl⟩:=h';rfl) (s,q) hp
theorem adF:cI 61 RF:=aE h61 rfl rfl fun (s,q) hp=>rc h61 (fun A=>adE s q hp A) (fun _=>[]) rfl rfl rfl (by kernel_rfl) trivial trivial
theorem h59:Q 59=some f59:=by kernel_rfl
theorem adG (s q:Int) (hp:0≤q) (A:NP):ak (env 9 19 D0 [] [] A) hN (5) f59 [.int .u8 s,J q]=some (.int .u8 (fE s q)):=by
 have h0:¬ (q < 0):=by omega
 simp only[ak,ai,f59];simp only[go_sem,h0];rfl
noncomputable def RG:=bk (α:=Int × Int) (fun (s,q)=>0≤q) (fun (s,q)=>[.int .u8 s,J q]) (fun (s,q)=> .int .u8 (fE s q))
theorem Xu (s q:Int) (hp:0≤q):RG [.int .u8 s,J q]=some (.int .u8 (fE s q)):=aJ (fun X Y hp bZ h'=>by
 obtain⟨s,q⟩:=X;obtain⟨s',q'⟩:=Y;simp only[cJ] at h';obtain⟨rfl,rfl⟩:=h';rfl) (s,q) hp
theorem adH:cI 59 RG:=aE h59 rfl rfl fun (s,q) hp=>rc h59 (fun A=>adG s q hp A) (fun _=>[]) rfl rfl rfl (by kernel_rfl) trivial trivial
def a7 (op:Int):Ej:=if op < 0∨41≤op then ⟨⟨#[]⟩,false,false,false,false⟩ else sQ.getD op.toNat ⟨⟨#[]⟩,false,false,false,false⟩
theorem h82:Q 82=some f82:=by kernel_rfl
theorem adI (op:Int) (A:NP):ak (env 13 261 D0 [] [] A) hN (5) f82 [J op]=some (.st 142 [.str (a7 op).name,.bool (a7 op).d,.bool (a7 op).a,.bool (a7 op).b,.bool (a7 op).n]):=by
 by_cases h1:op < 0
 ·simp only[ak,ai,f82];simp only[go_sem,h1];simp[a7,h1]
 ·by_cases h2:41≤op
  ·simp only[ak,ai,f82];simp only[go_sem,h1,h2];simp[a7,h2]
  ·have aR:op.toNat < sQ.length:=by show op.toNat < 41;omega
   have aw:sQ[op.toNat]? = some (a7 op):=by
    rw[List.getElem?_eq_getElem aR];simp[a7,h1,h2,List.getD,List.getElem?_eq_getElem aR]
   have h0:0≤op:=by omega
   generalize a7 op=q at *;simp only[ak,ai,f82];simp only[go_sem,h1,h2,h0,p8,aw,Nw]
noncomputable def Xv:=bk (α:=Int) (fun _=>True) (fun op=>[J op]) (fun op=> .st 142 [.str (a7 op).name,.bool (a7 op).d,.bool (a7 op).a,.bool (a7 op).b,.bool (a7 op).n])
theorem fF (op:Int):Xv [J op]=some (.st 142 [.str (a7 op).name,.bool (a7 op).d,.bool (a7 op).a,.bool (a7 op).b,.bool (a7 op).n]):=aJ (fun op op' hp bZ h'=>by
 simp only[cJ] at h';obtain rfl:=h';rfl) (op) trivial
theorem En:cI 82 Xv:=aE h82 rfl rfl fun op _=>rc h82 (fun A=>adI op A) (fun _=>[]) rfl rfl rfl (by kernel_rfl) trivial trivial
theorem h58:Q 58=some f58:=by kernel_rfl
theorem adJ (o d a b n:Int) (A:NP):ak (env 11 271 D0 [(82,Xv)] [] A) hN (5) f58 [.st 80 [J o,J d,J a,J b,J n]]=some (.cE [J (if (a7 o).d=true then d else 0),.bool (a7 o).d]):=by
 simp only[ak,ai,f58];simp only[go_sem,fF];cases h:(a7 o).d <;> simp only[go_sem,fF,h]
noncomputable def NJ:=bk (α:=Int × Int × Int × Int × Int) (fun _=>True) (fun (o,d,a,b,n)=>[.st 80 [J o,J d,J a,J b,J n]]) (fun (o,d,a,b,n)=> .cE [J (if (a7 o).d=true then d else 0),.bool (a7 o).d])
theorem F_ (o d a b n:Int):NJ [.st 80 [J o,J d,J a,J b,J n]]=some (.cE [J (if (a7 o).d=true then d else 0),.bool (a7 o).d]):=aJ (fun X Y hp bZ h'=>by
 obtain⟨o,d,a,b,n⟩:=X;obtain⟨o',d',a',b',n'⟩:=Y;simp only[cJ] at h';obtain⟨rfl,rfl,rfl,rfl,rfl⟩:=h';rfl) (o,d,a,b,n) trivial
theorem Um:cI 58 NJ:=aE h58 rfl rfl fun (o,d,a,b,n) _=>rc h58 (fun A=>adJ o d a b n A) (fun _=>[]) rfl rfl rfl (by kernel_rfl) ⟨En,trivial⟩ trivial
def dW (o a b:Int):List Int:=(if (a7 o).a=true then [a] else [])++(if ((a7 o).b&& !(b==a))=true then [b] else [])
theorem h60:Q 60=some f60:=by kernel_rfl
theorem adK (o d a b n:Int) :∃ r,wk r (.sl 3 gT ((dW o a b).map eI))∧∀ A,ak (env 30 8389151 D0 [(82,Xv)] [] A) hN (5) f60 [.st 80 [J o,J d,J a,J b,J n]]=some r:=by
 cases h1:(a7 o).a <;> cases h2:(a7 o).b <;> cases h3:(b==a)
 all_goals
  apply bu
  ·intro A;simp only[ak,ai,f60];simp only[go_sem,fF,h1,h2,h3,Nat.reduceLeDiff,Nat.zero_add];try rfl
  ·simp[WK,dW,h1,h2,h3,eI]
noncomputable def Qg:=bk (α:=Int × Int × Int × Int × Int) (fun _=>True) (fun (o,d,a,b,n)=>[.st 80 [J o,J d,J a,J b,J n]]) (fun (o,d,a,b,n)=> .sl 3 gT ((dW o a b).map eI))
theorem NK (o d a b n:Int):Qg [.st 80 [J o,J d,J a,J b,J n]]=some (.sl 3 gT ((dW o a b).map eI)):=aJ (fun X Y hp bZ h'=>by
 obtain⟨o,d,a,b,n⟩:=X;obtain⟨o',d',a',b',n'⟩:=Y;simp only[cJ] at h';obtain⟨rfl,rfl,rfl,rfl,rfl⟩:=h';rfl) (o,d,a,b,n) trivial
theorem Un:cI 60 Qg:=aE h60 rfl rfl fun (o,d,a,b,n) _=>let ⟨_,hw,hr⟩:=adK o d a b n;(rc h60 hr (fun _=>[]) rfl rfl rfl (by kernel_rfl) ⟨En,trivial⟩ trivial).eK hw
def gl (o:Int):Bool:=if o=7 then false else if o=8 then false else if o=9 then false else if o=10 then false else if o=26 then false else if o=27 then false else if o=37 then false else if o=39 then false else (a7 o).d
theorem adL:Q 117=some f117:=by kernel_rfl
theorem Xw (o d a b n:Int) (A:NP):ak (env 18 55 D0 [(82,Xv)] [] A) hN (5) f117 [.st 80 [J o,J d,J a,J b,J n]]=some (.bool (gl o)):=by
 simp only[ak,ai,f117];simp only[go_sem,fF,Le,CO,Fg];simp only[gl,WV];by_cases h7:o=7
 ·simp[h7]
 by_cases h8:o=8
 ·simp[h8]
 by_cases h9:o=9
 ·simp[h9]
 by_cases dR:o=10
 ·simp[dR]
 by_cases fi:o=26
 ·simp[fi]
 by_cases e_:o=27
 ·simp[e_]
 by_cases K1:o=37
 ·simp[K1]
 by_cases vl:o=39
 ·simp[vl]
 simp[h7,h8,h9,dR,fi,e_,K1,vl]
noncomputable def Xx:=bk (α:=Int × Int × Int × Int × Int) (fun _=>True) (fun (o,d,a,b,n)=>[.st 80 [J o,J d,J a,J b,J n]]) (fun (o,d,a,b,n)=> .bool (gl o))
theorem RH (o d a b n:Int):Xx [.st 80 [J o,J d,J a,J b,J n]]=some (.bool (gl o)):=aJ (fun X Y hp bZ h'=>by
 obtain⟨o,d,a,b,n⟩:=X;obtain⟨o',d',a',b',n'⟩:=Y;simp only[cJ] at h';obtain⟨rfl,rfl,rfl,rfl,rfl⟩:=h';rfl) (o,d,a,b,n) trivial
theorem Xy:cI 117 Xx:=aE adL rfl rfl fun (o,d,a,b,n) _=>rc adL (fun A=>Xw o d a b n A) (fun _=>[]) rfl rfl rfl (by kernel_rfl) ⟨En,trivial⟩ trivial
theorem h83:Q 83=some f83:=by kernel_rfl
theorem adM (has:Bool) (n:Int) (A:NP):ak (env 18 19 D0 [(52,NI)] [] A) hN (5) f83 [.bool has,J n]=some (.bool ((has&&(decide (0≤n)&&decide (n≤7))) || (!has&&n==0))):=by
 cases has;all_goals
  simp only[ak,ai,f83];simp only[go_sem,kj];try (first|rfl | (split <;> simp only[go_sem,kj, *] <;> simp_all))
noncomputable def c83:=bk (α:=Bool × Int) (fun _=>True) (fun (has,n)=>[.bool has,J n]) (fun (has,n)=> .bool ((has&&(decide (0≤n)&&decide (n≤7))) || (!has&&n==0)))
theorem Ga (has:Bool) (n:Int):c83 [.bool has,J n]=some (.bool ((has&&(decide (0≤n)&&decide (n≤7))) || (!has&&n==0))):=aJ (fun X Y hp bZ h'=>by
 obtain⟨has,n⟩:=X;obtain⟨akj,n'⟩:=Y;simp only[cJ] at h';obtain⟨rfl,rfl⟩:=h';rfl) (has,n) trivial
theorem adN:cI 83 c83:=aE h83 rfl rfl fun (has,n) _=>rc h83 (fun A=>adM has n A) (fun _=>[]) rfl rfl rfl (by kernel_rfl) ⟨Em,trivial⟩ trivial
theorem any_congr {α:Type} {p q:α→Bool}:∀ {l:List α},(∀ x ∈ l,p x=q x)→l.any p=l.any q
 | [],_=>rfl
 | x::r,h=>by simp only[List.any_cons,h x (by simp)];rw[any_congr fun y hy=>h y (by simp[hy])]
theorem oJ {α:Type} (p:α→Bool):∀ (l:List α) (i:Nat),(decide (0≤bf p l i))=l.any p
 | [],_=>rfl
 | x::r,i=>by
   simp only[bf,List.any_cons];split
   ·rename_i h;simp[h]
   ·rename_i h;rw[oJ p r (i+1)];simp[h]
theorem JU:Q 110=some f110:=by kernel_rfl
theorem Xz (xs:List aP) (f:FuncId) (bh:List AV) (p:aP→Bool) (hp:(∀ r ∈ xs,rQ [(111,xY),(144,xZ),(143,oW)] f (b_ r::bh)=some (.bool (p r)))∧dV bh∧eV f=false∧xs.length≤100000) (A:NP):ak (env 9 19 D0 [(136,El)] [] A) hN (5) f110 [.sl 90 gF (xs.map b_),.fn f bh]=some (.bool (xs.any p)):=by
 have hc:=hp.2.1;have hI:=ID xs f bh p hp;have hm:(decide (0≤bf p xs 0))=xs.any p:=oJ p xs 0;simp only[ak,ai,f110];simp only[go_sem,hc.1,hc.2.1,hc.2.2,hI,hm]
noncomputable def RI:=bk (α:=(List aP) × FuncId × (List AV) × (aP→Bool)) (fun (xs,f,bh,p)=>(∀ r ∈ xs,rQ [(111,xY),(144,xZ),(143,oW)] f (b_ r::bh)=some (.bool (p r)))∧dV bh∧eV f=false∧xs.length≤100000) (fun (xs,f,bh,p)=>[.sl 90 gF (xs.map b_),.fn f bh]) (fun (xs,f,bh,p)=> .bool (xs.any p))
theorem IF (xs:List aP) (f:FuncId) (bh:List AV) (p:aP→Bool) (hp:(∀ r ∈ xs,rQ [(111,xY),(144,xZ),(143,oW)] f (b_ r::bh)=some (.bool (p r)))∧dV bh∧eV f=false∧xs.length≤100000):RI [.sl 90 gF (xs.map b_),.fn f bh]=some (.bool (xs.any p)):=aJ (fun X Y hp bZ h'=>by
 obtain⟨xs,f,bh,p⟩:=X;obtain⟨BN,f',IE,p'⟩:=Y;simp only[cJ] at h';obtain⟨rfl,rfl,rfl⟩:=h';try dsimp only at hp bZ ⊢
 rw[any_congr fun r hr=>AV.bool.inj (Option.some.inj ((hp.1 r hr).symm.trans (bZ.1 r hr)))]) (xs,f,bh,p) hp
theorem NL:cI 110 RI:=aE JU rfl rfl fun (xs,f,bh,p) hp=>rc JU (fun A=>Xz xs f bh p hp A) (fun _=>[]) rfl rfl rfl (by kernel_rfl) ⟨F9,trivial⟩ trivial
theorem adO:Q 126=some f126:=by kernel_rfl
theorem XB (xs:List bp) (f:FuncId) (bh:List AV) (p:bp→Bool) (hp:(∀ r ∈ xs,rQ [(127,x5)] f (dD r::bh)=some (.bool (p r)))∧dV bh∧eV f=false∧xs.length≤100000) (A:NP):ak (env 9 19 D0 [(145,Xg)] [] A) hN (5) f126 [.sl 80 gF (xs.map dD),.fn f bh]=some (.bool (xs.any p)):=by
 have hc:=hp.2.1;have hI:=Ry xs f bh p hp;have hm:(decide (0≤bf p xs 0))=xs.any p:=oJ p xs 0;simp only[ak,ai,f126];simp only[go_sem,hc.1,hc.2.1,hc.2.2,hI,hm]
noncomputable def NM:=bk (α:=(List bp) × FuncId × (List AV) × (bp→Bool)) (fun (xs,f,bh,p)=>(∀ r ∈ xs,rQ [(127,x5)] f (dD r::bh)=some (.bool (p r)))∧dV bh∧eV f=false∧xs.length≤100000) (fun (xs,f,bh,p)=>[.sl 80 gF (xs.map dD),.fn f bh]) (fun (xs,f,bh,p)=> .bool (xs.any p))
theorem IG (xs:List bp) (f:FuncId) (bh:List AV) (p:bp→Bool) (hp:(∀ r ∈ xs,rQ [(127,x5)] f (dD r::bh)=some (.bool (p r)))∧dV bh∧eV f=false∧xs.length≤100000):NM [.sl 80 gF (xs.map dD),.fn f bh]=some (.bool (xs.any p)):=aJ (fun X Y hp bZ h'=>by
 obtain⟨xs,f,bh,p⟩:=X;obtain⟨BN,f',IE,p'⟩:=Y;simp only[cJ] at h';obtain⟨rfl,rfl,rfl⟩:=h';try dsimp only at hp bZ ⊢
 rw[any_congr fun r hr=>AV.bool.inj (Option.some.inj ((hp.1 r hr).symm.trans (bZ.1 r hr)))]) (xs,f,bh,p) hp
theorem XC:cI 126 NM:=aE adO rfl rfl fun (xs,f,bh,p) hp=>rc adO (fun A=>XB xs f bh p hp A) (fun _=>[]) rfl rfl rfl (by kernel_rfl) ⟨Xh,trivial⟩ trivial
theorem h86:Q 86=some f86:=by kernel_rfl
theorem adP (q:Int) (hp:U.length≤100000) (A:NP):ak (env 9 31 D0 [(110,RI)] [] A) hN (5) f86 [(cd N V I U),J q]=some (.bool (U.any fun r=>r.at_==q)):=by
 have hc:dV [.ro false 3 (J q)]:=⟨rfl,rfl,fun k ob hk=>by obtain⟨j,rfl⟩:∃ j,k=j+2:=⟨k - 2,by omega⟩;rfl⟩
 have JU:=IF U 111 [.ro false 3 (J q)] (fun r=>r.at_==q) ⟨fun r _=>jN r.kind r.at_ q r.str r.mem,hc,rfl,hp⟩;simp only[ak,ai,f86];simp only[go_sem,JU]
noncomputable def c86:=bk (α:=(List bp) × (List Int) × (List ByteArray) × (List aP) × Int) (fun (N,V,I,U,q)=>U.length≤100000) (fun (N,V,I,U,q)=>[(cd N V I U),J q]) (fun (N,V,I,U,q)=> .bool (U.any fun r=>r.at_==q))
theorem Gb (q:Int) (hp:U.length≤100000):c86 [(cd N V I U),J q]=some (.bool (U.any fun r=>r.at_==q)):=aJ (fun X Y hp bZ h'=>by
 obtain⟨N,V,I,U,q⟩:=X;obtain⟨c7,bJ,bL,bK,q'⟩:=Y;simp only[cJ] at h';obtain⟨rfl,rfl,rfl,rfl,rfl⟩:=h';rfl) (N,V,I,U,q) hp
theorem Uo:cI 86 c86:=aE h86 rfl rfl fun (N,V,I,U,q) hp=>rc h86 (fun A=>adP N V I U q hp A) (fun _=>[]) rfl rfl rfl (by kernel_rfl) ⟨NL,trivial⟩ trivial
theorem adR:Q 123=some f123:=by kernel_rfl
theorem XD (i:Int) (hp:U.length≤100000∧∀ r ∈ U,0≤r.at_∧r.at_.toNat < N.length) (A:NP):ak (env 9 31 D0 [(110,RI)] [] A) hN (5) f123 [(cd N V I U),J i]=some (.bool (U.any (fixF N i))):=by
 have hc:dV [.ro false 27 ((cd N V I U)),.ro false 3 (J i)]:=⟨rfl,rfl,fun k ob hk=>by obtain⟨j,rfl⟩:∃ j,k=j+3:=⟨k - 3,by omega⟩;rfl⟩
 have JU:=IF U 144 [.ro false 27 ((cd N V I U)),.ro false 3 (J i)] (fixF N i) ⟨fun r hr=>jO r.kind r.at_ r.str r.mem N V I U i (hp.2 r hr),hc,rfl,hp.1⟩;simp only[ak,ai,f123];simp only[go_sem,JU]
noncomputable def Gc:=bk (α:=(List bp) × (List Int) × (List ByteArray) × (List aP) × Int) (fun (N,V,I,U,i)=>U.length≤100000∧∀ r ∈ U,0≤r.at_∧r.at_.toNat < N.length) (fun (N,V,I,U,i)=>[(cd N V I U),J i]) (fun (N,V,I,U,i)=> .bool (U.any (fixF N i)))
theorem BO (i:Int) (hp:U.length≤100000∧∀ r ∈ U,0≤r.at_∧r.at_.toNat < N.length):Gc [(cd N V I U),J i]=some (.bool (U.any (fixF N i))):=aJ (fun X Y hp bZ h'=>by
 obtain⟨N,V,I,U,i⟩:=X;obtain⟨c7,bJ,bL,bK,i'⟩:=Y;simp only[cJ] at h';obtain⟨rfl,rfl,rfl,rfl,rfl⟩:=h';rfl) (N,V,I,U,i) hp
theorem NN:cI 123 Gc:=aE adR rfl rfl fun (N,V,I,U,i) hp=>rc adR (fun A=>XD N V I U i hp A) (fun _=>[]) rfl rfl rfl (by kernel_rfl) ⟨NL,trivial⟩ trivial
theorem adS:Q 116=some f116:=by kernel_rfl
theorem XE (xs:List Int) (v:Int) (hp:xs.length≤100000) (A:NP):ak (env 9 19 D0 [(140,Xl)] [] A) hN (5) f116 [.sl 3 gF (xs.map eI),J v]=some (.bool (xs.any fun x=>v==x)):=by
 have hI:=RC xs v hp;have hm:(decide (0≤bf (fun x=>v==x) xs 0))=xs.any fun x=>v==x:=oJ _ xs 0
 simp only[ak,ai,f116];simp only[go_sem,hI,hm]
noncomputable def RJ:=bk (α:=(List Int) × Int) (fun (xs,v)=>xs.length≤100000) (fun (xs,v)=>[.sl 3 gF (xs.map eI),J v]) (fun (xs,v)=> .bool (xs.any fun x=>v==x))
theorem BP (xs:List Int) (v:Int) (hp:xs.length≤100000):RJ [.sl 3 gF (xs.map eI),J v]=some (.bool (xs.any fun x=>v==x)):=aJ (fun X Y hp bZ h'=>by
 obtain⟨xs,v⟩:=X;obtain⟨BN,v'⟩:=Y;simp only[cJ] at h';obtain⟨rfl,rfl⟩:=h';rfl) (xs,v) hp
theorem NO:cI 116 RJ:=aE adS rfl rfl fun (xs,v) hp=>rc adS (fun A=>XE xs v hp A) (fun _=>[]) rfl rfl rfl (by kernel_rfl) ⟨Xm,trivial⟩ trivial
theorem adT:Q 113=some f113:=by kernel_rfl
theorem XF (xs:List Int) (v:Int) (hp:xs.length≤100000) (A:NP):ak (env 8 19 D0 [(116,RJ)] [] A) hN (5) f113 [J v,.sl 3 gF (xs.map eI)]=some (.bool (xs.any fun x=>v==x)):=by
 have hI:=BP xs v hp;simp only[ak,ai,f113];simp only[go_sem,hI]
noncomputable def JV:=bk (α:=(List Int) × Int) (fun (xs,v)=>xs.length≤100000) (fun (xs,v)=>[J v,.sl 3 gF (xs.map eI)]) (fun (xs,v)=> .bool (xs.any fun x=>v==x))
theorem vD (xs:List Int) (v:Int) (hp:xs.length≤100000):JV [J v,.sl 3 gF (xs.map eI)]=some (.bool (xs.any fun x=>v==x)):=aJ (fun X Y hp bZ h'=>by
 obtain⟨xs,v⟩:=X;obtain⟨BN,v'⟩:=Y;simp only[cJ] at h';obtain⟨rfl,rfl⟩:=h';rfl) (xs,v) hp
theorem BQ:cI 113 JV:=aE adT rfl rfl fun (xs,v) hp=>rc adT (fun A=>XF xs v hp A) (fun _=>[]) rfl rfl rfl (by kernel_rfl) ⟨NO,trivial⟩ trivial
def cP (ao:List (List aB)) (a r:Int):aB:=(ao.getD a.toNat []).getD r.toNat ⟨0,0⟩
theorem h47:Q 47=some f47:=by kernel_rfl
theorem adU (at_ q:Int) (hp:at_.toNat < ao.length∧0≤at_∧0≤q∧q.toNat < (ao.getD at_.toNat []).length) (A:NP):ak (env 23 455 D0 [] [] A) hN (5) f47 [(wv N V I U ao aj au),J at_,J q]=some (.cE [J (cP ao at_ q).n,.bool ((cP ao at_ q).sort==1)]):=by
 obtain⟨h1,h2,h3,h4⟩:=hp;have RK:=aD (d:=([]:List aB)) h1;have hg2:=aD (d:=(⟨0,0⟩:aB)) h4;simp only[cP];generalize (ao.getD at_.toNat []).getD q.toNat ⟨0,0⟩=g at *;generalize ao.getD at_.toNat []=gs at *;simp only[ak,ai,f47];simp only[go_sem,h2,h3,RK,hg2,aF,aW]
noncomputable def c47:=bk (α:=(List bp) × (List Int) × (List ByteArray) × (List aP) × (List (List aB)) × (List Bool) × (List Int) × Int × Int) (fun (N,V,I,U,ao,aj,au,at_,q)=>at_.toNat < ao.length∧0≤at_∧0≤q∧q.toNat < (ao.getD at_.toNat []).length) (fun (N,V,I,U,ao,aj,au,at_,q)=>[(wv N V I U ao aj au),J at_,J q]) (fun (N,V,I,U,ao,aj,au,at_,q)=> .cE [J (cP ao at_ q).n,.bool ((cP ao at_ q).sort==1)])
theorem BR (at_ q:Int) (hp:at_.toNat < ao.length∧0≤at_∧0≤q∧q.toNat < (ao.getD at_.toNat []).length):c47 [(wv N V I U ao aj au),J at_,J q]=some (.cE [J (cP ao at_ q).n,.bool ((cP ao at_ q).sort==1)]):=aJ (fun X Y hp bZ h'=>by
 obtain⟨N,V,I,U,ao,aj,au,at_,q⟩:=X;obtain⟨c7,bJ,bL,bK,gm,eW,jj,akk,q'⟩:=Y;simp only[cJ] at h';obtain⟨rfl,rfl,rfl,rfl,rfl,rfl,rfl,rfl,rfl⟩:=h';rfl) (N,V,I,U,ao,aj,au,at_,q) hp
theorem Up:cI 47 c47:=aE h47 rfl rfl fun (N,V,I,U,ao,aj,au,at_,q) hp=>rc h47 (fun A=>adU N V I U ao aj au at_ q hp A) (fun i=>match i with | 2=>[0,1,0,4,12,3,63] | _=>[]) rfl rfl rfl (by kernel_rfl) trivial trivial
theorem so:Q 63=some f63:=by kernel_rfl
theorem adV (q:Int) (hp:V.length≤100000∧I.length≤100000) (A:NP):ak (env 26 83 D0 [] [] A) hN (5) f63 [(wv N V I U ao aj au),J q]=some (J (if q=8 then (V.length+I.length:Int) else N.length)):=by
 have hw:IntKind.i64.wrap ((V.length:Int)+(I.length:Int))=(V.length+I.length:Int):=wrap_i64 (by omega) (by omega);by_cases h:q=8
 ·simp only[ak,ai,f63];simp only[go_sem,h,hw]
 ·have h':(q==8)=false:=by simpa using h
  simp only[ak,ai,f63];simp only[go_sem,h,h']
noncomputable def BS:=bk (α:=(List bp) × (List Int) × (List ByteArray) × (List aP) × (List (List aB)) × (List Bool) × (List Int) × Int) (fun (N,V,I,U,ao,aj,au,q)=>V.length≤100000∧I.length≤100000) (fun (N,V,I,U,ao,aj,au,q)=>[(wv N V I U ao aj au),J q]) (fun (N,V,I,U,ao,aj,au,q)=>J (if q=8 then (V.length+I.length:Int) else N.length))
theorem as9 (q:Int) (hp:V.length≤100000∧I.length≤100000):BS [(wv N V I U ao aj au),J q]=some (J (if q=8 then (V.length+I.length:Int) else N.length)):=aJ (fun X Y hp bZ h'=>by
 obtain⟨N,V,I,U,ao,aj,au,q⟩:=X;obtain⟨c7,bJ,bL,bK,gm,eW,jj,q'⟩:=Y;simp only[cJ] at h';obtain⟨rfl,rfl,rfl,rfl,rfl,rfl,rfl,rfl⟩:=h';rfl) (N,V,I,U,ao,aj,au,q) hp
theorem Uq:cI 63 BS:=aE so rfl rfl fun (N,V,I,U,ao,aj,au,q) hp=>rc so (fun A=>adV N V I U ao aj au q hp A) (fun i=>match i with | 2=>[0,1,3,7,15,31,0,64,192,448,960,1984,4095,8191] | _=>[]) rfl rfl rfl (by kernel_rfl) trivial trivial
theorem h76:Q 76=some f76:=by kernel_rfl
theorem adW (lo:Option Nat) (A L:NP):ai (ej 8 21 D0 [] [] lo A L) (fun _=>{ tm:=[],ob:=[] }) 5 f76 [.sl 80 ⟨false,some true,false⟩ []] []=some (.sl 0 gN [],[]):=by
 simp only[ak,ai,f76];simp only[go_sem,fW]
theorem adX (xs:List bp) (hp:xs.length≤100000) (lo:Option Nat) (A L:NP):ai (ej 8 21 D0 [] [] lo A L) (fun _=>{ tm:=[],ob:=[] }) 5 f76 [.sl 80 ⟨false,some false,false⟩ (xs.map dD)] []=some (.own 7 80 0 xs.length,[(7,⟨.row 80,false,xs.map dD⟩)]):=by
 have hq:decide (xs.length * 40≤140737488355328)=true:=by simp;omega
 have fj:xs.length≤140737488355328:=by omega
 simp only[ak,ai,f76];simp only[go_sem,fW,Nat.zero_add,hq,fj]
theorem adY (xs:List bp) (hp:xs.length≤100000):iy Tryz.prog ty G0 76 [.sl 80 gF (xs.map dD)] [] (.own 7 80 0 xs.length) [(7,⟨.row 80,false,xs.map dD⟩)]:=by
 have NQ:∀ {args r fP},(∀ lo A L,ai (ej 8 21 D0 [] [] lo A L) (fun _=>{ tm:=[],ob:=[] }) 5 f76 args []=some (r,fP))→args.length≤f76.ntmps→iy Tryz.prog ty G0 76 args [] r fP:=fun hr ha=>
  dj (Ef:=fun lo A L=>ej 8 21 D0 [] [] lo A L) (fun _ _ _=>rfl) (fun _ _ _=>rfl) (fun _ _ _=>rfl) (fun _ _ _=>rfl) (fun _ _ _=>rfl) cF (fun _ _ _=>kK (C:=[]) (M:=[]) trivial trivial) h76 (fun _ _ _=>rfl) rfl ha (fun lo A L=>eT cF (kK (C:=[]) (M:=[]) trivial trivial) hm (fun _=>[]) _ (by kernel_rfl)) hr
 have:=oH (G:=G0) (es:=xs.map dD) (d:=7) (fr':=false) Di (by decide) (NQ (fun lo A L=>adW lo A L) (Nat.le_of_ble_eq_true rfl)) (by rw[List.length_map];exact NQ (fun lo A L=>adX xs hp lo A L) (Nat.le_of_ble_eq_true rfl));rw[List.length_map] at this;exact this
noncomputable def c76:=mD (α:=(List bp)) (fun xs=>xs.length≤100000) (fun xs=>[.sl 80 gF (xs.map dD)]) (fun xs=>[]) (fun xs=>(.own 7 80 0 xs.length,[(7,⟨.row 80,false,xs.map dD⟩)]))
theorem XG (xs:List bp) (hp:xs.length≤100000):c76 [.sl 80 gF (xs.map dD)] []=some (.own 7 80 0 xs.length,[(7,⟨.row 80,false,xs.map dD⟩)]):=je (fun xs BN hp bZ h' my=>by
 simp only[cJ] at h';obtain rfl:=h';rfl) (xs) hp
theorem adZ:sR 76 c76:=gr h76 rfl rfl fun xs hp=>adY xs hp
theorem h77:Q 77=some f77:=by kernel_rfl
theorem ad0 (lo:Option Nat) (A L:NP):ai (ej 8 21 D0 [] [] lo A L) (fun _=>{ tm:=[],ob:=[] }) 5 f77 [.sl 2 ⟨false,some true,false⟩ []] []=some (.sl 0 gN [],[]):=by
 simp only[ak,ai,f77];simp only[go_sem,fW]
theorem ad1 (xs:List Int) (hp:xs.length≤100000) (lo:Option Nat) (A L:NP):ai (ej 8 21 D0 [] [] lo A L) (fun _=>{ tm:=[],ob:=[] }) 5 f77 [.sl 2 ⟨false,some false,false⟩ (xs.map eI)] []=some (.own 7 2 0 xs.length,[(7,⟨.row 2,false,xs.map eI⟩)]):=by
 have hq:decide (xs.length * 8≤140737488355328)=true:=by simp;omega
 have fj:xs.length≤140737488355328:=by omega
 simp only[ak,ai,f77];simp only[go_sem,fW,Nat.zero_add,hq,fj]
theorem ad2 (xs:List Int) (hp:xs.length≤100000):iy Tryz.prog ty G0 77 [.sl 2 gF (xs.map eI)] [] (.own 7 2 0 xs.length) [(7,⟨.row 2,false,xs.map eI⟩)]:=by
 have NQ:∀ {args r fP},(∀ lo A L,ai (ej 8 21 D0 [] [] lo A L) (fun _=>{ tm:=[],ob:=[] }) 5 f77 args []=some (r,fP))→args.length≤f77.ntmps→iy Tryz.prog ty G0 77 args [] r fP:=fun hr ha=>
  dj (Ef:=fun lo A L=>ej 8 21 D0 [] [] lo A L) (fun _ _ _=>rfl) (fun _ _ _=>rfl) (fun _ _ _=>rfl) (fun _ _ _=>rfl) (fun _ _ _=>rfl) cF (fun _ _ _=>kK (C:=[]) (M:=[]) trivial trivial) h77 (fun _ _ _=>rfl) rfl ha (fun lo A L=>eT cF (kK (C:=[]) (M:=[]) trivial trivial) hm (fun _=>[]) _ (by kernel_rfl)) hr
 have:=oH (G:=G0) (es:=xs.map eI) (d:=7) (fr':=false) FH (by decide) (NQ (fun lo A L=>ad0 lo A L) (Nat.le_of_ble_eq_true rfl)) (by rw[List.length_map];exact NQ (fun lo A L=>ad1 xs hp lo A L) (Nat.le_of_ble_eq_true rfl));rw[List.length_map] at this;exact this
noncomputable def c77:=mD (α:=(List Int)) (fun xs=>xs.length≤100000) (fun xs=>[.sl 2 gF (xs.map eI)]) (fun xs=>[]) (fun xs=>(.own 7 2 0 xs.length,[(7,⟨.row 2,false,xs.map eI⟩)]))
theorem XH (xs:List Int) (hp:xs.length≤100000):c77 [.sl 2 gF (xs.map eI)] []=some (.own 7 2 0 xs.length,[(7,⟨.row 2,false,xs.map eI⟩)]):=je (fun xs BN hp bZ h' my=>by
 simp only[cJ] at h';obtain rfl:=h';rfl) (xs) hp
theorem ad3:sR 77 c77:=gr h77 rfl rfl fun xs hp=>ad2 xs hp
theorem h78:Q 78=some f78:=by kernel_rfl
theorem ad4 (lo:Option Nat) (A L:NP):ai (ej 8 21 D0 [] [] lo A L) (fun _=>{ tm:=[],ob:=[] }) 5 f78 [.sl 9 ⟨false,some true,false⟩ []] []=some (.sl 0 gN [],[]):=by
 simp only[ak,ai,f78];simp only[go_sem,fW]
theorem ad5 (xs:List ByteArray) (hp:xs.length≤100000) (lo:Option Nat) (A L:NP):ai (ej 8 21 D0 [] [] lo A L) (fun _=>{ tm:=[],ob:=[] }) 5 f78 [.sl 9 ⟨false,some false,false⟩ (xs.map eS)] []=some (.own 7 9 0 xs.length,[(7,⟨.row 9,false,xs.map eS⟩)]):=by
 have hq:decide (xs.length * 16≤140737488355328)=true:=by simp;omega
 have fj:xs.length≤140737488355328:=by omega
 simp only[ak,ai,f78];simp only[go_sem,fW,Nat.zero_add,hq,fj]
theorem ad6 (xs:List ByteArray) (hp:xs.length≤100000):iy Tryz.prog ty G0 78 [.sl 9 gF (xs.map eS)] [] (.own 7 9 0 xs.length) [(7,⟨.row 9,false,xs.map eS⟩)]:=by
 have NQ:∀ {args r fP},(∀ lo A L,ai (ej 8 21 D0 [] [] lo A L) (fun _=>{ tm:=[],ob:=[] }) 5 f78 args []=some (r,fP))→args.length≤f78.ntmps→iy Tryz.prog ty G0 78 args [] r fP:=fun hr ha=>
  dj (Ef:=fun lo A L=>ej 8 21 D0 [] [] lo A L) (fun _ _ _=>rfl) (fun _ _ _=>rfl) (fun _ _ _=>rfl) (fun _ _ _=>rfl) (fun _ _ _=>rfl) cF (fun _ _ _=>kK (C:=[]) (M:=[]) trivial trivial) h78 (fun _ _ _=>rfl) rfl ha (fun lo A L=>eT cF (kK (C:=[]) (M:=[]) trivial trivial) hm (fun _=>[]) _ (by kernel_rfl)) hr
 have:=oH (G:=G0) (es:=xs.map eS) (d:=7) (fr':=false) yY (by decide) (NQ (fun lo A L=>ad4 lo A L) (Nat.le_of_ble_eq_true rfl)) (by rw[List.length_map];exact NQ (fun lo A L=>ad5 xs hp lo A L) (Nat.le_of_ble_eq_true rfl));rw[List.length_map] at this;exact this
noncomputable def c78:=mD (α:=(List ByteArray)) (fun xs=>xs.length≤100000) (fun xs=>[.sl 9 gF (xs.map eS)]) (fun xs=>[]) (fun xs=>(.own 7 9 0 xs.length,[(7,⟨.row 9,false,xs.map eS⟩)]))
theorem XI (xs:List ByteArray) (hp:xs.length≤100000):c78 [.sl 9 gF (xs.map eS)] []=some (.own 7 9 0 xs.length,[(7,⟨.row 9,false,xs.map eS⟩)]):=je (fun xs BN hp bZ h' my=>by
 simp only[cJ] at h';obtain rfl:=h';rfl) (xs) hp
theorem ad7:sR 78 c78:=gr h78 rfl rfl fun xs hp=>ad6 xs hp
theorem h79:Q 79=some f79:=by kernel_rfl
theorem ad8 (lo:Option Nat) (A L:NP):ai (ej 8 21 D0 [] [] lo A L) (fun _=>{ tm:=[],ob:=[] }) 5 f79 [.sl 90 ⟨false,some true,false⟩ []] []=some (.sl 0 gN [],[]):=by
 simp only[ak,ai,f79];simp only[go_sem,fW]
theorem ad9 (xs:List aP) (hp:xs.length≤100000) (lo:Option Nat) (A L:NP):ai (ej 8 21 D0 [] [] lo A L) (fun _=>{ tm:=[],ob:=[] }) 5 f79 [.sl 90 ⟨false,some false,false⟩ (xs.map b_)] []=some (.own 7 90 0 xs.length,[(7,⟨.row 90,false,xs.map b_⟩)]):=by
 have hq:decide (xs.length * 48≤140737488355328)=true:=by simp;omega
 have fj:xs.length≤140737488355328:=by omega
 simp only[ak,ai,f79];simp only[go_sem,fW,Nat.zero_add,hq,fj]
theorem ad_ (xs:List aP) (hp:xs.length≤100000):iy Tryz.prog ty G0 79 [.sl 90 gF (xs.map b_)] [] (.own 7 90 0 xs.length) [(7,⟨.row 90,false,xs.map b_⟩)]:=by
 have NQ:∀ {args r fP},(∀ lo A L,ai (ej 8 21 D0 [] [] lo A L) (fun _=>{ tm:=[],ob:=[] }) 5 f79 args []=some (r,fP))→args.length≤f79.ntmps→iy Tryz.prog ty G0 79 args [] r fP:=fun hr ha=>
  dj (Ef:=fun lo A L=>ej 8 21 D0 [] [] lo A L) (fun _ _ _=>rfl) (fun _ _ _=>rfl) (fun _ _ _=>rfl) (fun _ _ _=>rfl) (fun _ _ _=>rfl) cF (fun _ _ _=>kK (C:=[]) (M:=[]) trivial trivial) h79 (fun _ _ _=>rfl) rfl ha (fun lo A L=>eT cF (kK (C:=[]) (M:=[]) trivial trivial) hm (fun _=>[]) _ (by kernel_rfl)) hr
 have:=oH (G:=G0) (es:=xs.map b_) (d:=7) (fr':=false) Dj (by decide) (NQ (fun lo A L=>ad8 lo A L) (Nat.le_of_ble_eq_true rfl)) (by rw[List.length_map];exact NQ (fun lo A L=>ad9 xs hp lo A L) (Nat.le_of_ble_eq_true rfl));rw[List.length_map] at this;exact this
noncomputable def c79:=mD (α:=(List aP)) (fun xs=>xs.length≤100000) (fun xs=>[.sl 90 gF (xs.map b_)]) (fun xs=>[]) (fun xs=>(.own 7 90 0 xs.length,[(7,⟨.row 90,false,xs.map b_⟩)]))
theorem XJ (xs:List aP) (hp:xs.length≤100000):c79 [.sl 90 gF (xs.map b_)] []=some (.own 7 90 0 xs.length,[(7,⟨.row 90,false,xs.map b_⟩)]):=je (fun xs BN hp bZ h' my=>by
 simp only[cJ] at h';obtain rfl:=h';rfl) (xs) hp
theorem aea:sR 79 c79:=gr h79 rfl rfl fun xs hp=>ad_ xs hp
theorem h46:Q 46=some f46:=by kernel_rfl
def D46:Nat→Option (List DH × List Nat):=fun i=>match i with | 1=>some ([⟨[],[],[5,8,11]⟩,⟨[],[],[5,8,11]⟩,⟨[],[5],[8,11]⟩,⟨[5],[],[5,8,11]⟩,⟨[5],[],[5,8,11]⟩,⟨[],[8],[11]⟩,⟨[5,8],[],[5,8,11]⟩,⟨[5,8],[],[5,8,11]⟩,⟨[],[11],[]⟩,⟨[5,8,11],[],[5,8,11]⟩,⟨[5,8,11],[],[5,8,11]⟩,⟨[],[],[]⟩,⟨[],[],[]⟩,⟨[],[],[]⟩],[5,8,11]) | _=>none
theorem aeb:D46 1=some ([⟨[],[],[5,8,11]⟩,⟨[],[],[5,8,11]⟩,⟨[],[5],[8,11]⟩,⟨[5],[],[5,8,11]⟩,⟨[5],[],[5,8,11]⟩,⟨[],[8],[11]⟩,⟨[5,8],[],[5,8,11]⟩,⟨[5,8],[],[5,8,11]⟩,⟨[],[11],[]⟩,⟨[5,8,11],[],[5,8,11]⟩,⟨[5,8,11],[],[5,8,11]⟩,⟨[],[],[]⟩,⟨[],[],[]⟩,⟨[],[],[]⟩],[5,8,11]):=rfl
theorem aec (hp:LM N V I U) (lo:Option Nat) (A L:NP):ai (ej 16 7 D46 [] [(76,c76),(77,c77),(78,c78),(79,c79)] lo A L) hN (5) f46 [(cd N V I U)] []=some (.st 27 [.own 5 80 0 N.length,.own 8 2 0 V.length,.own 11 9 0 I.length,.own 14 90 0 U.length],[(5,⟨.row 80,false,N.map dD⟩),(8,⟨.row 2,false,V.map eI⟩),(11,⟨.row 9,false,I.map eS⟩),(14,⟨.row 90,false,U.map b_⟩)]):=by
 have e1:=XG N hp.1;have e2:=XH V hp.2.1;have e3:=XI I hp.2.2.1;have e4:=XJ U hp.2.2.2;simp only[ak,ai,f46];simp only[go_sem,aeb,e1,e2,e3,e4]
noncomputable def NS:=mD (α:=(List bp) × (List Int) × (List ByteArray) × (List aP)) (fun (N,V,I,U)=>N.length≤100000∧V.length≤100000∧I.length≤100000∧U.length≤100000) (fun (N,V,I,U)=>[(cd N V I U)]) (fun (N,V,I,U)=>[]) (fun (N,V,I,U)=>(.st 27 [.own 5 80 0 N.length,.own 8 2 0 V.length,.own 11 9 0 I.length,.own 14 90 0 U.length],[(5,⟨.row 80,false,N.map dD⟩),(8,⟨.row 2,false,V.map eI⟩),(11,⟨.row 9,false,I.map eS⟩),(14,⟨.row 90,false,U.map b_⟩)]))
theorem x7 (hp:LM N V I U):NS [(cd N V I U)] []=some (.st 27 [.own 5 80 0 N.length,.own 8 2 0 V.length,.own 11 9 0 I.length,.own 14 90 0 U.length],[(5,⟨.row 80,false,N.map dD⟩),(8,⟨.row 2,false,V.map eI⟩),(11,⟨.row 9,false,I.map eS⟩),(14,⟨.row 90,false,U.map b_⟩)]):=je (fun X Y hp bZ h' my=>by
 obtain⟨N,V,I,U⟩:=X;obtain⟨c7,bJ,bL,bK⟩:=Y;simp only[cJ] at h';obtain⟨rfl,rfl,rfl,rfl⟩:=h';rfl) (N,V,I,U) hp
theorem Eo:sR 46 NS:=gr h46 rfl rfl fun (N,V,I,U) hp=>rm h46 (fun lo A L=>aec N V I U hp lo A L) (fun i=>match i with | 1=>[0,1,3,0,8,31,0,64,255,0,512,2047,4095,8191] | _=>[]) rfl rfl rfl (by kernel_rfl) trivial ⟨adZ,ad3,ad7,aea,trivial⟩
end Go.Proofs.Tryz
end
section
namespace Go.Abs
open Go Go.RowKit
section
variable {P:Program} {N:Array Oper} {Q:Exit→Act→World→Prop}
theorem JW (I:(Nat→Bool)→Act→World→Prop) (hb:∀ (k:Nat) (o:Oper),N[k]? = some o→∀ e ∈ o.after.toList,Region.binds .any e=true→e.on < k) (hg:∀ (k:Nat) (o:Oper),N[k]? = some o→o.guard=none)
 (aed:∀ (S:Nat→Bool) (i:Nat) (o:Oper) (a:Act) (w:World) (K:Act→World→Prop),N[i]? = some o→S i=false→(∀ e ∈ o.after.toList,Region.binds .any e=true→S e.on=true)→I S a w→
   (∀ a' w',I (fun k=>S k || k==i) a' w'→K a' w')→o.wp P a w K Q)
 (Ed:∀ (S:Nat→Bool) (a:Act) (w:World),(∀ k,k < N.size→S k=true)→I S a w→Q .normal a w) :
 ∀ (fuel:Nat) (listed:Array Bool) (a:Act) (w:World),listed.size=N.size→un (fun k=>listed.getD k false) N.size≤fuel→I (fun k=>listed.getD k false) a w→wpAny P .any N Q fuel listed a w:=by
 have gd:∀ (listed:Array Bool) (k:Nat),listed.size=N.size→k < N.size→listed.getD k true=listed.getD k false:=fun l k h1 h2=>by
  simp only[Array.getD_eq_getD_getElem?];rw[Array.getElem?_eq_getElem (by omega)];rfl
 intro fuel
 induction fuel with
 | zero=>
   intro listed a w Uk Qf hI;have cw:=BH N.size (Nat.le_zero.1 Qf);refine⟨?_,Ed _ a w cw hI⟩;unfold Region.ready;refine List.filter_eq_nil_iff.2 fun i hi=>?_
   have qk:i < N.size:=by simpa using hi
   have:=cw i qk;rw[← gd listed i Uk qk] at this;simp only[Array.getD_eq_getD_getElem?] at this ⊢;rw[Array.getElem?_eq_getElem (by omega)] at this ⊢;simp at this;simp[this]
 | succ fuel ih=>
   intro listed a w Uk Qf hI;refine⟨fun hr=>Ed _ a w (fun k=>?_) hI,fun i hi=>?_⟩
   ·induction k using Nat.strongRecOn with
    | ind k ihk=>
      intro hk;cases hq:listed.getD k false with
      | true=>rfl
      | false=>
        exfalso;have sO:=Array.getElem?_eq_getElem hk;have:k ∈ Region.ready .any N listed:=by
         unfold Region.ready;refine List.mem_filter.2 ⟨by simpa using hk,?_⟩;simp only[Array.getD_eq_getD_getElem?] at hq ⊢;rw[Array.getElem?_eq_getElem (by omega)] at hq ⊢;simp at hq;simp only[Option.getD_some,hq,Bool.not_false,Bool.true_and,sO,Option.map_some];rw[← Array.all_toList];refine List.all_eq_true.2 fun e he=>?_
         simp only[Bool.or_eq_true,Bool.not_eq_true'];cases hbe:Region.binds .any e with
         | false=>exact .inl rfl
         | true=>
           refine .inr ?_;have h5:=hb k _ sO e he hbe;have:=ihk e.on h5 (by omega);simpa only[Array.getD_eq_getD_getElem?] using this
        rw[hr] at this;cases this
   ·unfold Region.ready at hi;obtain⟨vj,P_⟩:=List.mem_filter.1 hi;have qk:i < N.size:=by simpa using vj
    have Ul:=Array.getElem?_eq_getElem qk;have aR:i < listed.size:=by omega
    simp only[Ul,Option.map_some,Option.getD_some,Bool.and_eq_true,Bool.not_eq_true'] at P_;have hu:listed.getD i false=false:=by
     have:=P_.1;simp only[Array.getD_eq_getD_getElem?] at this ⊢;rw[Array.getElem?_eq_getElem aR] at this ⊢;simpa using this
    have hp:∀ e ∈ N[i].after.toList,Region.binds .any e=true→listed.getD e.on false=true:=fun e he hb=>by
     have h5:=P_.2;rw[← Array.all_toList] at h5;have:=List.all_eq_true.1 h5 e he;simpa[hb] using this
    have nL:∀ k,(listed.setIfInBounds i true).getD k false=(listed.getD k false || k==i):=fun k=>by
     simp only[Array.getD_eq_getD_getElem?,Array.getElem?_setIfInBounds];by_cases e:i=k
     ·subst e;simp[aR]
     ·rw[if_neg e];have:(k==i)=false:=by simpa using fun h=>e h.symm
      simp[this]
    unfold wpOp;simp only[Ul];have hw:Region.wanted N[i] (yielded N a.tmps)=true:=by unfold Region.wanted;rw[hg i _ Ul]
    rw[if_pos hw];refine .inl (aed _ i _ a w _ Ul hu hp hI fun a' w' hI'=>ih _ a' w' (by simpa using Uk) ?_ ?_)
    ·have:=F6 (f:=fun k=>listed.getD k false) (g:=fun k=>(listed.setIfInBounds i true).getD k false) hu nL N.size;rw[if_pos qk] at this;omega
    ·have:(fun k=>(listed.setIfInBounds i true).getD k false)=fun k=>listed.getD k false || k==i:=funext nL
     rw[this];exact hI'
end
theorem od {P:Program} {t kt et:TypeId} (hu:P.underlying t=some (.map kt et)) {w:World} {b:Nat} {es:Array MapEntry} {cl:Nat} (hb:w.heap[b]? = some (.map es cl)) {k:AV} {v:Value}
 (hk:∃ y b,qI P kt k y b) (KW:∀ e ∈ es.toList,∃ y,qI P kt k y false∧e.key=kv y) :
 (Instr.mapUpdate t (.map (some b)) (kv k) v).run P w = .ok () { w with heap:=w.heap.setIfInBounds b (.map (es.push ⟨kv k,v,cl⟩) (cl+1)) }:=by
 obtain⟨y0,b0,hk0⟩:=hk;have d_:∀ e ∈ es.toList,e.key ≠ kv k:=fun e he hq=>by
  obtain⟨y,h1,h2⟩:=KW e he;rw[h2] at hq;have:=h1.iff.2 hq;cases this
 have main:(Instr.findKey kt (kv k) es.toList).run P w = .ok none w:=by
  rcases hk0.kind with ⟨dd,hu,hi,_⟩|⟨dd,hu,hs⟩
  ·have hik:∀ x ∈ es.toList,MapKept.IsKey dd x.key:=fun e he=>by
    obtain⟨y,hb,he⟩:=KW e he;rcases hb.kind with ⟨dd',nP,_,zp⟩|⟨dd',nP,hs'⟩
    ·rw[hu] at nP;injection nP with nP;subst nP;rw[he];exact zp
    ·rw[hu] at nP;injection nP with nP;subst nP
     obtain⟨r,hr,_⟩:=MapKept.sameNow_of_keys hi hi;rw[hs'] at hr;cases hr
   rcases MapKept.findNow_spec hi es.toList 0 hik with ⟨f1,f2⟩|⟨j,e,f1,f2,f3⟩
   ·exact MapKept.run_findKey hu f1
   ·exact absurd f3 (d_ e (List.mem_of_getElem? f2))
  ·cases hl:es.toList with
   | nil=>exact MapKept.run_findKey hu rfl
   | cons e l=>
     obtain⟨r,r1,r2⟩:=Bp (P:=P) (u:=kt) (k:=k) (w:=w) (e::l) 0 (fun e he=>by obtain⟨y,h1,h2⟩:=KW e (by rw[hl];exact he);exact⟨y,false,h1,h2⟩);have:r=none:=by
      rcases r2 with ⟨h,_⟩|⟨j,e',_,h2,h3⟩
      ·exact h
      ·exact absurd h3 (d_ e' (by rw[hl];exact h2))
     subst this;simp only[Instr.findKey,Sem.run_bind,run_underlying hu,Result.andThen_ok,Instr.findNow,hs];exact r1
 unfold Instr.mapUpdate;simp only[Sem.run_bind,run_underlying hu,Result.andThen_ok,MapKept.run_getObj_map hb,hk0.check,main,MapKept.run_setObj_map _ hb]
end Go.Abs
namespace Go.Proofs.Tryz
open Go Go.Abs Go.RowKit
def kS (j:Nat):Int:=if j < 2 then 1 else if j < 4 then 2 else if j < 6 then 4 else 8
def kG (j:Nat):Bool:=j % 2==0
def g9 (j:Nat):AV:= .st 133 [.int .i64 (kS j),.bool (kG j)]
def XK (j:Nat):Value:= .func (.func (160+j)) #[] #[]
theorem XL (i j:Nat):pf ty 133 (g9 i) (g9 j)=some (kS i==kS j&&(kG i==kG j&&true)):=by
 simp[pf,g9,sJ,ia,nF,oS,vh,isBool,av]
theorem BT (i j:Nat):qI Tryz.prog 133 (g9 i) (g9 j) (kS i==kS j&&(kG i==kG j&&true)):=wo cF (XL i j)
theorem Gd:∀ i < 8,∀ j < 8,i ≠ j→(kS i==kS j&&(kG i==kG j&&true))=false:=by decide
noncomputable def dP:Array Oper:=match f159.body with | some (.seq _ (.seq (.region _ o _) _))=>o | _=>#[]
set_option maxRecDepth 100000 in
theorem NT (a:Act) (w:World) (j:Nat) (hj:j < 8):∃ o,dP[2 * j+1]? = some o∧o.dst=some (2+j)∧o.after = #[]∧(execOp a.eval o).run Tryz.prog w = .ok (.value (kv (g9 j))) w:=by
 have h:j=0∨j=1∨j=2∨j=3∨j=4∨j=5∨j=6∨j=7:=by omega
 rcases h with rfl|rfl|rfl|rfl|rfl|rfl|rfl|rfl
 ·have e:dP[2 * 0+1]? = some ⟨some (2+0),.build 133 #[(0,.const (.int .i64 1)),(1,.const (.bool true))],133, "bits.go:22",#[],none⟩:=rfl;refine⟨_,e,rfl,rfl,?_⟩;have hr:=run_build (P:=Tryz.prog) w 133 #[(0,.int .i64 1),(1,.bool true)] #[.int .i64 1,.bool true] (by kernel_rfl);have hv:=bT hr;generalize hw:Result.ok (Next.value (Value.agg #[.int .i64 1,.bool true])) w=R at hv;rw[show (Result.ok (Next.value (kv (g9 0))) w)=R from hw];simp only[execOp,List.map_toArray,List.map_cons,List.map_nil,Act.eval];exact hv
 ·have e:dP[2 * 1+1]? = some ⟨some (2+1),.build 133 #[(0,.const (.int .i64 1))],133, "bits.go:22",#[],none⟩:=rfl;refine⟨_,e,rfl,rfl,?_⟩;have hr:=run_build (P:=Tryz.prog) w 133 #[(0,.int .i64 1)] #[.int .i64 1,.bool false] (by kernel_rfl);have hv:=bT hr;generalize hw:Result.ok (Next.value (Value.agg #[.int .i64 1,.bool false])) w=R at hv;rw[show (Result.ok (Next.value (kv (g9 1))) w)=R from hw];simp only[execOp,List.map_toArray,List.map_cons,List.map_nil,Act.eval];exact hv
 ·have e:dP[2 * 2+1]? = some ⟨some (2+2),.build 133 #[(0,.const (.int .i64 2)),(1,.const (.bool true))],133, "bits.go:22",#[],none⟩:=rfl;refine⟨_,e,rfl,rfl,?_⟩;have hr:=run_build (P:=Tryz.prog) w 133 #[(0,.int .i64 2),(1,.bool true)] #[.int .i64 2,.bool true] (by kernel_rfl);have hv:=bT hr;generalize hw:Result.ok (Next.value (Value.agg #[.int .i64 2,.bool true])) w=R at hv;rw[show (Result.ok (Next.value (kv (g9 2))) w)=R from hw];simp only[execOp,List.map_toArray,List.map_cons,List.map_nil,Act.eval];exact hv
 ·have e:dP[2 * 3+1]? = some ⟨some (2+3),.build 133 #[(0,.const (.int .i64 2))],133, "bits.go:22",#[],none⟩:=rfl;refine⟨_,e,rfl,rfl,?_⟩;have hr:=run_build (P:=Tryz.prog) w 133 #[(0,.int .i64 2)] #[.int .i64 2,.bool false] (by kernel_rfl);have hv:=bT hr;generalize hw:Result.ok (Next.value (Value.agg #[.int .i64 2,.bool false])) w=R at hv;rw[show (Result.ok (Next.value (kv (g9 3))) w)=R from hw];simp only[execOp,List.map_toArray,List.map_cons,List.map_nil,Act.eval];exact hv
 ·have e:dP[2 * 4+1]? = some ⟨some (2+4),.build 133 #[(0,.const (.int .i64 4)),(1,.const (.bool true))],133, "bits.go:22",#[],none⟩:=rfl;refine⟨_,e,rfl,rfl,?_⟩;have hr:=run_build (P:=Tryz.prog) w 133 #[(0,.int .i64 4),(1,.bool true)] #[.int .i64 4,.bool true] (by kernel_rfl);have hv:=bT hr;generalize hw:Result.ok (Next.value (Value.agg #[.int .i64 4,.bool true])) w=R at hv;rw[show (Result.ok (Next.value (kv (g9 4))) w)=R from hw];simp only[execOp,List.map_toArray,List.map_cons,List.map_nil,Act.eval];exact hv
 ·have e:dP[2 * 5+1]? = some ⟨some (2+5),.build 133 #[(0,.const (.int .i64 4))],133, "bits.go:22",#[],none⟩:=rfl;refine⟨_,e,rfl,rfl,?_⟩;have hr:=run_build (P:=Tryz.prog) w 133 #[(0,.int .i64 4)] #[.int .i64 4,.bool false] (by kernel_rfl);have hv:=bT hr;generalize hw:Result.ok (Next.value (Value.agg #[.int .i64 4,.bool false])) w=R at hv;rw[show (Result.ok (Next.value (kv (g9 5))) w)=R from hw];simp only[execOp,List.map_toArray,List.map_cons,List.map_nil,Act.eval];exact hv
 ·have e:dP[2 * 6+1]? = some ⟨some (2+6),.build 133 #[(0,.const (.int .i64 8)),(1,.const (.bool true))],133, "bits.go:22",#[],none⟩:=rfl;refine⟨_,e,rfl,rfl,?_⟩;have hr:=run_build (P:=Tryz.prog) w 133 #[(0,.int .i64 8),(1,.bool true)] #[.int .i64 8,.bool true] (by kernel_rfl);have hv:=bT hr;generalize hw:Result.ok (Next.value (Value.agg #[.int .i64 8,.bool true])) w=R at hv;rw[show (Result.ok (Next.value (kv (g9 6))) w)=R from hw];simp only[execOp,List.map_toArray,List.map_cons,List.map_nil,Act.eval];exact hv
 ·have e:dP[2 * 7+1]? = some ⟨some (2+7),.build 133 #[(0,.const (.int .i64 8))],133, "bits.go:22",#[],none⟩:=rfl;refine⟨_,e,rfl,rfl,?_⟩;have hr:=run_build (P:=Tryz.prog) w 133 #[(0,.int .i64 8)] #[.int .i64 8,.bool false] (by kernel_rfl);have hv:=bT hr;generalize hw:Result.ok (Next.value (Value.agg #[.int .i64 8,.bool false])) w=R at hv;rw[show (Result.ok (Next.value (kv (g9 7))) w)=R from hw];simp only[execOp,List.map_toArray,List.map_cons,List.map_nil,Act.eval];exact hv
theorem XM (j:Nat) (hj:j < 8):∃ o,dP[2 * j+2]? = some o∧o.dst=none∧o.op = .insert 216 (.tmp 1) (.tmp (2+j)) (.func (160+j))∧o.after = #[⟨0,.data⟩,⟨2 * j+1,.data⟩]:=by
 have h:j=0∨j=1∨j=2∨j=3∨j=4∨j=5∨j=6∨j=7:=by omega
 rcases h with rfl|rfl|rfl|rfl|rfl|rfl|rfl|rfl <;> exact⟨_,rfl,rfl,rfl,rfl⟩
structure x8 (n0:Nat) (w00:World) (df:List Deferred) (S:Nat→Bool) (a:Act) (w:World):Prop where
 size:a.tmps.size=11
 df:a.defers=df
 below:Below n0 w00 w
 none:S 0=false→w.heap.size=n0∧∀ j,j < 8→S (2 * j+2)=false
 made:S 0=true→a.tmps[1]? = some (.map (some n0))∧∃ es cl,w.heap[n0]? = some (.map es cl)∧
  (∀ e ∈ es.toList,∃ j,j < 8∧S (2 * j+2)=true∧(e.key,e.val)=(kv (g9 j),XK j))∧
  (∀ j,j < 8→S (2 * j+2)=true→(kv (g9 j),XK j) ∈ es.toList.map fun e=>(e.key,e.val))∧(es.toList.map fun e=>(e.key,e.val)).Nodup
 keys:∀ j,j < 8→S (2 * j+1)=true→a.tmps[2+j]? = some (kv (g9 j))
 Ep:S 17=true→a.tmps[10]? = some (.map (some n0))
 res:S 18=true→a.tmps[0]? = some (.map (some n0))
theorem oe (a:Act) (d:Option Nat) (v:Value):(a.put d v).tmps.size=a.tmps.size:=by cases d <;> simp[Act.put]
theorem put_defers (a:Act) (d:Option Nat) (v:Value):(a.put d v).defers=a.defers:=by cases d <;> rfl
theorem fu (a:Act) (d:Nat) (v:Value) (t:Nat) (h:d < a.tmps.size):(a.put (some d) v).tmps[t]? = if d=t then some v else a.tmps[t]?:=by
 simp only[Act.put,Array.getElem?_setIfInBounds];split
 ·rename_i e;subst e;simp[h]
 ·rfl
theorem rR (a:Act) (t:Nat) (v:Value) (h:a.tmps[t]? = some v):a.eval (.tmp t)=v:=by
 simp[Act.eval,h,Array.getD_eq_getD_getElem?]
theorem uP {S:Nat→Bool} {i k:Nat} (h:k ≠ i):(S k || k==i)=S k:=by
 have:(k==i)=false:=by simpa using h
 simp[this]
theorem XN {i:Nat} {o:Oper} (h:dP[i]? = some o):i=0∨(∃ j,j < 8∧i=2 * j+1)∨(∃ j,j < 8∧i=2 * j+2)∨i=17∨i=18:=by
 have:i < 19:=(Array.getElem?_eq_some_iff.1 h).1;have:i=0∨i=17∨i=18∨∃ j,j < 8∧(i=2 * j+1∨i=2 * j+2):=by
  by_cases h0:i=0
  ·exact .inl h0
  ·by_cases im:i < 17
   ·exact .inr (.inr (.inr ⟨(i - 1) / 2,by omega,by omega⟩))
   ·omega
 rcases this with h | h | h|⟨j,h1,h2 | h2⟩
 ·exact .inl h
 ·exact .inr (.inr (.inr (.inl h)))
 ·exact .inr (.inr (.inr (.inr h)))
 ·exact .inr (.inl ⟨j,h1,h2⟩)
 ·exact .inr (.inr (.inl ⟨j,h1,h2⟩))
theorem RL {n0:Nat} {w00:World} {df:List Deferred} {Q:Exit→Act→World→Prop} (S:Nat→Bool) (i:Nat) (o:Oper) (a:Act) (w:World) (K:Act→World→Prop) (ho:dP[i]? = some o) (hS:S i=false)
 (hd:∀ e ∈ o.after.toList,Region.binds .any e=true→S e.on=true) (h:x8 n0 w00 df S a w) (hK:∀ a' w',x8 n0 w00 df (fun k=>S k || k==i) a' w'→K a' w'):o.wp Tryz.prog a w K Q:=by
 have cS:=h.size;have hw0:n0≤w00.heap.size→True:=fun _=>trivial
 rcases XN ho with rfl|⟨j,hj,rfl⟩|⟨j,hj,rfl⟩|rfl|rfl
 ·
  have e:dP[0]? = some ⟨some 1,.makeMap 216 none,216, "bits.go:22",#[],none⟩:=rfl;rw[e] at ho;injection ho with ho;subst ho
  obtain⟨hn,C9⟩:=h.none hS;have gb:(execOp a.eval ⟨some 1,.makeMap 216 none,216, "bits.go:22",#[],none⟩).run Tryz.prog w = .ok (.value (.map (some w.heap.size))) (w.alloc (.map #[] 0)):=rfl;unfold Oper.wp;rw[gb];refine hK _ _ ⟨by rw[oe];exact cS,by rw[put_defers];exact h.df,h.below.alloc (by omega) _,fun h=>by simp at h,fun _=>?_,fun j hj hs=>?_,fun hs=>?_,fun hs=>?_⟩
  ·refine⟨by rw[fu _ _ _ _ (by omega)];simp[hn],#[],0,?_,by simp,fun j hj hs=>?_,by simp⟩
   ·have:=World.alloc_heap_new w (.map #[] 0);rw[hn] at this;exact this
   ·rw[uP (by omega),C9 j hj] at hs;cases hs
  ·rw[uP (by omega)] at hs;rw[fu _ _ _ _ (by omega),if_neg (by omega)];exact h.keys j hj hs
  ·rw[uP (by omega)] at hs;rw[fu _ _ _ _ (by omega),if_neg (by omega)];exact h.Ep hs
  ·rw[uP (by omega)] at hs;rw[fu _ _ _ _ (by omega),if_neg (by omega)];exact h.res hs
 ·obtain⟨o',e1,e2,e3,e4⟩:=NT a w j hj;rw[e1] at ho;injection ho with ho;subst ho
  unfold Oper.wp;rw[e4];have pL:∀ k,k ≠ 2 * j+1→(S k || k==2 * j+1)=S k:=fun k hk=>uP hk
  refine hK _ _ ⟨by rw[oe];exact cS,by rw[put_defers];exact h.df,h.below,fun hh=>?_,fun hh=>?_,fun j' ve hs=>?_,fun hs=>?_,fun hs=>?_⟩
  ·rw[pL 0 (by omega)] at hh;exact⟨(h.none hh).1,fun j' ve=>by rw[pL _ (by omega)];exact (h.none hh).2 j' ve⟩
  ·rw[pL 0 (by omega)] at hh;obtain⟨m1,es,cl,m2,m3,m4,m5⟩:=h.made hh;refine⟨by rw[e2,fu _ _ _ _ (by omega),if_neg (by omega)];exact m1,es,cl,m2,fun e he=>?_,fun j' ve hs=>m4 j' ve (by rw[pL _ (by omega)] at hs;exact hs),m5⟩;obtain⟨j',a1,a2,a3⟩:=m3 e he;exact⟨j',a1,by rw[pL _ (by omega)];exact a2,a3⟩
  ·rw[e2,fu _ _ _ _ (by omega)];by_cases hjj:j'=j
   ·subst hjj;rw[if_pos rfl]
   ·rw[if_neg (by omega)];exact h.keys j' ve (by rw[pL _ (by omega)] at hs;exact hs)
  ·rw[pL _ (by omega)] at hs;rw[e2,fu _ _ _ _ (by omega),if_neg (by omega)];exact h.Ep hs
  ·rw[pL _ (by omega)] at hs;rw[e2,fu _ _ _ _ (by omega),if_neg (by omega)];exact h.res hs
 ·obtain⟨o',e1,e2,e3,e4⟩:=XM j hj;rw[e1] at ho;injection ho with ho;subst ho
  have s0:S 0=true:=hd ⟨0,.data⟩ (by rw[e4];simp) rfl;have s1:S (2 * j+1)=true:=hd ⟨2 * j+1,.data⟩ (by rw[e4];simp) rfl;obtain⟨m1,es,cl,m2,m3,m4,m5⟩:=h.made s0;have pL:∀ k,k ≠ 2 * j+2→(S k || k==2 * j+2)=S k:=fun k hk=>uP hk
  have hb:=(Array.getElem?_eq_some_iff.1 m2).1;have gb:(execOp a.eval o').run Tryz.prog w = .ok .skip { w with heap:=w.heap.setIfInBounds n0 (.map (es.push ⟨kv (g9 j),XK j,cl⟩) (cl+1)) }:=by
   have hx:execOp a.eval o'=(do Instr.mapUpdate 216 (a.eval (.tmp 1)) (a.eval (.tmp (2+j))) (a.eval (.func (160+j)));pure .skip):=by simp only[execOp,e3]
   rw[hx,rR _ _ _ m1,rR _ _ _ (h.keys j hj s1)];have:=od (P:=Tryz.prog) (t:=216) (kt:=133) (et:=214) Tryz.underlying216 m2 (k:=g9 j) (v:=XK j) ⟨g9 j,_,BT j j⟩ fun e he=>by
    obtain⟨j',a1,a2,a3⟩:=m3 e he;have d_:j ≠ j':=by rintro rfl;rw[hS] at a2;cases a2
    refine⟨g9 j',?_,(Prod.mk.inj a3).1⟩;have:=BT j j';rw[Gd j hj j' a1 d_] at this;exact this
   simp only[Sem.run_bind];rw[show a.eval (.func (160+j))=XK j from rfl,this];rfl
  unfold Oper.wp;rw[gb];refine hK _ _ ⟨by rw[oe];exact cS,by rw[put_defers];exact h.df,?_,fun hh=>?_,fun hh=>?_,fun j' ve hs=>?_,fun hs=>?_,fun hs=>?_⟩
  ·refine h.below.trans ⟨rfl,rfl,rfl,by simp,fun k hk=>?_⟩;have:n0 ≠ k:=by omega
   simp[this]
  ·rw[pL 0 (by omega),s0] at hh;cases hh
  ·refine⟨by rw[e2];exact m1,_,_,by simp[hb];exact⟨rfl,rfl⟩,fun e he=>?_,fun j' ve hs=>?_,?_⟩
   ·simp only[Array.toList_push,List.mem_append,List.mem_singleton] at he;rcases he with he|rfl
    ·obtain⟨j',a1,a2,a3⟩:=m3 e he;exact⟨j',a1,by simp[a2],a3⟩
    ·exact⟨j,hj,by simp,rfl⟩
   ·simp only[Array.toList_push,List.map_append,List.map_cons,List.map_nil,List.mem_append,List.mem_singleton];by_cases hjj:j'=j
    ·subst hjj;exact .inr rfl
    ·rw[pL _ (by omega)] at hs;exact .inl (m4 j' ve hs)
   ·simp only[Array.toList_push,List.map_append,List.map_cons,List.map_nil];refine List.nodup_append.2 ⟨m5,by simp,fun x hx y hy=>?_⟩;simp only[List.mem_singleton] at hy;subst hy;rintro rfl;obtain⟨e,he,hq⟩:=List.mem_map.1 hx;obtain⟨j',a1,a2,a3⟩:=m3 e he;rw[hq] at a3;have d_:j ≠ j':=by rintro rfl;rw[hS] at a2;cases a2
    have:=(BT j j').iff.2 (Prod.mk.inj a3).1.symm;rw[Gd j hj j' a1 d_] at this;cases this
  ·rw[pL _ (by omega)] at hs;rw[e2];exact h.keys j' ve hs
  ·rw[pL _ (by omega)] at hs;rw[e2];exact h.Ep hs
  ·rw[pL _ (by omega)] at hs;rw[e2];exact h.res hs
 ·have e:∃ o',dP[17]? = some o'∧o'.dst=some 10∧o'.op = .move (.tmp 1)∧(⟨0,.data⟩ ∈ o'.after.toList):=⟨_,rfl,rfl,rfl,List.mem_of_getElem? (i:=0) rfl⟩
  obtain⟨o',e1,e2,e3,e4⟩:=e;rw[e1] at ho;injection ho with ho;subst ho
  have s0:S 0=true:=hd _ e4 rfl;obtain⟨m1,m2⟩:=h.made s0;have gb:(execOp a.eval o').run Tryz.prog w = .ok (.value (.map (some n0))) w:=by
   have hx:execOp a.eval o'=pure (Next.value (a.eval (.tmp 1))):=by simp only[execOp,e3]
   rw[hx,rR _ _ _ m1];rfl
  have pL:∀ k,k ≠ 17→(S k || k==17)=S k:=fun k hk=>uP hk
  unfold Oper.wp;rw[gb];refine hK _ _ ⟨by rw[oe];exact cS,by rw[put_defers];exact h.df,h.below,fun hh=>?_,fun hh=>?_,fun j' ve hs=>?_,fun hs=>?_,fun hs=>?_⟩
  ·rw[pL 0 (by omega),s0] at hh;cases hh
  ·obtain⟨es,cl,m2,m3,m4,m5⟩:=m2;refine⟨by rw[e2,fu _ _ _ _ (by omega),if_neg (by omega)];exact m1,es,cl,m2,fun e he=>?_,fun j' ve hs=>m4 j' ve (by rw[pL _ (by omega)] at hs;exact hs),m5⟩;obtain⟨j',a1,a2,a3⟩:=m3 e he;exact⟨j',a1,by rw[pL _ (by omega)];exact a2,a3⟩
  ·rw[pL _ (by omega)] at hs;rw[e2,fu _ _ _ _ (by omega),if_neg (by omega)];exact h.keys j' ve hs
  ·rw[e2,fu _ _ _ _ (by omega),if_pos rfl]
  ·rw[pL _ (by omega)] at hs;rw[e2,fu _ _ _ _ (by omega),if_neg (by omega)];exact h.res hs
 ·have e:∃ o',dP[18]? = some o'∧o'.dst=some 0∧o'.op = .assign (.tmp 10)∧(⟨0,.data⟩ ∈ o'.after.toList∨True)∧(∃ g,⟨17,g⟩ ∈ o'.after.toList∧Region.binds .any ⟨17,g⟩=true):=⟨_,rfl,rfl,rfl,.inr trivial,_,List.mem_of_getElem? (i:=0) rfl,rfl⟩
  obtain⟨o',e1,e2,e3,_,g,e4,e5⟩:=e;rw[e1] at ho;injection ho with ho;subst ho
  have s17:S 17=true:=hd _ e4 e5;have gb:(execOp a.eval o').run Tryz.prog w = .ok (.value (.map (some n0))) w:=by
   have hx:execOp a.eval o'=pure (Next.value (a.eval (.tmp 10))):=by simp only[execOp,e3]
   rw[hx,rR _ _ _ (h.Ep s17)];rfl
  have pL:∀ k,k ≠ 18→(S k || k==18)=S k:=fun k hk=>uP hk
  unfold Oper.wp;rw[gb];refine hK _ _ ⟨by rw[oe];exact cS,by rw[put_defers];exact h.df,h.below,fun hh=>?_,fun hh=>?_,fun j' ve hs=>?_,fun hs=>?_,fun hs=>?_⟩
  ·rw[pL 0 (by omega)] at hh;exact⟨(h.none hh).1,fun j' ve=>by rw[pL _ (by omega)];exact (h.none hh).2 j' ve⟩
  ·rw[pL 0 (by omega)] at hh;obtain⟨m1,es,cl,m2,m3,m4,m5⟩:=h.made hh;refine⟨by rw[e2,fu _ _ _ _ (by omega),if_neg (by omega)];exact m1,es,cl,m2,fun e he=>?_,fun j' ve hs=>m4 j' ve (by rw[pL _ (by omega)] at hs;exact hs),m5⟩;obtain⟨j',a1,a2,a3⟩:=m3 e he;exact⟨j',a1,by rw[pL _ (by omega)];exact a2,a3⟩
  ·rw[pL _ (by omega)] at hs;rw[e2,fu _ _ _ _ (by omega),if_neg (by omega)];exact h.keys j' ve hs
  ·rw[pL _ (by omega)] at hs;rw[e2,fu _ _ _ _ (by omega),if_neg (by omega)];exact h.Ep hs
  ·rw[e2,fu _ _ _ _ (by omega),if_pos rfl]
theorem aef:Q 159=some f159:=by kernel_rfl
def jE:List AV:=[g9 0,g9 1,g9 2,g9 3,g9 4,g9 5,g9 6,g9 7]
def kl:List FuncId:=[160,161,162,163,164,165,166,167]
theorem aeg:mpE jE kl=(List.range 8).map fun j=>(kv (g9 j),XK j):=rfl
theorem NU (w:World):x8 w.heap.size w [] (fun k=>(Array.replicate dP.size false).getD k false) { tmps:=#[.map none,undef,undef,undef,undef,undef,undef,undef,undef,undef,undef],defers:=[] } { w with drawn:=w.drawn+1 }:=by
 have hf:(fun k=>(Array.replicate dP.size false).getD k false)=fun _=>false:=by
  funext k
  simp only[Array.getD_eq_getD_getElem?,Array.getElem?_replicate];split <;> rfl
 rw[hf];exact⟨rfl,rfl,⟨rfl,rfl,rfl,Nat.le_refl _,fun _ _=>rfl⟩,fun _=>⟨rfl,fun _ _=>rfl⟩,fun h=>by simp at h,fun _ _ h=>by simp at h,fun h=>by simp at h,fun h=>by simp at h⟩
theorem NV:∀ (k:Nat) (o:Oper),dP[k]? = some o→∀ e ∈ o.after.toList,Region.binds .any e=true→e.on < k:=by
 have:(dP.toList.zipIdx.all fun p=>p.1.after.toList.all fun e=>decide (e.on < p.2))=true:=by kernel_rfl
 intro k o h e he _;have h1:=List.all_eq_true.1 this (o,k) (by
  rw[List.mem_zipIdx_iff_getElem?];simpa using h)
 have h2:=List.all_eq_true.1 h1 e he;simpa using h2
theorem NW:∀ (k:Nat) (o:Oper),dP[k]? = some o→o.guard=none:=by
 have:(dP.toList.all fun o=>o.guard.isNone)=true:=by kernel_rfl
 intro k o h;have:=List.all_eq_true.1 this o (by rw[← Array.getElem?_toList] at h;exact List.mem_of_getElem? h);simpa using this
theorem Er {α:Type}:∀ {l m:List α},l.Nodup→m.Nodup→(∀ x,x ∈ l↔x ∈ m)→l.Perm m:=by
 classical
 intro l m h1 h2 h;exact (List.perm_ext_iff_of_nodup h1 h2).2 h
theorem IH:((List.range 8).map fun j=>kv (g9 j)).Pairwise (·≠ ·):=by
 rw[List.pairwise_map];refine List.Pairwise.imp_of_mem (R:=(·< ·)) ?_ List.pairwise_lt_range;intro a b ha hb hab hq;have:=(BT a b).iff.2 hq.symm;rw[Gd a (List.mem_range.1 ha) b (List.mem_range.1 hb) (by omega)] at this;cases this
theorem XO {w w':World} {S:Nat→Bool} {a:Act} {okb:Nat→Prop} (gU:okb w.heap.size) (cw:∀ k,k < dP.size→S k=true) (h:x8 w.heap.size w [] S a w') :
 a.tmps[0]? = some (.map (some w.heap.size))∧LR ty w' okb (.mp 216 jE kl) (.map (some w.heap.size)):=by
 have hs:dP.size=19:=rfl;obtain⟨_,es,cl,m2,m3,m4,m5⟩:=h.made (cw 0 (by omega));refine⟨h.res (cw 18 (by omega)),.mp 216 jE kl _ es cl gU (Array.getElem?_eq_some_iff.1 m2).1 (by simp[jE]) rfl m2 ?_ ?_⟩
 ·rw[aeg];have hnd:((List.range 8).map fun j=>(kv (g9 j),XK j)).Nodup:=by
   rw[List.Nodup,List.pairwise_map];exact (List.pairwise_map.1 IH).imp fun h hq=>h (Prod.mk.inj hq).1
  refine Er m5 hnd fun x=>⟨fun hx=>?_,fun hx=>?_⟩
  ·obtain⟨e,he,rfl⟩:=List.mem_map.1 hx;obtain⟨j,a1,a2,a3⟩:=m3 e he;rw[a3];exact List.mem_map.2 ⟨j,List.mem_range.2 a1,rfl⟩
  ·obtain⟨j,hj,rfl⟩:=List.mem_map.1 hx;exact m4 j (List.mem_range.1 hj) (cw _ (by have:=List.mem_range.1 hj;omega))
 ·exact IH
set_option maxRecDepth 100000 in
theorem XP:tx Tryz.prog ty G0 159 [] (.mp 216 jE kl):=by
 intro okA w vs lI hG;have hlen:vs=[]:=by have:=lI.1;cases vs with | nil=>rfl | cons=>simp at this
 subst hlen;have e:∃ id c0,f159.body=some (.seq c0 (.seq (.region id dP true) .ret))∧c0 = .region 0 #[⟨some 0,.assign (.const (.map none)),216, "bits.go:21",#[],none⟩] false:=⟨_,_,rfl,rfl⟩
 obtain⟨id,c0,hb,rfl⟩:=e;refine calls_of_wp aef hb ?_;rw[show ({ tmps:=[].toArray++Array.replicate (f159.ntmps - [].toArray.size) undef,defers:=[] }:Act) = { tmps:=#[undef,undef,undef,undef,undef,undef,undef,undef,undef,undef,undef],defers:=[] } from rfl];refine wp_seq (wp_region ?_);show wpOps _ _ _ [0] _ _;have hw:∀ o t,o.guard=none→Region.wanted o t=true:=fun o t h=>by unfold Region.wanted;rw[h]
 simp only[wpOps,List.getElem?_toArray,List.getElem?_cons_zero];rw[if_pos (hw _ _ rfl)];refine .inl ?_;unfold Oper.wp;rw[show ∀ a:Act,(execOp a.eval ⟨some 0,.assign (.const (.map none)),216, "bits.go:21",#[],none⟩).run Tryz.prog w = .ok (.value (.map none)) w from fun _=>rfl];change Code.wp Tryz.prog ((Code.region id dP true).seq Code.ret) (bodyPost Tryz.prog f159 fun e w'=>∃ v,e=Ending.returned v∧Below w.heap.size w w'∧CR ty w' (cX w.heap.size okA) (AV.mp 216 jE kl) v) _ w
 refine wp_seq (wp_region_any hm ?_);refine JW (x8 w.heap.size w []) NV NW (fun S i o a w' K h1 h2 h3 h4 h5=>RL S i o a w' K h1 h2 h3 h4 h5) (fun S a w' cw hI=>?_) _ _ _ _ (by simp) (Nat.le_trans (Ns _ _) (by simp)) (NU w);change Code.wp Tryz.prog Code.ret (bodyPost Tryz.prog f159 fun e w'=>∃ v,e=Ending.returned v∧Below w.heap.size w w'∧CR ty w' (cX w.heap.size okA) (AV.mp 216 jE kl) v) a w'
 refine wp_ret ?_;have gU:cX w.heap.size okA (jw (.mp 216 jE kl)) w.heap.size:=⟨fun _=>Nat.le_refl _,.inl (Nat.le_refl _)⟩
 obtain⟨e1,e2⟩:=XO (okb:=cX w.heap.size okA (jw (.mp 216 jE kl))) gU cw hI;refine⟨hI.df,_,results_tmp rfl _ _ _,_,rfl,hI.below,?_⟩;rw[Array.getD_eq_getD_getElem?,e1];exact e2
def lV:List AV:=[.int .i64 1,.int .i64 2,.int .i64 3,.int .i64 4,.int .i64 5,.int .i64 6,.int .i64 7,.int .i64 8]
def oK:List FuncId:=[89,90,91,92,93,94,95,96]
theorem II (a b:Int):qI Tryz.prog 3 (.int .i64 a) (.int .i64 b) (a==b):=wo cF (by simp[pf,nF,oS])
def Qh (m:Nat):Array MapEntry:=((List.range m).map fun i=>(⟨.int .i64 (i+1:Nat),.func (.func (89+i)) #[] #[],i⟩:MapEntry)).toArray
def yG (w:World) (m:Nat):World:={ w with heap:=w.heap.push (.map (Qh m) m) }
theorem uQ (w:World) (j:Nat):(Instr.mapUpdate 124 (.map (some w.heap.size)) (.int .i64 (j+1:Nat)) (.func (.func (89+j)) #[] #[])).run Tryz.prog (yG w j) = .ok () (yG w (j+1)):=by
 have:=od (P:=Tryz.prog) (t:=124) (kt:=3) (et:=122) Tryz.underlying124 (w:=yG w j) (b:=w.heap.size) (es:=Qh j) (cl:=j) (World.alloc_heap_new w _) (k:= .int .i64 (j+1:Nat)) (v:= .func (.func (89+j)) #[] #[])
  ⟨_,_,II _ 0⟩ fun e he=>by
    simp only[Qh,List.mem_map,List.mem_range] at he;obtain⟨i,hi,rfl⟩:=he;refine⟨.int .i64 (i+1:Nat),?_,rfl⟩;have:=II (j+1:Nat) (i+1:Nat);have d_:(((j+1:Nat):Int)==((i+1:Nat):Int))=false:=by simp;omega
    rw[d_] at this;exact this
 rw[show kv (.int .i64 (j+1:Nat)) = .int .i64 (j+1:Nat) from rfl] at this;rw[this];have h1:(Qh j).push ⟨.int .i64 (j+1:Nat),.func (.func (89+j)) #[] #[],j⟩=Qh (j+1):=by
  simp[Qh,List.range_succ]
 have h2:((yG w j).heap.setIfInBounds w.heap.size (.map (Qh (j+1)) (j+1)))=w.heap.push (.map (Qh (j+1)) (j+1)):=by
  apply Array.ext_getElem?;intro i;simp only[yG,Array.getElem?_setIfInBounds,Array.getElem?_push,Array.size_push];by_cases hi:i=w.heap.size
  ·subst hi;simp
  ·simp[hi,Ne.symm hi]
 rw[h1,h2];rfl
theorem h62:Q 62=some f62:=by kernel_rfl
set_option maxHeartbeats 1000000 in
set_option maxRecDepth 100000 in
theorem XQ (w:World):Calls Tryz.prog 62 #[] w fun e w'=>e = .returned (.map (some w.heap.size))∧w'=yG w 8:=by
 have hmm:=@run_makeMap Tryz.prog;have i0:(Instr.mapUpdate 124 (.map (some w.heap.size)) (.int .i64 1) (.func (.func 89) #[] #[])).run Tryz.prog (w.alloc (.map #[] 0)) = .ok () (yG w 1):=uQ w 0;have i1:(Instr.mapUpdate 124 (.map (some w.heap.size)) (.int .i64 2) (.func (.func 90) #[] #[])).run Tryz.prog (yG w 1) = .ok () (yG w 2):=uQ w 1;have i2:(Instr.mapUpdate 124 (.map (some w.heap.size)) (.int .i64 3) (.func (.func 91) #[] #[])).run Tryz.prog (yG w 2) = .ok () (yG w 3):=uQ w 2;have i3:(Instr.mapUpdate 124 (.map (some w.heap.size)) (.int .i64 4) (.func (.func 92) #[] #[])).run Tryz.prog (yG w 3) = .ok () (yG w 4):=uQ w 3;have i4:(Instr.mapUpdate 124 (.map (some w.heap.size)) (.int .i64 5) (.func (.func 93) #[] #[])).run Tryz.prog (yG w 4) = .ok () (yG w 5):=uQ w 4
 have i5:(Instr.mapUpdate 124 (.map (some w.heap.size)) (.int .i64 6) (.func (.func 94) #[] #[])).run Tryz.prog (yG w 5) = .ok () (yG w 6):=uQ w 5;have i6:(Instr.mapUpdate 124 (.map (some w.heap.size)) (.int .i64 7) (.func (.func 95) #[] #[])).run Tryz.prog (yG w 6) = .ok () (yG w 7):=uQ w 6;have i7:(Instr.mapUpdate 124 (.map (some w.heap.size)) (.int .i64 8) (.func (.func 96) #[] #[])).run Tryz.prog (yG w 7) = .ok () (yG w 8):=uQ w 7
 go_enter Tryz.func62,Tryz.ntmps62
 go_wp2
 go_ret
 exact⟨rfl,rfl⟩
theorem aeh:tx Tryz.prog ty G0 62 [] (.mp 124 lV oK):=by
 intro okA w vs lI hG;have hlen:vs=[]:=by have:=lI.1;cases vs with | nil=>rfl | cons=>simp at this
 subst hlen;refine Calls.mono (XQ w) fun e w' he=>?_
 obtain⟨rfl,rfl⟩:=he;refine⟨_,rfl,(Below.refl _ w).alloc (Nat.le_refl _) _,?_⟩;have hg:(yG w 8).heap[w.heap.size]? = some (.map (Qh 8) 8):=World.alloc_heap_new w _;refine LR.mp 124 lV oK _ (Qh 8) 8 ⟨fun _=>Nat.le_refl _,.inl (Nat.le_refl _)⟩ (Array.getElem?_eq_some_iff.1 hg).1 (by simp[lV]) rfl hg (List.Perm.refl _) ?_;simp[lV,kv,oR]
end Go.Proofs.Tryz
end
section
set_option maxHeartbeats 4000000
set_option maxRecDepth 20000
namespace Go.Proofs.Tryz
open Go Go.Abs
variable (N : List bp) (V : List Int) (I : List ByteArray) (U : List aP) (ao : List (List aB)) (aj : List Bool) (au : List Int)
def R62 (l:List AV) (r:AV):Prop:=l=[]∧r = .mp 124 lV oK
noncomputable def c62:=y4 R62
theorem dv:c62 []=some (.mp 124 lV oK):=oI (fun l r r' h h'=>by rw[h.2,h'.2]) ⟨rfl,rfl⟩
theorem aei:cI 62 c62:=fun l r h=>by
 obtain⟨rfl,rfl⟩:=sS h;exact⟨⟨f62,h62,rfl,by decide⟩,aeh⟩
def aks (l:List AV) (r:AV):Prop:=l=[]∧r = .mp 216 jE kl
noncomputable def RM:=y4 aks
theorem IJ:RM []=some (.mp 216 jE kl):=oI (fun l r r' h h'=>by rw[h.2,h'.2]) ⟨rfl,rfl⟩
theorem NX:cI 159 RM:=fun l r h=>by
 obtain⟨rfl,rfl⟩:=sS h;exact⟨⟨f159,aef,rfl,by decide⟩,XP⟩
def findF:List (Int × Bool × FuncId)→Int→Bool→Option FuncId
 | [],_,_=>none
 | (s',g',f)::r,s,g=>if (s==s'&&(g==g'&&true))=true then some f else findF r s g
def jk:Int→Bool→Option FuncId:=findF [(1,true,160),(1,false,161),(2,true,162),(2,false,163),(4,true,164),(4,false,165),(8,true,166),(8,false,167)]
def sT:Int→Option FuncId:=fun r=>if r==1 then some 89 else if r==2 then some 90 else if r==3 then some 91 else if r==4 then some 92 else if r==5 then some 93 else if r==6 then some 94 else if r==7 then some 95 else if r==8 then some 96 else none
theorem XR (s s':Int) (g g':Bool):pf ty 133 (.st 133 [J s,.bool g]) (.st 133 [J s',.bool g'])=some (s==s'&&(g==g'&&true)):=by
 simp[pf,sJ,ia,nF,oS,vh,isBool,av]
theorem akt (s s':Int):pf ty 3 (J s) (J s')=some (s==s'):=by simp[pf,nF,oS]
theorem NY (ok:Bool) (s:Int) (g:Bool):Ts ty 216 ok (.st 133 [J s,.bool g]) (.mp 216 jE kl)=some (th ok (jk s g)):=by
 simp only[Ts,jE,kl,FL,FK,vO,g9,XR,aN,if_true];rfl
theorem dw (ok:Bool) (r:Int):Ts ty 124 ok (J r) (.mp 124 lV oK)=some (th ok (sT r)):=by
 simp only[Ts,lV,oK,FJ,FI,vO,akt,aN,if_true];rfl
theorem Ge {s:Int} {g:Bool} (h:(jk s g).isSome=true):(s=1∧g=true∧jk s g=some 160)∨(s=1∧g=false∧jk s g=some 161)∨(s=2∧g=true∧jk s g=some 162)∨(s=2∧g=false∧jk s g=some 163)∨
 (s=4∧g=true∧jk s g=some 164)∨(s=4∧g=false∧jk s g=some 165)∨(s=8∧g=true∧jk s g=some 166)∨(s=8∧g=false∧jk s g=some 167):=by
 by_cases h1:s=1
 ·subst h1;cases g <;> simp[jk,findF]
 by_cases h2:s=2
 ·subst h2;cases g <;> simp[jk,findF]
 by_cases h3:s=4
 ·subst h3;cases g <;> simp[jk,findF]
 by_cases h4:s=8
 ·subst h4;cases g <;> simp[jk,findF]
 ·simp[jk,findF,h1,h2,h3,h4] at h
def dx (s:Int) (g:Bool):Bool:=(jk s g).isSome
theorem aej:Q 154=some f154:=by kernel_rfl
theorem XS (s:Int) (g:Bool) (A:NP):ak (env 13 4119 D0 [(159,RM)] [] A) hN (5) f154 [.st 133 [J s,.bool g]]=some (J (if dx s g=true then 0 else 10)):=by
 obtain⟨b,hb⟩:∃ b,dx s g=b:=⟨_,rfl⟩
 have h:(jk s g).isSome=b:=hb;simp only[hb];cases b;all_goals
  simp only[ak,ai,f154];simp only[go_sem,IJ,NY,h];try rfl
noncomputable def RN:=bk (α:=Int × Bool) (fun _=>True) (fun (s,g)=>[.st 133 [J s,.bool g]]) (fun (s,g)=>J (if dx s g=true then 0 else 10))
theorem IK (s:Int) (g:Bool):RN [.st 133 [J s,.bool g]]=some (J (if dx s g=true then 0 else 10)):=aJ (fun X Y hp bZ h'=>by
 obtain⟨s,g⟩:=X;obtain⟨s',g'⟩:=Y;simp only[cJ] at h';obtain⟨rfl,rfl⟩:=h';rfl) (s,g) trivial
theorem NZ:cI 154 RN:=aE aej rfl rfl fun (s,g) _=>rc aej (fun A=>XS s g A) (fun i=>match i with | 1=>[0,0,3,7,15,15,31,127] | _=>[]) rfl rfl rfl (by kernel_rfl) ⟨NX,trivial⟩ trivial
theorem aek:Q 160=some f160:=by kernel_rfl
theorem XT (v:Int) (A:NP):ak (env 6 5 D0 [] [] A) hN (5) f160 [J v]=some (J (IntKind.i64.wrap (IntKind.i8.wrap v))):=by
 simp only[ak,ai,f160];simp only[go_sem]
noncomputable def XU:=bk (α:=Int) (fun _=>True) (fun v=>[J v]) (fun v=>J (IntKind.i64.wrap (IntKind.i8.wrap v)))
theorem RO (v:Int):XU [J v]=some (J (IntKind.i64.wrap (IntKind.i8.wrap v))):=aJ (fun v v' hp bZ h'=>by
 simp only[cJ] at h';obtain rfl:=h';rfl) (v) trivial
theorem XV:cI 160 XU:=aE aek rfl rfl fun v _=>rc aek (fun A=>XT v A) (fun _=>[]) rfl rfl rfl (by kernel_rfl) trivial trivial
theorem ael:Q 161=some f161:=by kernel_rfl
theorem XX (v:Int) (A:NP):ak (env 6 5 D0 [] [] A) hN (5) f161 [J v]=some (J (IntKind.i64.wrap (IntKind.u8.wrap v))):=by
 simp only[ak,ai,f161];simp only[go_sem]
noncomputable def XY:=bk (α:=Int) (fun _=>True) (fun v=>[J v]) (fun v=>J (IntKind.i64.wrap (IntKind.u8.wrap v)))
theorem RP (v:Int):XY [J v]=some (J (IntKind.i64.wrap (IntKind.u8.wrap v))):=aJ (fun v v' hp bZ h'=>by
 simp only[cJ] at h';obtain rfl:=h';rfl) (v) trivial
theorem XZ:cI 161 XY:=aE ael rfl rfl fun v _=>rc ael (fun A=>XX v A) (fun _=>[]) rfl rfl rfl (by kernel_rfl) trivial trivial
theorem aem:Q 162=some f162:=by kernel_rfl
theorem X0 (v:Int) (A:NP):ak (env 6 5 D0 [] [] A) hN (5) f162 [J v]=some (J (IntKind.i64.wrap (IntKind.i16.wrap v))):=by
 simp only[ak,ai,f162];simp only[go_sem]
noncomputable def X1:=bk (α:=Int) (fun _=>True) (fun v=>[J v]) (fun v=>J (IntKind.i64.wrap (IntKind.i16.wrap v)))
theorem RQ (v:Int):X1 [J v]=some (J (IntKind.i64.wrap (IntKind.i16.wrap v))):=aJ (fun v v' hp bZ h'=>by
 simp only[cJ] at h';obtain rfl:=h';rfl) (v) trivial
theorem X2:cI 162 X1:=aE aem rfl rfl fun v _=>rc aem (fun A=>X0 v A) (fun _=>[]) rfl rfl rfl (by kernel_rfl) trivial trivial
theorem aen:Q 163=some f163:=by kernel_rfl
theorem X3 (v:Int) (A:NP):ak (env 6 5 D0 [] [] A) hN (5) f163 [J v]=some (J (IntKind.i64.wrap (IntKind.u16.wrap v))):=by
 simp only[ak,ai,f163];simp only[go_sem]
noncomputable def X4:=bk (α:=Int) (fun _=>True) (fun v=>[J v]) (fun v=>J (IntKind.i64.wrap (IntKind.u16.wrap v)))
theorem RR (v:Int):X4 [J v]=some (J (IntKind.i64.wrap (IntKind.u16.wrap v))):=aJ (fun v v' hp bZ h'=>by
 simp only[cJ] at h';obtain rfl:=h';rfl) (v) trivial
theorem X5:cI 163 X4:=aE aen rfl rfl fun v _=>rc aen (fun A=>X3 v A) (fun _=>[]) rfl rfl rfl (by kernel_rfl) trivial trivial
theorem aeo:Q 164=some f164:=by kernel_rfl
theorem X6 (v:Int) (A:NP):ak (env 6 5 D0 [] [] A) hN (5) f164 [J v]=some (J (IntKind.i64.wrap (IntKind.i32.wrap v))):=by
 simp only[ak,ai,f164];simp only[go_sem]
noncomputable def X7:=bk (α:=Int) (fun _=>True) (fun v=>[J v]) (fun v=>J (IntKind.i64.wrap (IntKind.i32.wrap v)))
theorem RS (v:Int):X7 [J v]=some (J (IntKind.i64.wrap (IntKind.i32.wrap v))):=aJ (fun v v' hp bZ h'=>by
 simp only[cJ] at h';obtain rfl:=h';rfl) (v) trivial
theorem X8:cI 164 X7:=aE aeo rfl rfl fun v _=>rc aeo (fun A=>X6 v A) (fun _=>[]) rfl rfl rfl (by kernel_rfl) trivial trivial
theorem aep:Q 165=some f165:=by kernel_rfl
theorem X9 (v:Int) (A:NP):ak (env 6 5 D0 [] [] A) hN (5) f165 [J v]=some (J (IntKind.i64.wrap (IntKind.u32.wrap v))):=by
 simp only[ak,ai,f165];simp only[go_sem]
noncomputable def X_:=bk (α:=Int) (fun _=>True) (fun v=>[J v]) (fun v=>J (IntKind.i64.wrap (IntKind.u32.wrap v)))
theorem RU (v:Int):X_ [J v]=some (J (IntKind.i64.wrap (IntKind.u32.wrap v))):=aJ (fun v v' hp bZ h'=>by
 simp only[cJ] at h';obtain rfl:=h';rfl) (v) trivial
theorem Ya:cI 165 X_:=aE aep rfl rfl fun v _=>rc aep (fun A=>X9 v A) (fun _=>[]) rfl rfl rfl (by kernel_rfl) trivial trivial
theorem aeq:Q 166=some f166:=by kernel_rfl
theorem Yb (v:Int) (A:NP):ak (env 4 5 D0 [] [] A) hN (5) f166 [J v]=some (J v):=by
 simp only[ak,ai,f166];simp only[go_sem]
noncomputable def Yc:=bk (α:=Int) (fun _=>True) (fun v=>[J v]) (fun v=>J v)
theorem RV (v:Int):Yc [J v]=some (J v):=aJ (fun v v' hp bZ h'=>by
 simp only[cJ] at h';obtain rfl:=h';rfl) (v) trivial
theorem Yd:cI 166 Yc:=aE aeq rfl rfl fun v _=>rc aeq (fun A=>Yb v A) (fun _=>[]) rfl rfl rfl (by kernel_rfl) trivial trivial
theorem aer:Q 167=some f167:=by kernel_rfl
theorem Ye (v:Int) (A:NP):ak (env 6 5 D0 [] [] A) hN (5) f167 [J v]=some (J (IntKind.i64.wrap (IntKind.u64.wrap v))):=by
 simp only[ak,ai,f167];simp only[go_sem]
noncomputable def Yf:=bk (α:=Int) (fun _=>True) (fun v=>[J v]) (fun v=>J (IntKind.i64.wrap (IntKind.u64.wrap v)))
theorem RX (v:Int):Yf [J v]=some (J (IntKind.i64.wrap (IntKind.u64.wrap v))):=aJ (fun v v' hp bZ h'=>by
 simp only[cJ] at h';obtain rfl:=h';rfl) (v) trivial
theorem Yg:cI 167 Yf:=aE aer rfl rfl fun v _=>rc aer (fun A=>Ye v A) (fun _=>[]) rfl rfl rfl (by kernel_rfl) trivial trivial
def IL (f:FuncId) (v:Int):Int:=if f=160 then IntKind.i64.wrap (IntKind.i8.wrap v) else if f=161 then IntKind.i64.wrap (IntKind.u8.wrap v) else if f=162 then IntKind.i64.wrap (IntKind.i16.wrap v) else if f=163 then IntKind.i64.wrap (IntKind.u16.wrap v) else if f=164 then IntKind.i64.wrap (IntKind.i32.wrap v) else if f=165 then IntKind.i64.wrap (IntKind.u32.wrap v) else if f=166 then v else if f=167 then IntKind.i64.wrap (IntKind.u64.wrap v) else 0
def iz (s:Int) (g:Bool) (v:Int):Int:=IL ((jk s g).getD 0) v
theorem aes:Q 155=some f155:=by kernel_rfl
theorem Yh (s:Int) (g:Bool) (v:Int) (hp:dx s g=true) (A:NP):ak (env 10 23 D0 [(159,RM),(160,XU),(161,XY),(162,X1),(163,X4),(164,X7),(165,X_),(166,Yc),(167,Yf)] [] A) hN (5) f155 [.st 133 [J s,.bool g],J v]=some (J (iz s g v)):=by
 simp only[iz];rcases Ge hp with ⟨_,_,h⟩|⟨_,_,h⟩|⟨_,_,h⟩|⟨_,_,h⟩|⟨_,_,h⟩|⟨_,_,h⟩|⟨_,_,h⟩|⟨_,_,h⟩
 all_goals
  rw[h];simp only[ak,ai,f155];simp only[go_sem,IJ,RO,RP,RQ,RR,RS,RU,RV,RX,NY,h];try rfl
noncomputable def Yi:=bk (α:=Int × Bool × Int) (fun (s,g,v)=>dx s g=true) (fun (s,g,v)=>[.st 133 [J s,.bool g],J v]) (fun (s,g,v)=>J (iz s g v))
theorem RY (s:Int) (g:Bool) (v:Int) (hp:dx s g=true):Yi [.st 133 [J s,.bool g],J v]=some (J (iz s g v)):=aJ (fun X Y hp bZ h'=>by
 obtain⟨s,g,v⟩:=X;obtain⟨s',g',v'⟩:=Y;simp only[cJ] at h';obtain⟨rfl,rfl,rfl⟩:=h';rfl) (s,g,v) hp
theorem Yj:cI 155 Yi:=aE aes rfl rfl fun (s,g,v) hp=>rc aes (fun A=>Yh s g v hp A) (fun i=>match i with | 1=>[0,0,3,0,15,31] | _=>[]) rfl rfl rfl (by kernel_rfl) ⟨NX,XV,XZ,X2,X5,X8,Ya,Yd,Yg,trivial⟩ trivial
theorem aet:Q 138=some f138:=by kernel_rfl
theorem Yk (s:Int) (g:Bool) (v:Int) (A:NP):ak (env 15 1143 D0 [(154,RN),(155,Yi)] [] A) hN (5) f138 [.st 133 [J s,.bool g],J v]=some (.cE [J (if dx s g=true then iz s g v else 0),J (if dx s g=true then 0 else 10)]):=by
 have N0:=IK s g;have aeu:=RY s g v;cases h:dx s g;all_goals
  simp only[h,forall_const,BL] at N0 aeu ⊢;simp only[ak,ai,f138];simp only[go_sem,N0,aeu];try rfl
noncomputable def Yl:=bk (α:=Int × Bool × Int) (fun _=>True) (fun (s,g,v)=>[.st 133 [J s,.bool g],J v]) (fun (s,g,v)=> .cE [J (if dx s g=true then iz s g v else 0),J (if dx s g=true then 0 else 10)])
theorem cU (s:Int) (g:Bool) (v:Int):Yl [.st 133 [J s,.bool g],J v]=some (.cE [J (if dx s g=true then iz s g v else 0),J (if dx s g=true then 0 else 10)]):=aJ (fun X Y hp bZ h'=>by
 obtain⟨s,g,v⟩:=X;obtain⟨s',g',v'⟩:=Y;simp only[cJ] at h';obtain⟨rfl,rfl,rfl⟩:=h';rfl) (s,g,v) trivial
theorem Ym:cI 138 Yl:=aE aet rfl rfl fun (s,g,v) _=>rc aet (fun A=>Yk s g v A) (fun _=>[]) rfl rfl rfl (by kernel_rfl) ⟨NZ,Yj,trivial⟩ trivial
def iQ (s:Int) (g:Bool):Int:=if dx s g=true then (if g=true then IntKind.i64.wrap (-(IntKind.i64.wrap (8 * s))) else IntKind.i64.wrap (8 * s)) else 0
def IM (s:Int) (g:Bool):Int:=if dx s g=true then 0 else 10
theorem aev:Q 135=some f135:=by kernel_rfl
theorem Yn (s:Int) (g:Bool) (A:NP):ak (env 19 33343 D0 [(154,RN)] [] A) hN (5) f135 [.st 133 [J s,.bool g]]=some (.cE [J (iQ s g),J (IM s g)]):=by
 have N0:=IK s g;simp only[iQ,IM];cases h:dx s g <;> cases g;all_goals
  simp only[h,BL] at N0 ⊢;simp only[ak,ai,f135];simp only[go_sem,N0];try rfl
noncomputable def Yo:=bk (α:=Int × Bool) (fun _=>True) (fun (s,g)=>[.st 133 [J s,.bool g]]) (fun (s,g)=> .cE [J (iQ s g),J (IM s g)])
theorem RZ (s:Int) (g:Bool):Yo [.st 133 [J s,.bool g]]=some (.cE [J (iQ s g),J (IM s g)]):=aJ (fun X Y hp bZ h'=>by
 obtain⟨s,g⟩:=X;obtain⟨s',g'⟩:=Y;simp only[cJ] at h';obtain⟨rfl,rfl⟩:=h';rfl) (s,g) trivial
theorem Yp:cI 135 Yo:=aE aev rfl rfl fun (s,g) _=>rc aev (fun A=>Yn s g A) (fun _=>[]) rfl rfl rfl (by kernel_rfl) ⟨NZ,trivial⟩ trivial
def cn (n:Int):Option (Int × Bool):=
 let g:=decide (n < 0)
 if (iQ 1 g==n)=true then some (1,g) else if (iQ 2 g==n)=true then some (2,g) else if (iQ 4 g==n)=true then some (4,g) else if (iQ 8 g==n)=true then some (8,g) else none
def bc:Option (Int × Bool)→AV
 | some (s,g)=> .cE [.st 133 [J s,.bool g],.bool true]
 | none=> .cE [.st 133 [J 0,.bool false],.bool false]
theorem wr2:IntKind.i64.wrap 2=2:=by decide
theorem wr4:IntKind.i64.wrap 4=4:=by decide
theorem wr8:IntKind.i64.wrap 8=8:=by decide
theorem aku:IntKind.i64.wrap 16=16:=by decide
theorem aew:Q 109=some f109:=by kernel_rfl
theorem Yq (n:Int) (A:NP):ak (env 27 16781373 D0 [(135,Yo)] [] A) (fun _=>{ tm:=[0,2,4],ob:=[2,4],fin:=some ([2,3,4],[2,4]) }) (9) f109 [J n]=some (bc (cn n)):=by
 simp only[cn];obtain⟨g,hg⟩:∃ g,decide (n < 0)=g:=⟨_,rfl⟩
 simp only[hg];cases h1:(iQ 1 g==n) <;> cases h2:(iQ 2 g==n) <;> cases h3:(iQ 4 g==n) <;> cases h4:(iQ 8 g==n)
 all_goals
  simp only[bc,BL];simp only[ak,ai,f109,aG];simp only[go_sem,RZ,hg,h1,h2,h3,h4,St.fin,post,aG,wr2,wr4,wr8,aku];try rfl
noncomputable def R0:=bk (α:=Int) (fun _=>True) (fun n=>[J n]) (fun n=>bc (cn n))
theorem bR (n:Int):R0 [J n]=some (bc (cn n)):=aJ (fun n n' hp bZ h'=>by
 simp only[cJ] at h';obtain rfl:=h';rfl) (n) trivial
theorem N1:cI 109 R0:=aE aew rfl rfl fun n _=>rc aew (fun A=>Yq n A) (fun _=>[]) rfl rfl rfl (by kernel_rfl) ⟨Yp,trivial⟩ trivial
def bM (n:Int):Prop:= -9223372036854775808≤n∧n≤9223372036854775807
structure XW (N:List bp) (V:List Int) (I:List ByteArray) (U:List aP) (ao:List (List aB)) (aj:List Bool) (au:List Int):Prop where
 lim:N.length≤100000∧V.length≤100000∧I.length≤100000∧U.length≤100000
 i200:V.length≤200
 bl:ao.length=N.length
 rl:aj.length=N.length
 al:au.length=N.length
 b8:∀ i,i < N.length→(ao.getD i []).length=8
 op:∀ i,i < N.length→(0≤(N.getD i bD).a∧(N.getD i bD).a.toNat < 8)∧(0≤(N.getD i bD).b∧(N.getD i bD).b.toNat < 8)∧(0≤(N.getD i bD).d∧(N.getD i bD).d.toNat < 8)
 vE:∀ o ∈ N,bM o.n
 fn:∀ i,i < N.length→∀ f ∈ ao.getD i [],bM f.n
 rel:∀ r ∈ U,0≤r.at_∧r.at_.toNat < N.length
 jmp:∀ o ∈ N,(o.op==24 || o.op==25)=true→0≤o.n∧o.n.toNat < N.length
theorem gK {α:Type} {l:List α} {i:Nat} {d:α} (h:i < l.length):l.getD i d ∈ l:=by
 rw[List.getD_eq_getElem?_getD,List.getElem?_eq_getElem h];exact List.getElem_mem _
theorem eP {l:List aB} {i:Nat} (h:i < l.length):l.getD i ⟨0,0⟩ ∈ l:=by
 rw[List.getD_eq_getElem?_getD,List.getElem?_eq_getElem h];exact List.getElem_mem _
theorem XW.fact {N:List bp} {V:List Int} {I:List ByteArray} {U:List aP} {ao:List (List aB)} {aj:List Bool} {au:List Int} (h:XW N V I U ao aj au) {q r:Int} (hq:q.toNat < N.length) (hr:r.toNat < 8):bM (cP ao q r).n:=by
 have h8:=h.b8 q.toNat hq;exact h.fn q.toNat hq _ (eP (by rw[h8];exact hr))
theorem cD {α:Type} (f:α→AV) (l:List α) (i:Nat) (x:α):(l.map f).set i (f x)=(l.set i x).map f:=by rw[List.map_set]
theorem aex:Q 112=some f112:=by kernel_rfl
theorem Yr (at_:Int) (o d a b n:Int) (hp:(LM N V I U)∧0≤at_∧at_.toNat < N.length) (A:NP):ak (env 20 487 D0 [] [(46,NS)] A) hN (5) f112 [(wv N V I U ao aj au),J at_,.st 80 [J o,J d,J a,J b,J n]]=some (.cE [(cd (N.set at_.toNat ⟨o,d,a,b,n⟩) (V) (I) (U)),.bool true]):=by
 obtain⟨hl,h0,aR⟩:=hp;have e1:=x7 N V I U hl;have aO:at_ < (N.length:Int):=by omega
 have aw:=aD (d:=(⟨0,0,0,0,0⟩:bp)) aR;have bH:=cD dD N at_.toNat ⟨o,d,a,b,n⟩;simp only[dD] at bH;simp only[ak,ai,f112];simp only[go_sem,e1,h0,aO,aw,bH]
noncomputable def Gf:=bk (α:=(List bp) × (List Int) × (List ByteArray) × (List aP) × (List (List aB)) × (List Bool) × (List Int) × Int × Int × Int × Int × Int × Int) (fun (N,V,I,U,ao,aj,au,at_,o,d,a,b,n)=>(LM N V I U)∧0≤at_∧at_.toNat < N.length) (fun (N,V,I,U,ao,aj,au,at_,o,d,a,b,n)=>[(wv N V I U ao aj au),J at_,.st 80 [J o,J d,J a,J b,J n]]) (fun (N,V,I,U,ao,aj,au,at_,o,d,a,b,n)=> .cE [(cd (N.set at_.toNat ⟨o,d,a,b,n⟩) (V) (I) (U)),.bool true])
theorem oL (at_:Int) (o d a b n:Int) (hp:(LM N V I U)∧0≤at_∧at_.toNat < N.length):Gf [(wv N V I U ao aj au),J at_,.st 80 [J o,J d,J a,J b,J n]]=some (.cE [(cd (N.set at_.toNat ⟨o,d,a,b,n⟩) (V) (I) (U)),.bool true]):=aJ (fun X Y hp bZ h'=>by
 obtain⟨N,V,I,U,ao,aj,au,at_,o,d,a,b,n⟩:=X;obtain⟨c7,bJ,bL,bK,gm,eW,jj,akk,o',d',a',b',n'⟩:=Y;simp only[cJ] at h';obtain⟨rfl,rfl,rfl,rfl,rfl,rfl,rfl,rfl,rfl,rfl,rfl,rfl,rfl⟩:=h';rfl) (N,V,I,U,ao,aj,au,at_,o,d,a,b,n) hp
theorem x9:cI 112 Gf:=aE aex rfl rfl fun (N,V,I,U,ao,aj,au,at_,o,d,a,b,n) hp=>rc aex (fun A=>Yr N V I U ao aj au at_ o d a b n hp A) (fun _=>[]) rfl rfl rfl (by kernel_rfl) trivial ⟨Eo,trivial⟩
theorem Ys {α:Type} (es:List α) (k:Nat) (z:α) (h:k < es.length):(((es.take k++(es.drop (k+1)++es.drop (es.length - 1))).take (es.length - 1))++([z]++((es.take k++(es.drop (k+1)++es.drop (es.length - 1))).drop es.length))).take (es.length - 1)=es.eraseIdx k:=by
 have h1:(es.take k++es.drop (k+1)).length=es.length - 1:=by simp;omega
 rw[← List.append_assoc (es.take k),List.take_left' h1,List.take_left' h1,List.eraseIdx_eq_take_drop_succ]
theorem jQ {α β:Type} (f:α→β):∀ (l:List α) (k:Nat),(l.eraseIdx k).map f=(l.map f).eraseIdx k
 | [],_=>rfl
 | _::_,0=>rfl
 | x::r,k+1=>by simp only[List.eraseIdx,List.map_cons];rw[jQ f r k]
theorem JX {α:Type} (es:List α) (k:Nat) (z:α) (h:k+1=es.length):(((es.take k++es.drop k).take k)++([z]++((es.take k++es.drop k).drop es.length))).take k=es.eraseIdx k:=by
 have h1:(es.take k).length=k:=by simp;omega
 rw[List.take_left' h1,List.take_left' h1,List.eraseIdx_eq_take_drop_succ];simp;omega
theorem aey:Q 141=some f141:=by kernel_rfl
theorem Yt (xs:List bp) (i:Int) (fr:Bool) (hp:0≤i∧i.toNat < xs.length∧xs.length≤100000):∃ es:List AV,es.take (xs.length - 1)=(xs.eraseIdx i.toNat).map dD∧∀ (lo:Option Nat) (A L:NP),ai (ej 33 65735 D0 [] [] lo A L) (fun _=>{ tm:=[],ob:=[] }) 5 f141 [.own 1000000 80 0 xs.length,J i,J (i+1)] [(1000000,⟨.row 80,fr,xs.map dD⟩)]=some (.own 26 80 0 (xs.length - 1),[(26,⟨.row 80,fr,es⟩)]):=by
 obtain⟨h0,aR,dO⟩:=hp;have Es:0≤i+1:=by omega
 have AJ:(i+1).toNat=i.toNat+1:=by omega
 have Gg:(i==i+1)=false:=beq_eq_false_iff_ne.2 (by omega);have N2:(xs.eraseIdx i.toNat).map dD=(xs.map dD).eraseIdx i.toNat:=jQ ..;rw[N2];have hlm:(xs.map dD).length=xs.length:=List.length_map ..;rw[← hlm] at aR dO ⊢;generalize xs.map dD=es at *;obtain⟨k,hk⟩:∃ k,i.toNat=k:=⟨_,rfl⟩
 rw[hk] at aR AJ ⊢;have Rm:k+1+(es.length - (k+1))=es.length:=by omega
 have N3:k≤k+1:=by omega
 have hA4:k+1≤es.length:=by omega
 have hA5:(k=es.length)=False:=by simp;omega
 have hA6:min k es.length=k:=by omega
 have hA7:k≤es.length:=by omega
 by_cases hA:k+1 < es.length
 ·have hq:k+(es.length - (k+1))=es.length - 1:=by omega
  have hA8:es.length - 1≤es.length:=by omega
  have hA9:(es.length - 1=0)=False:=by simp;omega
  have hB1:es.length - 1 < es.length:=by omega
  have hB2:es.length - (es.length - 1)=1:=by omega
  have hB3:(es.length≤es.length - 1)=False:=by simp;omega
  have hB4:k+(es.length - (k+1)+1)=es.length:=by omega
  have hB5:es.length - 1+1=es.length:=by omega
  have IN:(k+1=0)=False:=by simp
  have hB7:(es.drop (k+1)).take (es.length - (k+1))=es.drop (k+1):=List.take_of_length_le (by simp);apply Exists.intro;apply And.intro;rotate_left
  ·intro lo A L;simp only[ak,ai,f141];simp only[go_sem,fW,h0,Es,AJ,Gg,List.length_append,List.length_take,List.length_drop,hk,hq,hA,Rm,N3,hA4,hA5,hA6,hA7,hA8,hA9,hB1,hB2,hB3,hB4,hB5,IN,hB7,List.replicate];rfl
  ·exact Ys es k _ aR
 ·have hn:es.length=k+1:=by omega
  have Ur:(k=k+1)=False:=by simp
  have Us:(k+1≤k)=False:=by simp
  have Ut:min k (k+1)=k:=by omega
  have Uu:k+1 - k=1:=by omega
  have Uv:k < k+1:=by omega
  have IN:(k+1=0)=False:=by simp
  rw[show es.length - 1=k by omega];have hd:=JX es k;by_cases hz:k=0
  ·subst hz;apply Exists.intro;apply And.intro;rotate_left
   ·intro lo A L;simp only[ak,ai,f141];simp only[go_sem,fW,h0,Es,AJ,Gg,List.length_append,List.length_take,List.length_drop,hk,hn,Ur,Us,Ut,Uu,Uv,N3,IN,Nat.lt_irrefl,Nat.sub_self,List.replicate,List.isEmpty_nil,Nat.sub_zero,List.drop_zero,List.take_zero];rfl
   ·simp
    match es,hn with
    | [x],_=>rfl
  ·have hz':(k=0)=False:=by simp[hz]
   apply Exists.intro;apply And.intro;rotate_left
   ·intro lo A L;simp only[ak,ai,f141];simp only[go_sem,fW,h0,Es,AJ,Gg,List.length_append,List.length_take,List.length_drop,hk,hn,Ur,Us,Ut,Uu,Uv,N3,IN,Nat.lt_irrefl,Nat.sub_self,List.replicate,List.isEmpty_nil,hz'];rfl
   ·have:=JX es k (.st 80 [J 0,J 0,J 0,J 0,J 0]) hn.symm;rw[hn] at this;exact this
theorem Yu (xs:List bp) (i:Int) (fr:Bool) (hp:0≤i∧i.toNat < xs.length∧xs.length≤100000):iy Tryz.prog ty G0 141 [.own 1000000 80 0 xs.length,J i,J (i+1)] [(1000000,⟨.row 80,fr,xs.map dD⟩)] (.own 26 80 0 (xs.length - 1)) [(26,⟨.row 80,fr,(xs.eraseIdx i.toNat).map dD⟩)]:=by
 obtain⟨es,h1,h2⟩:=Yt xs i fr hp;rw[← h1];exact iy.shrink (dj (Ef:=fun lo A L=>ej 33 65735 D0 [] [] lo A L) (fun _ _ _=>rfl) (fun _ _ _=>rfl) (fun _ _ _=>rfl) (fun _ _ _=>rfl) (fun _ _ _=>rfl) cF (fun _ _ _=>kK (C:=[]) (M:=[]) trivial trivial) aey (fun _ _ _=>rfl) rfl (Nat.le_of_ble_eq_true rfl) (fun lo A L=>eT cF (kK (C:=[]) (M:=[]) trivial trivial) hm (fun i=>match i with | 5=>[0,0,3,0,0,24,63,127] | _=>[]) _ (by kernel_rfl)) h2)
noncomputable def N4:=mD (α:=(List bp) × Int × Bool) (fun (xs,i,fr)=>0≤i∧i.toNat < xs.length∧xs.length≤100000) (fun (xs,i,fr)=>[.own 1000000 80 0 xs.length,J i,J (i+1)]) (fun (xs,i,fr)=>[(1000000,⟨.row 80,fr,xs.map dD⟩)]) (fun (xs,i,fr)=>(.own 26 80 0 (xs.length - 1),[(26,⟨.row 80,fr,(xs.eraseIdx i.toNat).map dD⟩)]))
theorem R1 (xs:List bp) (i:Int) (fr:Bool) (hp:0≤i∧i.toNat < xs.length∧xs.length≤100000):N4 [.own 1000000 80 0 xs.length,J i,J (i+1)] [(1000000,⟨.row 80,fr,xs.map dD⟩)]=some (.own 26 80 0 (xs.length - 1),[(26,⟨.row 80,fr,(xs.eraseIdx i.toNat).map dD⟩)]):=je (fun X Y hp bZ h' my=>by
 obtain⟨xs,i,fr⟩:=X;obtain⟨BN,i',fr'⟩:=Y;simp only[cJ] at h';try dsimp only at hp bZ ⊢
 simp only[List.cons.injEq,AV.st.injEq,AV.sl.injEq,AV.int.injEq,AV.bool.injEq,AV.str.injEq,AV.ro.injEq,AV.fn.injEq,AV.own.injEq,Fl.mk.injEq,Prod.mk.injEq,Abs.Obj.mk.injEq,kL,nc,nd,nf,jg,gI,fQ,m_,and_true,true_and,and_assoc] at my;obtain⟨rfl,rfl⟩:=my;obtain⟨_,rfl,_⟩:=h';rfl) (xs,i,fr) hp
theorem Yv:sR 141 N4:=gr aey rfl rfl fun (xs,i,fr) hp=>Yu xs i fr hp
theorem aeN:Q 128=some f128:=by kernel_rfl
theorem Yw (xs:List Int) (i:Int) (fr:Bool) (hp:0≤i∧i.toNat < xs.length∧xs.length≤100000):∃ es:List AV,es.take (xs.length - 1)=(xs.eraseIdx i.toNat).map eI∧∀ (lo:Option Nat) (A L:NP),ai (ej 33 65735 D0 [] [] lo A L) (fun _=>{ tm:=[],ob:=[] }) 5 f128 [.own 1000000 2 0 xs.length,J i,J (i+1)] [(1000000,⟨.row 2,fr,xs.map eI⟩)]=some (.own 26 2 0 (xs.length - 1),[(26,⟨.row 2,fr,es⟩)]):=by
 obtain⟨h0,aR,dO⟩:=hp;have Es:0≤i+1:=by omega
 have AJ:(i+1).toNat=i.toNat+1:=by omega
 have Gg:(i==i+1)=false:=beq_eq_false_iff_ne.2 (by omega);have N2:(xs.eraseIdx i.toNat).map eI=(xs.map eI).eraseIdx i.toNat:=jQ ..;rw[N2];have hlm:(xs.map eI).length=xs.length:=List.length_map ..;rw[← hlm] at aR dO ⊢;generalize xs.map eI=es at *;obtain⟨k,hk⟩:∃ k,i.toNat=k:=⟨_,rfl⟩
 rw[hk] at aR AJ ⊢;have Rm:k+1+(es.length - (k+1))=es.length:=by omega
 have N3:k≤k+1:=by omega
 have hA4:k+1≤es.length:=by omega
 have hA5:(k=es.length)=False:=by simp;omega
 have hA6:min k es.length=k:=by omega
 have hA7:k≤es.length:=by omega
 by_cases hA:k+1 < es.length
 ·have hq:k+(es.length - (k+1))=es.length - 1:=by omega
  have hA8:es.length - 1≤es.length:=by omega
  have hA9:(es.length - 1=0)=False:=by simp;omega
  have hB1:es.length - 1 < es.length:=by omega
  have hB2:es.length - (es.length - 1)=1:=by omega
  have hB3:(es.length≤es.length - 1)=False:=by simp;omega
  have hB4:k+(es.length - (k+1)+1)=es.length:=by omega
  have hB5:es.length - 1+1=es.length:=by omega
  have IN:(k+1=0)=False:=by simp
  have hB7:(es.drop (k+1)).take (es.length - (k+1))=es.drop (k+1):=List.take_of_length_le (by simp);apply Exists.intro;apply And.intro;rotate_left
  ·intro lo A L;simp only[ak,ai,f128];simp only[go_sem,fW,h0,Es,AJ,Gg,List.length_append,List.length_take,List.length_drop,hk,hq,hA,Rm,N3,hA4,hA5,hA6,hA7,hA8,hA9,hB1,hB2,hB3,hB4,hB5,IN,hB7,List.replicate];rfl
  ·exact Ys es k _ aR
 ·have hn:es.length=k+1:=by omega
  have Ur:(k=k+1)=False:=by simp
  have Us:(k+1≤k)=False:=by simp
  have Ut:min k (k+1)=k:=by omega
  have Uu:k+1 - k=1:=by omega
  have Uv:k < k+1:=by omega
  have IN:(k+1=0)=False:=by simp
  rw[show es.length - 1=k by omega];have hd:=JX es k;by_cases hz:k=0
  ·subst hz;apply Exists.intro;apply And.intro;rotate_left
   ·intro lo A L;simp only[ak,ai,f128];simp only[go_sem,fW,h0,Es,AJ,Gg,List.length_append,List.length_take,List.length_drop,hk,hn,Ur,Us,Ut,Uu,Uv,N3,IN,Nat.lt_irrefl,Nat.sub_self,List.replicate,List.isEmpty_nil,Nat.sub_zero,List.drop_zero,List.take_zero];rfl
   ·simp
    match es,hn with
    | [x],_=>rfl
  ·have hz':(k=0)=False:=by simp[hz]
   apply Exists.intro;apply And.intro;rotate_left
   ·intro lo A L;simp only[ak,ai,f128];simp only[go_sem,fW,h0,Es,AJ,Gg,List.length_append,List.length_take,List.length_drop,hk,hn,Ur,Us,Ut,Uu,Uv,N3,IN,Nat.lt_irrefl,Nat.sub_self,List.replicate,List.isEmpty_nil,hz'];rfl
   ·have:=JX es k (J 0) hn.symm;rw[hn] at this;exact this
theorem Yx (xs:List Int) (i:Int) (fr:Bool) (hp:0≤i∧i.toNat < xs.length∧xs.length≤100000):iy Tryz.prog ty G0 128 [.own 1000000 2 0 xs.length,J i,J (i+1)] [(1000000,⟨.row 2,fr,xs.map eI⟩)] (.own 26 2 0 (xs.length - 1)) [(26,⟨.row 2,fr,(xs.eraseIdx i.toNat).map eI⟩)]:=by
 obtain⟨es,h1,h2⟩:=Yw xs i fr hp;rw[← h1];exact iy.shrink (dj (Ef:=fun lo A L=>ej 33 65735 D0 [] [] lo A L) (fun _ _ _=>rfl) (fun _ _ _=>rfl) (fun _ _ _=>rfl) (fun _ _ _=>rfl) (fun _ _ _=>rfl) cF (fun _ _ _=>kK (C:=[]) (M:=[]) trivial trivial) aeN (fun _ _ _=>rfl) rfl (Nat.le_of_ble_eq_true rfl) (fun lo A L=>eT cF (kK (C:=[]) (M:=[]) trivial trivial) hm (fun i=>match i with | 5=>[0,0,3,0,0,24,63,127] | _=>[]) _ (by kernel_rfl)) h2)
noncomputable def N5:=mD (α:=(List Int) × Int × Bool) (fun (xs,i,fr)=>0≤i∧i.toNat < xs.length∧xs.length≤100000) (fun (xs,i,fr)=>[.own 1000000 2 0 xs.length,J i,J (i+1)]) (fun (xs,i,fr)=>[(1000000,⟨.row 2,fr,xs.map eI⟩)]) (fun (xs,i,fr)=>(.own 26 2 0 (xs.length - 1),[(26,⟨.row 2,fr,(xs.eraseIdx i.toNat).map eI⟩)]))
theorem R2 (xs:List Int) (i:Int) (fr:Bool) (hp:0≤i∧i.toNat < xs.length∧xs.length≤100000):N5 [.own 1000000 2 0 xs.length,J i,J (i+1)] [(1000000,⟨.row 2,fr,xs.map eI⟩)]=some (.own 26 2 0 (xs.length - 1),[(26,⟨.row 2,fr,(xs.eraseIdx i.toNat).map eI⟩)]):=je (fun X Y hp bZ h' my=>by
 obtain⟨xs,i,fr⟩:=X;obtain⟨BN,i',fr'⟩:=Y;simp only[cJ] at h';try dsimp only at hp bZ ⊢
 simp only[List.cons.injEq,AV.st.injEq,AV.sl.injEq,AV.int.injEq,AV.bool.injEq,AV.str.injEq,AV.ro.injEq,AV.fn.injEq,AV.own.injEq,Fl.mk.injEq,Prod.mk.injEq,Abs.Obj.mk.injEq,kL,nc,nd,nf,jg,gI,fQ,m_,and_true,true_and,and_assoc] at my;obtain⟨rfl,rfl⟩:=my;obtain⟨_,rfl,_⟩:=h';rfl) (xs,i,fr) hp
theorem Yy:sR 128 N5:=gr aeN rfl rfl fun (xs,i,fr) hp=>Yx xs i fr hp
theorem aeO:Q 129=some f129:=by kernel_rfl
theorem Yz (xs:List ByteArray) (i:Int) (fr:Bool) (hp:0≤i∧i.toNat < xs.length∧xs.length≤100000):∃ es:List AV,es.take (xs.length - 1)=(xs.eraseIdx i.toNat).map eS∧∀ (lo:Option Nat) (A L:NP),ai (ej 33 65735 D0 [] [] lo A L) (fun _=>{ tm:=[],ob:=[] }) 5 f129 [.own 1000000 9 0 xs.length,J i,J (i+1)] [(1000000,⟨.row 9,fr,xs.map eS⟩)]=some (.own 26 9 0 (xs.length - 1),[(26,⟨.row 9,fr,es⟩)]):=by
 obtain⟨h0,aR,dO⟩:=hp;have Es:0≤i+1:=by omega
 have AJ:(i+1).toNat=i.toNat+1:=by omega
 have Gg:(i==i+1)=false:=beq_eq_false_iff_ne.2 (by omega);have N2:(xs.eraseIdx i.toNat).map eS=(xs.map eS).eraseIdx i.toNat:=jQ ..;rw[N2];have hlm:(xs.map eS).length=xs.length:=List.length_map ..;rw[← hlm] at aR dO ⊢;generalize xs.map eS=es at *;obtain⟨k,hk⟩:∃ k,i.toNat=k:=⟨_,rfl⟩
 rw[hk] at aR AJ ⊢;have Rm:k+1+(es.length - (k+1))=es.length:=by omega
 have N3:k≤k+1:=by omega
 have hA4:k+1≤es.length:=by omega
 have hA5:(k=es.length)=False:=by simp;omega
 have hA6:min k es.length=k:=by omega
 have hA7:k≤es.length:=by omega
 by_cases hA:k+1 < es.length
 ·have hq:k+(es.length - (k+1))=es.length - 1:=by omega
  have hA8:es.length - 1≤es.length:=by omega
  have hA9:(es.length - 1=0)=False:=by simp;omega
  have hB1:es.length - 1 < es.length:=by omega
  have hB2:es.length - (es.length - 1)=1:=by omega
  have hB3:(es.length≤es.length - 1)=False:=by simp;omega
  have hB4:k+(es.length - (k+1)+1)=es.length:=by omega
  have hB5:es.length - 1+1=es.length:=by omega
  have IN:(k+1=0)=False:=by simp
  have hB7:(es.drop (k+1)).take (es.length - (k+1))=es.drop (k+1):=List.take_of_length_le (by simp);apply Exists.intro;apply And.intro;rotate_left
  ·intro lo A L;simp only[ak,ai,f129];simp only[go_sem,fW,h0,Es,AJ,Gg,List.length_append,List.length_take,List.length_drop,hk,hq,hA,Rm,N3,hA4,hA5,hA6,hA7,hA8,hA9,hB1,hB2,hB3,hB4,hB5,IN,hB7,List.replicate];rfl
  ·exact Ys es k _ aR
 ·have hn:es.length=k+1:=by omega
  have Ur:(k=k+1)=False:=by simp
  have Us:(k+1≤k)=False:=by simp
  have Ut:min k (k+1)=k:=by omega
  have Uu:k+1 - k=1:=by omega
  have Uv:k < k+1:=by omega
  have IN:(k+1=0)=False:=by simp
  rw[show es.length - 1=k by omega];have hd:=JX es k;by_cases hz:k=0
  ·subst hz;apply Exists.intro;apply And.intro;rotate_left
   ·intro lo A L;simp only[ak,ai,f129];simp only[go_sem,fW,h0,Es,AJ,Gg,List.length_append,List.length_take,List.length_drop,hk,hn,Ur,Us,Ut,Uu,Uv,N3,IN,Nat.lt_irrefl,Nat.sub_self,List.replicate,List.isEmpty_nil,Nat.sub_zero,List.drop_zero,List.take_zero];rfl
   ·simp
    match es,hn with
    | [x],_=>rfl
  ·have hz':(k=0)=False:=by simp[hz]
   apply Exists.intro;apply And.intro;rotate_left
   ·intro lo A L;simp only[ak,ai,f129];simp only[go_sem,fW,h0,Es,AJ,Gg,List.length_append,List.length_take,List.length_drop,hk,hn,Ur,Us,Ut,Uu,Uv,N3,IN,Nat.lt_irrefl,Nat.sub_self,List.replicate,List.isEmpty_nil,hz'];rfl
   ·have:=JX es k (.str ⟨#[]⟩) hn.symm;rw[hn] at this;exact this
theorem YA (xs:List ByteArray) (i:Int) (fr:Bool) (hp:0≤i∧i.toNat < xs.length∧xs.length≤100000):iy Tryz.prog ty G0 129 [.own 1000000 9 0 xs.length,J i,J (i+1)] [(1000000,⟨.row 9,fr,xs.map eS⟩)] (.own 26 9 0 (xs.length - 1)) [(26,⟨.row 9,fr,(xs.eraseIdx i.toNat).map eS⟩)]:=by
 obtain⟨es,h1,h2⟩:=Yz xs i fr hp;rw[← h1];exact iy.shrink (dj (Ef:=fun lo A L=>ej 33 65735 D0 [] [] lo A L) (fun _ _ _=>rfl) (fun _ _ _=>rfl) (fun _ _ _=>rfl) (fun _ _ _=>rfl) (fun _ _ _=>rfl) cF (fun _ _ _=>kK (C:=[]) (M:=[]) trivial trivial) aeO (fun _ _ _=>rfl) rfl (Nat.le_of_ble_eq_true rfl) (fun lo A L=>eT cF (kK (C:=[]) (M:=[]) trivial trivial) hm (fun i=>match i with | 5=>[0,0,3,0,0,24,63,127] | _=>[]) _ (by kernel_rfl)) h2)
noncomputable def N6:=mD (α:=(List ByteArray) × Int × Bool) (fun (xs,i,fr)=>0≤i∧i.toNat < xs.length∧xs.length≤100000) (fun (xs,i,fr)=>[.own 1000000 9 0 xs.length,J i,J (i+1)]) (fun (xs,i,fr)=>[(1000000,⟨.row 9,fr,xs.map eS⟩)]) (fun (xs,i,fr)=>(.own 26 9 0 (xs.length - 1),[(26,⟨.row 9,fr,(xs.eraseIdx i.toNat).map eS⟩)]))
theorem BU (xs:List ByteArray) (i:Int) (fr:Bool) (hp:0≤i∧i.toNat < xs.length∧xs.length≤100000):N6 [.own 1000000 9 0 xs.length,J i,J (i+1)] [(1000000,⟨.row 9,fr,xs.map eS⟩)]=some (.own 26 9 0 (xs.length - 1),[(26,⟨.row 9,fr,(xs.eraseIdx i.toNat).map eS⟩)]):=je (fun X Y hp bZ h' my=>by
 obtain⟨xs,i,fr⟩:=X;obtain⟨BN,i',fr'⟩:=Y;simp only[cJ] at h';try dsimp only at hp bZ ⊢
 simp only[List.cons.injEq,AV.st.injEq,AV.sl.injEq,AV.int.injEq,AV.bool.injEq,AV.str.injEq,AV.ro.injEq,AV.fn.injEq,AV.own.injEq,Fl.mk.injEq,Prod.mk.injEq,Abs.Obj.mk.injEq,kL,nc,nd,nf,jg,gI,fQ,m_,and_true,true_and,and_assoc] at my;obtain⟨rfl,rfl⟩:=my;obtain⟨_,rfl,_⟩:=h';rfl) (xs,i,fr) hp
theorem YB:sR 129 N6:=gr aeO rfl rfl fun (xs,i,fr) hp=>YA xs i fr hp
def ek (x:Int) (l:List aP):List aP:=l.filter fun r=> !(r.at_==x)
theorem vF (x:Int) (l:List aP):(ek x l).length≤l.length:=List.length_filter_le ..
theorem IP (x:Int):∀ (l:List aP) (i:Nat),bf (fun r=>r.at_==x) l i = -1→ek x l=l
 | [],_,_=>rfl
 | r::l,i,h=>by
   simp only[bf] at h;split at h
   ·omega
   ·rename_i hr;have:=IP x l (i+1) h;simp only[Bool.not_eq_true] at hr;show List.filter _ (r::l)=r::l;rw[List.filter_cons_of_pos (by simp[hr])];exact congrArg (r::·) this
theorem Et (x:Int):∀ (l:List aP) (i:Nat) (k:Nat),bf (fun r=>r.at_==x) l i=((i+k:Nat):Int)→k < l.length∧ek x (l.take (k+1))=l.take k
 | [],i,k,h=>by simp only[bf] at h;omega
 | r::l,i,k,h=>by
   simp only[bf] at h;split at h
   ·rename_i hr;have hk:k=0:=by omega
    subst hk;simp at hr;simp[ek,hr]
   ·rename_i hr;rcases ji (fun r=>r.at_==x) l (i+1) with h1 | h1
    ·omega
    ·obtain⟨k',rfl⟩:∃ k',k=k'+1:=⟨k - 1,by omega⟩
     obtain⟨h2,h3⟩:=Et x l (i+1) k' (by rw[h];congr 1;omega);simp only[Bool.not_eq_true] at hr;refine⟨by simp;omega,?_⟩;simp only[List.take_succ_cons,ek,List.filter_cons,hr,BL];congr 1
theorem aeP:Q 142=some f142:=by kernel_rfl
theorem R3 (xs:List aP) (x:Int) (q fr:Bool) (dO:xs.length≤100000) (k:Nat):∀ (m i j:Nat) (ys:List aP),j+m=xs.length→i=(ek x (xs.take j)).length→ys.length=xs.length→ys.take i=ek x (xs.take j)→ys.drop j=xs.drop j→
 ∃ zs:List aP,zs.length=xs.length∧zs.take (ek x xs).length=ek x xs∧∀ (lo:Option Nat) (A L:NP) (σ:St),σ.cA ({ tm:=[0,1,5,6],ob:=[1000000],fin:=some ([0,5],[1000000]) }:Hint)=⟨[(0,.own 1000000 90 0 xs.length),(1,.fn 143 [.ro q 3 (J x)]),(5,J i),(6,J j)],[(1000000,⟨.row 90,fr,(ys).map b_⟩)]⟩→post ({ tm:=[0,1,5,6],ob:=[1000000],fin:=some ([0,5],[1000000]) }:Hint) (aG ty (a9 (ej 42 537399539 D0 [(136,El),(143,oW)] [] lo A L) (fun _=>({ tm:=[0,1,5,6],ob:=[1000000],fin:=some ([0,5],[1000000]) }:Hint)) k (sub (f142.body.getD .skip) [1,1,1,0,1,0,0])) ({ tm:=[0,1,5,6],ob:=[1000000],fin:=some ([0,5],[1000000]) }:Hint) (m+1) σ)=some (.exit 0,⟨[(0,.own 1000000 90 0 xs.length),(5,J (ek x xs).length)],[(1000000,⟨.row 90,fr,zs.map b_⟩)]⟩):=by
 simp only[f142,sub,Option.getD_some];intro m
 induction m with
 | zero=>
   intro i j ys hm hi hlen ht hd;have hjn:xs.take j=xs:=List.take_of_length_le (by omega);rw[hjn] at hi ht;refine⟨ys,hlen,by rw[← hi];exact ht,fun lo A L σ hσ=>?_⟩;have h1:¬ ((j:Int) < (xs.length:Int)):=by omega
   rw[aG,hσ];simp only[go_sem,fW,h1,hlen,gJ];simp[post,St.fin,aQ,aA,hi]
 | succ m ih=>
   intro i j ys hm hi hlen ht hd;have aR:j < xs.length:=by omega
   have h1:(j:Int) < (xs.length:Int):=by omega
   have hj:j < ys.length:=by omega
   have aw:ys[j]? = some xs[j]:=by
    have:(ys.drop j)[0]? = (xs.drop j)[0]?:=by rw[hd]
    simpa[List.getElem?_eq_getElem aR] using this
   have hij:i≤j:=by
    rw[hi];exact Nat.le_trans (vF x _) (by simp;omega)
   have hw:IntKind.i64.wrap ((j:Int)+1)=((j+1:Nat):Int):=a_ (by omega);have vm:IntKind.i64.wrap ((i:Int)+1)=((i+1:Nat):Int):=a_ (by omega);have K2:(i:Int) < (xs.length:Int):=by omega
   have IQ:xs.take (j+1)=xs.take j++[xs[j]]:=List.take_succ_eq_append_getElem aR;have hdn:ys.drop (j+1)=xs.drop (j+1):=by
    have:(ys.drop j).drop 1=(xs.drop j).drop 1:=by rw[hd]
    simpa[List.drop_drop] using this
   generalize xs[j]=r at *;cases hr:(r.at_==x) with
   | true=>
     obtain⟨zs,z1,z2,z3⟩:=ih i (j+1) ys (by omega) (by rw[IQ];simp[ek,hr];rw[hi];rfl) hlen (by rw[IQ];simp[ek,hr];exact ht) hdn;refine⟨zs,z1,z2,fun lo A L σ hσ=>?_⟩;rw[aG,hσ];simp only[go_sem,fW,hw,vm,h1,aw,hlen,hj,K2,gJ,hr];exact z3 lo A L _ (by simp only[go_sem])
   | false=>
     have hgi:=aD (d:=(⟨0,0,⟨#[]⟩,⟨#[]⟩⟩:aP)) (show i < ys.length by omega);have bH:=cD b_ ys i r;simp only[b_] at bH;obtain⟨zs,z1,z2,z3⟩:=ih (i+1) (j+1) (ys.set i r) (by omega) (by rw[IQ];simp[ek,hr];rw[hi];rfl) (by simp[hlen]) (by
      rw[IQ,List.take_succ_eq_append_getElem (by simp;omega)];simp only[ek,List.filter_append,List.filter_cons,hr,List.filter_nil,List.getElem_set_self,BL];rw[List.take_set_of_le (Nat.le_refl _)];rw[ht];rfl) (by rw[List.drop_set_of_lt (by omega)];exact hdn)
     refine⟨zs,z1,z2,fun lo A L σ hσ=>?_⟩;rw[aG,hσ];simp only[go_sem,fW,hw,vm,h1,aw,hlen,hj,K2,gJ,hr,hgi,bH];exact z3 lo A L _ (by simp only[go_sem])
theorem YC (xs:List aP) (x:Int) (q fr:Bool) (dO:xs.length≤100000):∃ es:List AV,es.take (ek x xs).length=(ek x xs).map b_∧∀ (lo:Option Nat) (A L:NP),ai (ej 42 537399539 D0 [(136,El),(143,oW)] [] lo A L) (fun _=>({ tm:=[0,1,5,6],ob:=[1000000],fin:=some ([0,5],[1000000]) }:Hint)) (xs.length+1) f142 [.own 1000000 90 0 xs.length,.fn 143 [.ro q 3 (J x)]] [(1000000,⟨.row 90,fr,xs.map b_⟩)]=some (.own 1000000 90 0 (ek x xs).length,[(1000000,⟨.row 90,fr,es⟩)]):=by
 have Lz:dV [.ro false 3 (J x)]:=⟨rfl,rfl,fun k ob hk=>by obtain⟨j,rfl⟩:∃ j,k=j+2:=⟨k - 2,by omega⟩;rfl⟩
 have hI:=ID xs 143 [.ro false 3 (J x)] (fun r=>r.at_==x) ⟨fun r _=>gJ r.kind r.at_ x r.str r.mem,Lz,rfl,dO⟩;rcases ji (fun r=>r.at_==x) xs 0 with h | h
 ·have hf:=IP x xs 0 h;rw[hf];refine⟨xs.map b_,List.take_of_length_le (by simp),fun lo A L=>?_⟩;simp only[ak,ai,f142];simp only[go_sem,fW,hI,h]
 ·obtain⟨k,hk⟩:∃ k:Nat,bf (fun r=>r.at_==x) xs 0=(k:Int):=⟨(bf (fun r=>r.at_==x) xs 0).toNat,by omega⟩
  obtain⟨AJ,BE⟩:=Et x xs 0 k (by rw[hk];congr 1;omega);have d_:((k:Int)== -1)=false:=beq_eq_false_iff_ne.2 (by omega);have hw:IntKind.i64.wrap ((k:Int)+1)=((k+1:Nat):Int):=a_ (by omega);have yF:(ek x (xs.take (k+1))).length=k:=by rw[BE];simp;omega
  obtain⟨zs,z1,z2,z3⟩:=R3 xs x q fr dO (xs.length+1) (xs.length - (k+1)) k (k+1) xs (by omega) yF.symm rfl BE.symm rfl;simp only[f142,sub,Option.getD_some] at z3;have tv:=vF x xs;have aeQ:(ek x xs).length < xs.length:=by
   have e:ek x xs=ek x (xs.take (k+1))++ek x (xs.drop (k+1)):=by
    simp only[ek];rw[← List.filter_append,List.take_append_drop]
   have:=vF x (xs.drop (k+1));rw[e,List.length_append,yF];simp at this;omega
  generalize (ek x xs).length=f at *;have hD1:f≤xs.length:=tv;have hE:(zs.map b_).take f=(ek x xs).map b_:=by rw[← List.map_take,z2]
  have hE2:(ek x xs).length=f:=by
   have:=congrArg List.length z2;rw[List.length_take,z1] at this;omega
  have aeR:f+(xs.length - f)=xs.length:=by omega
  by_cases hf0:f=0
  ·subst hf0;apply Exists.intro;apply And.intro;rotate_left
   ·intro lo A L;simp only[ak,ai,f142];simp only[go_sem,fW,hI,hk,d_,hw];rw[aY (z3 lo A L _ (by simp only[go_sem])) (by omega)];simp only[go_sem,z1,hD1,aeR,aeQ,List.take_zero,Nat.sub_zero];rfl
   ·have:ek x xs=[]:=List.eq_nil_of_length_eq_zero hE2;simp[this]
  ·have akv:(f=0)=False:=by simp[hf0]
   apply Exists.intro;apply And.intro;rotate_left
   ·intro lo A L;simp only[ak,ai,f142];simp only[go_sem,fW,hI,hk,d_,hw];rw[aY (z3 lo A L _ (by simp only[go_sem])) (by omega)];simp only[go_sem,z1,hD1,aeR,aeQ,akv,Nat.sub_zero];rfl
   ·rw[← hE];exact List.take_left' (by rw[List.length_take];simp;omega)
theorem YD (xs:List aP) (x:Int) (q fr:Bool) (dO:xs.length≤100000):iy Tryz.prog ty G0 142 [.own 1000000 90 0 xs.length,.fn 143 [.ro q 3 (J x)]] [(1000000,⟨.row 90,fr,xs.map b_⟩)] (.own 1000000 90 0 (ek x xs).length) [(1000000,⟨.row 90,fr,(ek x xs).map b_⟩)]:=by
 obtain⟨es,h1,h2⟩:=YC xs x q fr dO;rw[← h1];exact iy.shrink (dj (Ef:=fun lo A L=>ej 42 537399539 D0 [(136,El),(143,oW)] [] lo A L) (fun _ _ _=>rfl) (fun _ _ _=>rfl) (fun _ _ _=>rfl) (fun _ _ _=>rfl) (fun _ _ _=>rfl) cF (fun _ _ _=>kK (C:=[(136,El),(143,oW)]) (M:=[]) ⟨F9,F8,trivial⟩ trivial) aeP (fun _ _ _=>rfl) rfl (Nat.le_of_ble_eq_true rfl) (fun lo A L=>eT cF (kK (C:=[(136,El),(143,oW)]) (M:=[]) ⟨F9,F8,trivial⟩ trivial) hm (fun _=>[]) _ (by kernel_rfl)) h2)
noncomputable def N7:=mD (α:=(List aP) × Int × Bool × Bool) (fun (xs,x,q,fr)=>xs.length≤100000) (fun (xs,x,q,fr)=>[.own 1000000 90 0 xs.length,.fn 143 [.ro q 3 (J x)]]) (fun (xs,x,q,fr)=>[(1000000,⟨.row 90,fr,xs.map b_⟩)]) (fun (xs,x,q,fr)=>(.own 1000000 90 0 (ek x xs).length,[(1000000,⟨.row 90,fr,(ek x xs).map b_⟩)]))
theorem R4 (xs:List aP) (x:Int) (q fr:Bool) (hp:xs.length≤100000):N7 [.own 1000000 90 0 xs.length,.fn 143 [.ro q 3 (J x)]] [(1000000,⟨.row 90,fr,xs.map b_⟩)]=some (.own 1000000 90 0 (ek x xs).length,[(1000000,⟨.row 90,fr,(ek x xs).map b_⟩)]):=je (fun X Y hp bZ h' my=>by
 obtain⟨xs,x,q,fr⟩:=X;obtain⟨BN,x',q',fr'⟩:=Y;simp only[cJ] at h';try dsimp only at hp bZ ⊢
 simp only[List.cons.injEq,AV.st.injEq,AV.sl.injEq,AV.int.injEq,AV.bool.injEq,AV.str.injEq,AV.ro.injEq,AV.fn.injEq,AV.own.injEq,Fl.mk.injEq,Prod.mk.injEq,Abs.Obj.mk.injEq,kL,nc,nd,nf,jg,gI,fQ,m_,and_true,true_and,and_assoc] at my;obtain⟨rfl,rfl⟩:=my;obtain⟨_,rfl,rfl⟩:=h';rfl) (xs,x,q,fr) hp
theorem YE:sR 142 N7:=gr aeP rfl rfl fun (xs,x,q,fr) hp=>YD xs x q fr hp
theorem YF {α:Type} {l:List α} {i:Nat} {x:α} (h:l[i]? = some x):l.set i x=l:=by
 obtain⟨h1,h2⟩:=List.getElem?_eq_some_iff.1 h;subst h2;exact List.set_getElem_self h1
def rowAt {α:Type} (g:α→α) (l:List α) (i:Nat):List α:=(l.take i).map g++l.drop i
theorem gL {α:Type} (g:α→α) (l:List α) (i:Nat):(rowAt g l i).length=l.length:=by simp[rowAt];omega
theorem gw {α:Type} (g:α→α) (l:List α):rowAt g l 0=l:=by simp[rowAt]
theorem oM {α:Type} (g:α→α) (l:List α) (i:Nat) (h:l.length≤i):rowAt g l i=l.map g:=by simp[rowAt,List.take_of_length_le h,h]
theorem mE {α:Type} (g:α→α) (l:List α) (i:Nat) (h:i < l.length):(rowAt g l i)[i]? = some l[i]:=by
 simp only[rowAt];rw[List.getElem?_append_right (by simp;omega)];simp[show min i l.length=i by omega,List.getElem?_eq_getElem h]
theorem lB {α:Type} (g:α→α) (l:List α) (i:Nat) (h:i < l.length):(rowAt g l i).set i (g l[i])=rowAt g l (i+1):=by
 simp only[rowAt];rw[List.set_append_right _ _ (by simp;omega)];have e:i - ((l.take i).map g).length=0:=by simp;omega
 rw[e,List.drop_eq_getElem_cons h,List.set_cons_zero,List.take_succ_eq_append_getElem h,List.map_append,List.append_assoc];rfl
theorem ng {α:Type} (g:α→α) (l:List α) (i:Nat) (h:i < l.length) (hg:g l[i]=l[i]):rowAt g l i=rowAt g l (i+1):=by
 rw[← lB g l i h,hg];exact (YF (mE g l i h)).symm
def me (q:Int) (o:bp):bp:=if (o.op==24 || o.op==25)&&decide (q < o.n) then ⟨o.op,o.d,o.a,o.b,o.n - 1⟩ else o
def iR (q:Int) (r:aP):aP:=if q < r.at_ then ⟨r.kind,r.at_ - 1,r.str,r.mem⟩ else r
def vn (i:Nat):List Nat:=if i=9 then [3] else []
def lC (i:Nat):Hint:=if i=4 then { tm:=[3,4,6,24,25,26],ob:=[3,4,6,3021000,3015001,3015002,3015003],fin:=some ([3,4,6],[3,4,6,3021000,3015001,3015002,3015003]) }
 else { tm:=[3,4,6,61,62,63],ob:=[4,6,3021000,3015001,3015002,3058000],fin:=some ([4,6],[4,6,3021000,3015001,3015002,3058000]) }
theorem aeS:Q 118=some f118:=by kernel_rfl
theorem N8 (ys:List bp) (V:List Int) (I:List ByteArray) (U:List aP) (q:Int) (hq:0≤q) (hn:∀ o ∈ ys,o.n < 9223372036854775808) (dO:ys.length≤100000) (A:NP) (k:Nat):∀ (m i:Nat) (σ:St),i+m=ys.length→
 σ.cA (lC 4)=⟨[(3,pb 3 3),(4,pb 4 27),(6,pb 6 27),(24,.own 3021000 80 0 ys.length),(25,J ys.length),(26,J i)],[(3,⟨.box 3,true,[J q]⟩),(4,⟨.box 27,true,[n4]⟩),(6,⟨.box 27,true,[.st 27 [.own 3021000 80 0 ys.length,.own 3015001 2 0 V.length,.own 3015002 9 0 I.length,.own 3015003 90 0 U.length]]⟩),(3021000,⟨.row 80,false,(rowAt (me q) ys i).map dD⟩),(3015001,⟨.row 2,false,V.map eI⟩),(3015002,⟨.row 9,false,I.map eS⟩),(3015003,⟨.row 90,false,U.map b_⟩)]⟩→
 post (lC 4) (aG ty (a9 (jD (vn) eV 83 2395770904165465720827 D0 [] [(46,NS),(141,N4),(142,N7)] A) lC k (sub (f118.body.getD .skip) [1,1,1,0,1,0,0])) (lC 4) (m+1) σ)=some (.exit 0,⟨[(3,pb 3 3),(4,pb 4 27),(6,pb 6 27)],[(3,⟨.box 3,true,[J q]⟩),(4,⟨.box 27,true,[n4]⟩),(6,⟨.box 27,true,[.st 27 [.own 3021000 80 0 ys.length,.own 3015001 2 0 V.length,.own 3015002 9 0 I.length,.own 3015003 90 0 U.length]]⟩),(3021000,⟨.row 80,false,(ys.map (me q)).map dD⟩),(3015001,⟨.row 2,false,V.map eI⟩),(3015002,⟨.row 9,false,I.map eS⟩),(3015003,⟨.row 90,false,U.map b_⟩)]⟩):=by
 simp only[f118,sub,Option.getD_some];intro m
 induction m with
 | zero=>
   intro i σ hi hσ;have h1:¬ ((i:Int) < (ys.length:Int)):=by omega
   have hlen:=gL (me q) ys i;rw[aG,hσ];simp only[go_sem,lC,vn,hlen,h1];simp[post,St.fin,aQ,aA,lC,oM (me q) ys i (by omega)]
 | succ m ih=>
   intro i σ hi hσ;have h1:(i:Int) < (ys.length:Int):=by omega
   have aR:i < ys.length:=by omega
   have aw:=mE (me q) ys i aR;have hlen:=gL (me q) ys i;have hw:IntKind.i64.wrap ((i:Int)+1)=((i+1:Nat):Int):=a_ (by omega);have tB:=hn _ (List.getElem_mem aR);have Uw:=lB (me q) ys i aR;have vi:=ng (me q) ys i aR;have bH:=cD dD (rowAt (me q) ys i) i (me q ys[i]);rw[Uw] at bH;rw[aG,hσ];generalize ys[i]=x at *;cases ha:(x.op==24) <;> cases hb:(x.op==25) <;> cases hc:decide (q < x.n);all_goals
    have Ug:=hc;simp only[decide_eq_true_eq,decide_eq_false_iff_not] at Ug;have hg:me q x=if (x.op==24 || x.op==25)&&decide (q < x.n) then ⟨x.op,x.d,x.a,x.b,x.n - 1⟩ else x:=rfl
    simp only[ha,hb,hc,BL] at hg;first
    | (have hs:=vi hg
       simp only[go_sem,lC,vn,hlen,hw,h1,aR,aw,ha,hb,hc];exact ih (i+1) _ (by omega) (by rw[← hs];simp only[go_sem,lC]))
    | (rw[hg] at bH
       simp only[dD] at bH;have p_:IntKind.i64.wrap (x.n - 1)=x.n - 1:=wrap_i64 (by omega) (by omega);simp only[go_sem,lC,vn,hlen,hw,h1,aR,aw,ha,hb,hc,bH,p_];exact ih (i+1) _ (by omega) (by simp only[go_sem,lC]))
theorem N9 (ys:List aP) (N:List bp) (V:List Int) (I:List ByteArray) (q:Int) (hq:0≤q) (hn:∀ r ∈ ys,r.at_ < 9223372036854775808) (dO:ys.length≤100000) (A:NP) (k:Nat):∀ (m i:Nat) (σ:St),i+m=ys.length→
 σ.cA (lC 11)=⟨[(3,.ro true 3 (J q)),(4,pb 4 27),(6,pb 6 27),(61,.own 3058000 90 0 ys.length),(62,J ys.length),(63,J i)],[(4,⟨.box 27,true,[n4]⟩),(6,⟨.box 27,true,[.st 27 [.own 3021000 80 0 N.length,.own 3015001 2 0 V.length,.own 3015002 9 0 I.length,.own 3058000 90 0 ys.length]]⟩),(3021000,⟨.row 80,false,N.map dD⟩),(3015001,⟨.row 2,false,V.map eI⟩),(3015002,⟨.row 9,false,I.map eS⟩),(3058000,⟨.row 90,false,(rowAt (iR q) ys i).map b_⟩)]⟩→
 post (lC 11) (aG ty (a9 (jD (vn) eV 83 2395770904165465720827 D0 [] [(46,NS),(141,N4),(142,N7)] A) lC k (sub (f118.body.getD .skip) [1,1,1,1,1,0,1,0,0])) (lC 11) (m+1) σ)=some (.exit 2,⟨[(4,pb 4 27),(6,pb 6 27)],[(4,⟨.box 27,true,[n4]⟩),(6,⟨.box 27,true,[.st 27 [.own 3021000 80 0 N.length,.own 3015001 2 0 V.length,.own 3015002 9 0 I.length,.own 3058000 90 0 ys.length]]⟩),(3021000,⟨.row 80,false,N.map dD⟩),(3015001,⟨.row 2,false,V.map eI⟩),(3015002,⟨.row 9,false,I.map eS⟩),(3058000,⟨.row 90,false,(ys.map (iR q)).map b_⟩)]⟩):=by
 simp only[f118,sub,Option.getD_some];intro m
 induction m with
 | zero=>
   intro i σ hi hσ;have h1:¬ ((i:Int) < (ys.length:Int)):=by omega
   have hlen:=gL (iR q) ys i;rw[aG,hσ];simp only[go_sem,lC,vn,hlen,h1];simp[post,St.fin,aQ,aA,lC,oM (iR q) ys i (by omega)]
 | succ m ih=>
   intro i σ hi hσ;have h1:(i:Int) < (ys.length:Int):=by omega
   have aR:i < ys.length:=by omega
   have aw:=mE (iR q) ys i aR;have hlen:=gL (iR q) ys i;have hw:IntKind.i64.wrap ((i:Int)+1)=((i+1:Nat):Int):=a_ (by omega);have tB:=hn _ (List.getElem_mem aR);have Uw:=lB (iR q) ys i aR;have vi:=ng (iR q) ys i aR;have bH:=cD b_ (rowAt (iR q) ys i) i (iR q ys[i]);rw[Uw] at bH;rw[aG,hσ];generalize ys[i]=x at *;by_cases hc:q < x.at_
   ·have hg:iR q x=⟨x.kind,x.at_ - 1,x.str,x.mem⟩:=if_pos hc;rw[hg] at bH;simp only[b_] at bH;have p_:IntKind.i64.wrap (x.at_ - 1)=x.at_ - 1:=wrap_i64 (by omega) (by omega);simp only[go_sem,lC,vn,hlen,hw,h1,aR,aw,hc,bH,p_];exact ih (i+1) _ (by omega) (by simp only[go_sem,lC])
   ·have hs:=vi (if_neg hc);simp only[go_sem,lC,vn,hlen,hw,h1,aR,aw,hc];exact ih (i+1) _ (by omega) (by rw[← hs];simp only[go_sem,lC])
theorem YG (q:Int) (hp:(LM N V I U)∧0≤q∧q.toNat < N.length∧(∀ o ∈ N,o.n < 9223372036854775808)∧(∀ r ∈ U,r.at_ < 9223372036854775808)) (A:NP):ak (jD (vn) eV 83 2395770904165465720827 D0 [] [(46,NS),(141,N4),(142,N7)] A) (lC) (N.length+U.length+1) f118 [(wv N V I U ao aj au),J q]=some (.cE [(cd ((N.eraseIdx q.toNat).map (me q)) (V) (I) ((ek q U).map (iR q))),.bool true]):=by
 obtain⟨hl,h0,aR,hn,hr⟩:=hp;have rS:=x7 N V I U hl;have akw:=R1 N q false ⟨h0,aR,hl.1⟩;have akx:=R4 U q true false hl.2.2.2;have kz:IntKind.i64.wrap (q+1)=q+1:=wrap_i64 (by omega) (by omega);have CX:N.length - 1=(N.eraseIdx q.toNat).length:=by rw[List.length_eraseIdx_of_lt aR]
 have hny:∀ o ∈ N.eraseIdx q.toNat,o.n < 9223372036854775808:=fun o ho=>hn o (List.mem_of_mem_eraseIdx ho)
 have hnz:∀ r ∈ ek q U,r.at_ < 9223372036854775808:=fun r h=>hr r (List.mem_filter.1 h).1
 have tv:=vF q U;have la:=N8 (N.eraseIdx q.toNat) V I U q h0 hny (by omega) A (N.length+U.length+1) (N.eraseIdx q.toNat).length 0;have lb:=N9 (ek q U) ((N.eraseIdx q.toNat).map (me q)) V I q h0 hnz (by omega) A (N.length+U.length+1) (ek q U).length 0;simp only[f118,sub,Option.getD_some] at la lb;simp only[ak,ai,f118];simp only[go_sem,vn,rS,akw,kz,CX,h0];rw[aY (la _ (by omega) (by simp only[go_sem,lC,gw])) (by omega)];simp only[go_sem,vn,akx,St.lP,Qp,yO,frz];rw[aY (lb _ (by omega) (by simp only[go_sem,lC,gw])) (by omega)];simp only[go_sem,vn]
noncomputable def N_:=bk (α:=(List bp) × (List Int) × (List ByteArray) × (List aP) × (List (List aB)) × (List Bool) × (List Int) × Int) (fun (N,V,I,U,ao,aj,au,q)=>(LM N V I U)∧0≤q∧q.toNat < N.length∧(∀ o ∈ N,o.n < 9223372036854775808)∧(∀ r ∈ U,r.at_ < 9223372036854775808)) (fun (N,V,I,U,ao,aj,au,q)=>[(wv N V I U ao aj au),J q]) (fun (N,V,I,U,ao,aj,au,q)=> .cE [(cd ((N.eraseIdx q.toNat).map (me q)) (V) (I) ((ek q U).map (iR q))),.bool true])
theorem BV (q:Int) (hp:(LM N V I U)∧0≤q∧q.toNat < N.length∧(∀ o ∈ N,o.n < 9223372036854775808)∧(∀ r ∈ U,r.at_ < 9223372036854775808)):N_ [(wv N V I U ao aj au),J q]=some (.cE [(cd ((N.eraseIdx q.toNat).map (me q)) (V) (I) ((ek q U).map (iR q))),.bool true]):=aJ (fun X Y hp bZ h'=>by
 obtain⟨N,V,I,U,ao,aj,au,q⟩:=X;obtain⟨c7,bJ,bL,bK,gm,eW,jj,q'⟩:=Y;simp only[cJ] at h';obtain⟨rfl,rfl,rfl,rfl,rfl,rfl,rfl,rfl⟩:=h';rfl) (N,V,I,U,ao,aj,au,q) hp
theorem Gh:cI 118 N_:=aE aeS rfl rfl fun (N,V,I,U,ao,aj,au,q) hp=>rX aeS (fun A=>YG N V I U ao aj au q hp A) (fun _=>[]) rfl rfl rfl (by kernel_rfl) trivial ⟨Eo,Yv,YE,trivial⟩
def bS (p:Nat→Bool):Nat→Nat→Nat
 | i,0=>i
 | i,m+1=>if p i=true then i else bS p (i+1) m
theorem sU (p:Nat→Bool):∀ (m i:Nat),i≤bS p i m∧bS p i m≤i+m
 | 0,i=>by simp[bS]
 | m+1,i=>by
   unfold bS;split
   ·omega
   ·have:=sU p m (i+1);omega
theorem Eu (p:Nat→Bool):∀ (m i:Nat),bS p i m < i+m→p (bS p i m)=true
 | 0,i,h=>by simp[bS] at h
 | m+1,i,h=>by
   unfold bS at h ⊢;split
   ·assumption
   ·rename_i hp;rw[if_neg hp] at h;exact Eu p m (i+1) (by omega)
def oX (N:List bp) (V:List Int) (U:List aP) (n:Int) (i:Nat):Bool:=V.getD i 0==n&& !(U.any (fixF N i))
def cQ (N:List bp) (V:List Int) (I:List ByteArray) (U:List aP) (q d n:Int):Option aL:=
 if bS (oX N V U n) 0 V.length=V.length then
  if V.length=200 then none else some ⟨N.set q.toNat ⟨1,d,0,0,V.length⟩,V++[n],I,U⟩
 else some ⟨N.set q.toNat ⟨1,d,0,0,bS (oX N V U n) 0 V.length⟩,V,I,U⟩
theorem aeT:Q 115=some f115:=by kernel_rfl
def Gi:Nat→Hint:=fun i=>if i=3 then ({ tm:=[0,1,2,3,8,9,10,11],ob:=[8,10,3016000,3016001,3016002,3016003],fin:=some ([0,1,2,3,8,9,10,11],[8,10,3016000,3016001,3016002,3016003]) }:Hint) else { tm:=[],ob:=[] }
theorem og:Gi 3=({ tm:=[0,1,2,3,8,9,10,11],ob:=[8,10,3016000,3016001,3016002,3016003],fin:=some ([0,1,2,3,8,9,10,11],[8,10,3016000,3016001,3016002,3016003]) }:Hint):=by simp[Gi]
theorem JY (W:AV) (q d n:Int) (cB:U.length≤100000) (hr:∀ r ∈ U,0≤r.at_∧r.at_.toNat < N.length) (qk:V.length≤100000) (A:NP) (k:Nat):∀ (m i:Nat) (σ:St),i+m=V.length→
 σ.cA (Gi 3)=⟨[(0,W),(1,J q),(2,J d),(3,J n),(8,pb 8 27),(9,.bool false),(10,pb 10 27),(11,J i)],[(8,⟨.box 27,true,[n4]⟩),(10,⟨.box 27,true,[.st 27 [.own 3016000 80 0 N.length,.own 3016001 2 0 V.length,.own 3016002 9 0 I.length,.own 3016003 90 0 U.length]]⟩),(3016000,⟨.row 80,false,N.map dD⟩),(3016001,⟨.row 2,false,V.map eI⟩),(3016002,⟨.row 9,false,I.map eS⟩),(3016003,⟨.row 90,false,U.map b_⟩)]⟩→
 post (Gi 3) (aG ty (a9 (env 60 22024592297743 D0 [(123,Gc)] [(46,NS)] A) Gi k (sub (f115.body.getD .skip) [1,1,1,0,0,0])) (Gi 3) (m+1) σ)=some (.exit 0,⟨[(0,W),(1,J q),(2,J d),(3,J n),(8,pb 8 27),(9,.bool false),(10,pb 10 27),(11,J (bS (oX N V U n) i m))],[(8,⟨.box 27,true,[n4]⟩),(10,⟨.box 27,true,[.st 27 [.own 3016000 80 0 N.length,.own 3016001 2 0 V.length,.own 3016002 9 0 I.length,.own 3016003 90 0 U.length]]⟩),(3016000,⟨.row 80,false,N.map dD⟩),(3016001,⟨.row 2,false,V.map eI⟩),(3016002,⟨.row 9,false,I.map eS⟩),(3016003,⟨.row 90,false,U.map b_⟩)]⟩):=by
 simp only[f115,sub,Option.getD_some,og];intro m
 induction m with
 | zero=>
   intro i σ hi hσ;have h1:¬ ((i:Int) < ((V.length:Nat):Int)):=by omega
   rw[aG,hσ];simp only[go_sem,h1];simp[post,St.fin,aQ,aA,bS]
 | succ m ih=>
   intro i σ hi hσ;have h1:(i:Int) < ((V.length:Nat):Int):=by omega
   have aR:i < V.length:=by omega
   have cY:(0:Int)≤(i:Int):=Int.natCast_nonneg i;have hw:IntKind.i64.wrap ((i:Int)+1)=((i+1:Nat):Int):=a_ (by omega);have aw:=aD (d:=(0:Int)) aR;have oY:=BO N V I U i ⟨cB,hr⟩;have hp:oX N V U n i=(V.getD i 0==n&& !(U.any (fixF N i))):=rfl;generalize V.getD i 0=x at *;generalize U.any (fixF N i)=fx at *;rw[aG,hσ];cases hv:(x==n) <;> cases fx;all_goals
    simp only[hv,BL] at hp;simp only[bS,hp,BL];simp only[go_sem,h1,cY,hw,aw,oY,hv];first
    | (simp[post,St.fin,aQ,aA];done)
    | exact ih (i+1) _ (by omega) (by simp only[go_sem])
theorem YH (q d n:Int) (hp:(LM N V I U)∧(0≤q∧q.toNat < N.length)∧V.length≤200∧∀ r ∈ U,0≤r.at_∧r.at_.toNat < N.length) :∃ r,wk r (aS (cQ N V I U q d n))∧∀ A,ak (env 60 22024592297743 D0 [(123,Gc)] [(46,NS)] A) (Gi) (210) f115 [(wv N V I U ao aj au),J q,J d,J n]=some r:=by
 obtain⟨hl,⟨h0,aR⟩,amC,hr⟩:=hp;have rS:=x7 N V I U hl;have aO:q < (N.length:Int):=by omega
 have x_:decide ((V.length+1) * 8≤140737488355328)=true:=by simp;omega
 have ya:V.length≤140737488355327:=by omega
 have y5:(V++[n]).length=V.length+1:=by simp
 have yb:V.map eI++[AV.int .i64 n]=(V++[n]).map eI:=by simp[eI]
 have aw:=aD (d:=bD) aR;have Oa:=fun A=>JY N V I U ((wv N V I U ao aj au)) q d n hl.2.2.2 hr hl.2.1 A 210 V.length 0
 simp only[f115,sub,Option.getD_some,og] at Oa;have AJ:=sU (oX N V U n) V.length 0;unfold cQ;generalize bS (oX N V U n) 0 V.length=j at *;have bH:=cD dD N q.toNat ⟨1,d,0,0,j⟩;simp only[dD] at bH;by_cases hj:j=V.length
 ·have hk:((j:Int)==(V.length:Int))=true:=by rw[hj];simp
  rw[if_pos hj];by_cases h2:V.length=200
  ·have BE:((j:Int)==200)=true:=by simp;omega
   rw[if_pos h2];apply bu
   ·intro A;simp only[ak,ai,f115];simp only[go_sem,rS,h0,aO,aw,bH,hk,BE,x_,ya,yb,y5,og];rw[aY (Oa A _ (by omega) (by simp only[go_sem])) (by omega)];simp only[go_sem,rS,h0,aO,aw,bH,hk,BE,x_,ya,yb,y5,og];rfl
   ·simp[WK,aS,ax]
  ·have BE:((j:Int)==200)=false:=by simp;omega
   rw[if_neg h2];apply bu
   ·intro A;simp only[ak,ai,f115];simp only[go_sem,rS,h0,aO,aw,bH,hk,BE,x_,ya,yb,y5,og];rw[aY (Oa A _ (by omega) (by simp only[go_sem])) (by omega)];simp only[go_sem,rS,h0,aO,aw,bH,hk,BE,x_,ya,yb,y5,og];rfl
   ·simp[hj,WK,aS,ax]
 ·have hk:((j:Int)==(V.length:Int))=false:=by simp;omega
  have BE:=trivial;rw[if_neg hj];apply bu
  ·intro A;simp only[ak,ai,f115];simp only[go_sem,rS,h0,aO,aw,bH,hk,BE,x_,ya,yb,y5,og];rw[aY (Oa A _ (by omega) (by simp only[go_sem])) (by omega)];simp only[go_sem,rS,h0,aO,aw,bH,hk,BE,x_,ya,yb,y5,og];rfl
  ·simp[WK,aS,ax]
noncomputable def R5:=bk (α:=(List bp) × (List Int) × (List ByteArray) × (List aP) × (List (List aB)) × (List Bool) × (List Int) × Int × Int × Int) (fun (N,V,I,U,ao,aj,au,q,d,n)=>(LM N V I U)∧(0≤q∧q.toNat < N.length)∧V.length≤200∧∀ r ∈ U,0≤r.at_∧r.at_.toNat < N.length) (fun (N,V,I,U,ao,aj,au,q,d,n)=>[(wv N V I U ao aj au),J q,J d,J n]) (fun (N,V,I,U,ao,aj,au,q,d,n)=>aS (cQ N V I U q d n))
theorem nh (q d n:Int) (hp:(LM N V I U)∧(0≤q∧q.toNat < N.length)∧V.length≤200∧∀ r ∈ U,0≤r.at_∧r.at_.toNat < N.length):R5 [(wv N V I U ao aj au),J q,J d,J n]=some (aS (cQ N V I U q d n)):=aJ (fun X Y hp bZ h'=>by
 obtain⟨N,V,I,U,ao,aj,au,q,d,n⟩:=X;obtain⟨c7,bJ,bL,bK,gm,eW,jj,q',d',n'⟩:=Y;simp only[cJ] at h';obtain⟨rfl,rfl,rfl,rfl,rfl,rfl,rfl,rfl,rfl,rfl⟩:=h';rfl) (N,V,I,U,ao,aj,au,q,d,n) hp
theorem Ob:cI 115 R5:=aE aeT rfl rfl fun (N,V,I,U,ao,aj,au,q,d,n) hp=>let ⟨_,hw,hr⟩:=YH N V I U ao aj au q d n hp;(rc aeT hr (fun _=>[]) rfl rfl rfl (by kernel_rfl) ⟨NN,trivial⟩ ⟨Eo,trivial⟩).eK hw
def cf (N:List bp) (V:List Int) (I:List ByteArray) (U:List aP) (q:Int):aL:=⟨(N.eraseIdx q.toNat).map (me q),V,I,(ek q U).map (iR q)⟩
def km (N:List bp) (V:List Int) (I:List ByteArray) (U:List aP) (aj:List Bool) (q:Int):Option aL:=if aj.getD q.toNat false=true then none else some (cf N V I U q)
theorem h93:Q 93=some f93:=by kernel_rfl
theorem aeU (q:Int) (hp:((LM N V I U)∧0≤q∧q.toNat < N.length∧(∀ o ∈ N,o.n < 9223372036854775808)∧(∀ r ∈ U,r.at_ < 9223372036854775808))∧q.toNat < aj.length) :∃ r,wk r (aS (km N V I U aj q))∧∀ A,ak (env 19 4147 D0 [(118,N_)] [] A) hN (5) f93 [(wv N V I U ao aj au),J q]=some r:=by
 obtain⟨Gj,aR⟩:=hp;have Gk:=BV N V I U ao aj au q Gj;have aw:=aD (d:=false) aR;have h0:=Gj.2.1;simp only[km];generalize aj.getD q.toNat false=b at *;cases b
 ·simp only[BL];apply bu
  ·intro A;simp only[ak,ai,f93];simp only[go_sem,Gk,aw,h0];try rfl
  ·simp[WK,aS,ax,cf]
 ·simp only[BL];apply bu
  ·intro A;simp only[ak,ai,f93];simp only[go_sem,aw,h0];try rfl
  ·simp[WK,aS,ax]
noncomputable def c93:=bk (α:=(List bp) × (List Int) × (List ByteArray) × (List aP) × (List (List aB)) × (List Bool) × (List Int) × Int) (fun (N,V,I,U,ao,aj,au,q)=>((LM N V I U)∧0≤q∧q.toNat < N.length∧(∀ o ∈ N,o.n < 9223372036854775808)∧(∀ r ∈ U,r.at_ < 9223372036854775808))∧q.toNat < aj.length) (fun (N,V,I,U,ao,aj,au,q)=>[(wv N V I U ao aj au),J q]) (fun (N,V,I,U,ao,aj,au,q)=>aS (km N V I U aj q))
theorem YI (q:Int) (hp:((LM N V I U)∧0≤q∧q.toNat < N.length∧(∀ o ∈ N,o.n < 9223372036854775808)∧(∀ r ∈ U,r.at_ < 9223372036854775808))∧q.toNat < aj.length):c93 [(wv N V I U ao aj au),J q]=some (aS (km N V I U aj q)):=aJ (fun X Y hp bZ h'=>by
 obtain⟨N,V,I,U,ao,aj,au,q⟩:=X;obtain⟨c7,bJ,bL,bK,gm,eW,jj,q'⟩:=Y;simp only[cJ] at h';obtain⟨rfl,rfl,rfl,rfl,rfl,rfl,rfl,rfl⟩:=h';rfl) (N,V,I,U,ao,aj,au,q) hp
theorem aeV:cI 93 c93:=aE h93 rfl rfl fun (N,V,I,U,ao,aj,au,q) hp=>let ⟨_,hw,hr⟩:=aeU N V I U ao aj au q hp;(rc h93 hr (fun _=>[]) rfl rfl rfl (by kernel_rfl) ⟨Gh,trivial⟩ trivial).eK hw
def iq (N:List bp) (V:List Int) (I:List ByteArray) (U:List aP) (q:Int):Option aL:=
 let o:=N.getD q.toNat bD
 let t:=N.getD o.n.toNat bD
 if (o.op==24 || o.op==25)=true then
  if (t.op==24)=true then some ⟨N.set q.toNat ⟨o.op,o.d,o.a,o.b,t.n⟩,V,I,U⟩
  else if (o.op==24&&o.n==q+1)=true then some (cf N V I U q) else none
 else none
theorem h92:Q 92=some f92:=by kernel_rfl
def D92:Nat→Option (List DH × List Nat):=fun i=>match i with | 4=>some ([⟨[7],[],[7]⟩,⟨[7],[],[7]⟩,⟨[7],[],[7]⟩,⟨[7],[],[7]⟩,⟨[7],[],[7]⟩,⟨[7],[],[7]⟩,⟨[7],[],[7]⟩,⟨[7],[],[7]⟩,⟨[7],[],[7]⟩,⟨[],[7],[]⟩,⟨[],[],[]⟩],[7]) | _=>none
theorem Ev:D92 4=some ([⟨[7],[],[7]⟩,⟨[7],[],[7]⟩,⟨[7],[],[7]⟩,⟨[7],[],[7]⟩,⟨[7],[],[7]⟩,⟨[7],[],[7]⟩,⟨[7],[],[7]⟩,⟨[7],[],[7]⟩,⟨[7],[],[7]⟩,⟨[],[7],[]⟩,⟨[],[],[]⟩],[7]):=rfl
theorem aeW (q:Int) (hp:((LM N V I U)∧0≤q∧q.toNat < N.length∧(∀ o ∈ N,o.n < 9223372036854775808)∧(∀ r ∈ U,r.at_ < 9223372036854775808))∧(∀ o ∈ N,(o.op==24 || o.op==25)=true→0≤o.n∧o.n.toNat < N.length)) :∃ r,wk r (aS (iq N V I U q))∧∀ A,ak (env 62 36028865746829555 D92 [(112,Gf),(118,N_)] [] A) hN (5) f92 [(wv N V I U ao aj au),J q]=some r:=by
 obtain⟨Gj,hj⟩:=hp;have dO:=Gj.1;have h0:=Gj.2.1;have aR:=Gj.2.2.1;have kz:IntKind.i64.wrap (q+1)=q+1:=wrap_i64 (by omega) (by omega);have Gk:=BV N V I U ao aj au q Gj;have aw:=aD (d:=bD) aR;have nG:N.getD q.toNat bD ∈ N:=List.mem_of_getElem? aw;simp only[iq];have hjx:=hj _ nG;generalize N.getD q.toNat bD=x at *;cases h1:(x.op==24) <;> cases h2:(x.op==25)
 ·simp only[BL];apply bu
  ·intro A;simp only[ak,ai,f92];simp only[go_sem,Ev,aw,h0,h1,h2];try rfl
  ·simp[WK,aS,ax]
 all_goals
  simp only[h1,h2,forall_const,BL] at hjx;obtain⟨hj0,hj1⟩:=hjx;have dh:=aD (d:=bD) hj1;simp only[BL];generalize N.getD x.n.toNat bD=t at *;have bN:=oL N V I U ao aj au q x.op x.d x.a x.b t.n ⟨dO,h0,aR⟩;cases h3:(t.op==24)
  ·simp only[BL];first
   | (cases h4:(x.n==q+1)
      ·simp only[BL];apply bu
       ·intro A;simp only[ak,ai,f92];simp only[go_sem,Ev,aw,dh,h0,hj0,h1,h2,h3,h4,kz];try rfl
       ·simp[WK,aS,ax]
      ·simp only[BL];apply bu
       ·intro A;simp only[ak,ai,f92];simp only[go_sem,Ev,aw,dh,h0,hj0,h1,h2,h3,h4,kz,Gk];try rfl
       ·simp[WK,aS,ax,cf])
   | (
      apply bu
      ·intro A;simp only[ak,ai,f92];simp only[go_sem,Ev,aw,dh,h0,hj0,h1,h2,h3];try rfl
      ·simp[WK,aS,ax])
  ·simp only[BL];apply bu
   ·intro A;simp only[ak,ai,f92];simp only[go_sem,Ev,aw,dh,h0,hj0,h1,h2,h3,bN];try rfl
   ·simp[WK,aS,ax]
noncomputable def c92:=bk (α:=(List bp) × (List Int) × (List ByteArray) × (List aP) × (List (List aB)) × (List Bool) × (List Int) × Int) (fun (N,V,I,U,ao,aj,au,q)=>((LM N V I U)∧0≤q∧q.toNat < N.length∧(∀ o ∈ N,o.n < 9223372036854775808)∧(∀ r ∈ U,r.at_ < 9223372036854775808))∧(∀ o ∈ N,(o.op==24 || o.op==25)=true→0≤o.n∧o.n.toNat < N.length)) (fun (N,V,I,U,ao,aj,au,q)=>[(wv N V I U ao aj au),J q]) (fun (N,V,I,U,ao,aj,au,q)=>aS (iq N V I U q))
theorem YJ (q:Int) (hp:((LM N V I U)∧0≤q∧q.toNat < N.length∧(∀ o ∈ N,o.n < 9223372036854775808)∧(∀ r ∈ U,r.at_ < 9223372036854775808))∧(∀ o ∈ N,(o.op==24 || o.op==25)=true→0≤o.n∧o.n.toNat < N.length)):c92 [(wv N V I U ao aj au),J q]=some (aS (iq N V I U q)):=aJ (fun X Y hp bZ h'=>by
 obtain⟨N,V,I,U,ao,aj,au,q⟩:=X;obtain⟨c7,bJ,bL,bK,gm,eW,jj,q'⟩:=Y;simp only[cJ] at h';obtain⟨rfl,rfl,rfl,rfl,rfl,rfl,rfl,rfl⟩:=h';rfl) (N,V,I,U,ao,aj,au,q) hp
theorem aeY:cI 92 c92:=aE h92 rfl rfl fun (N,V,I,U,ao,aj,au,q) hp=>let ⟨_,hw,hr⟩:=aeW N V I U ao aj au q hp;(rc h92 hr (fun i=>match i with | 4=>[0,1,3,7,15,0,32,127,255,0,1023] | _=>[]) rfl rfl rfl (by kernel_rfl) ⟨x9,Gh,trivial⟩ trivial).eK hw
end Go.Proofs.Tryz
end
