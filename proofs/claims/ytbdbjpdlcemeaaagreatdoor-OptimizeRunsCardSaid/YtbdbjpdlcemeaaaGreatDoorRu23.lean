/- A part of a proof. -/
import Derived.Test.YtbdbjpdlcemeaaaGreatDoorRu07
import Derived.Test.YtbdbjpdlcemeaaaGreatDoorRu14
import Derived.Test.YtbdbjpdlcemeaaaGreatDoorRu15
import Derived.Test.YtbdbjpdlcemeaaaGreatDoorRu21
set_option linter.unusedSimpArgs false
set_option linter.unusedVariables false
section
set_option maxHeartbeats 4000000
set_option maxRecDepth 20000
namespace Go.Proofs.Tryz
open Go Go.Abs
def Rδ (x y:aB):Prop:=y=x∨(x=z0∧y.sort=3)
def Rα (f g:List aB):Prop:=∀ r,Rδ (f.getD r z0) (g.getD r z0)
def If (f:List aB):Prop:=∀ r,((f.getD r z0)=z0∨(f.getD r z0).sort=1∨(f.getD r z0).sort=2∨(f.getD r z0).sort=3)∧
 ((f.getD r z0).sort=2→0≤(f.getD r z0).n∧(f.getD (f.getD r z0).n.toNat z0).sort ≠ 1∧(f.getD (f.getD r z0).n.toNat z0).sort ≠ 2)
theorem auw (f:List aB):Rα f f:=fun _=> .inl rfl
theorem au5 (d:Int):kr d z0=z0:=rfl
theorem atj {d:Int} {x:aB} (h:x.sort ≠ 2∨x.n ≠ d):kr d x=x:=by
 unfold kr;rw[if_neg];simp only[Bool.and_eq_true,beq_iff_eq,not_and];intro h1 h2;rcases h with h | h
 ·exact h h1
 ·exact h h2
theorem auy {d:Int} {x:aB} (h:(kr d x).sort=2):kr d x=x∧x.n ≠ d:=by
 by_cases hc:x.sort=2∧x.n=d
 ·unfold kr at h;rw[if_pos (by simpa using hc)] at h;cases h
 ·have:=atj (d:=d) (x:=x) (by omega);rw[this] at h;exact⟨this,fun e=>hc ⟨h,e⟩⟩
theorem getD_map {α:Type} (g:α→α) (d:α) (hd:g d=d) (l:List α) (r:Nat):(l.map g).getD r d=g (l.getD r d):=by
 rw[List.getD_eq_getElem?_getD,List.getD_eq_getElem?_getD,List.getElem?_map];cases l[r]? with
 | none=>exact hd.symm
 | some x=>rfl
theorem atk {α:Type} (l:List α) (i r:Nat) (x d:α) (hi:i < l.length):(l.set i x).getD r d=if r=i then x else l.getD r d:=by
 rw[List.getD_eq_getElem?_getD,List.getD_eq_getElem?_getD,List.getElem?_set];by_cases h:i=r
 ·subst h;simp[hi]
 ·rw[if_neg h,if_neg (Ne.symm h)]
section
variable {N:List bp} {V:List Int} {I:List ByteArray} {U:List aP} {q:Int}
theorem atl {f:List aB} (hf:f.length=8) (hd:(N.getD q.toNat bD).d.toNat < 8) (r:Nat):(eY N V U f q).getD r z0 =
 if (a7 (N.getD q.toNat bD).op).d=true then (if r=(N.getD q.toNat bD).d.toNat then ze N V U f q else kr (N.getD q.toNat bD).d (f.getD r z0)) else f.getD r z0:=by
 rw[EN];split
 ·rw[atk _ _ _ _ _ (by rw[List.length_map];omega),getD_map _ _ (au5 _)]
 ·rfl
theorem atg (s n d a:Int):(s=1∧EO s n d a=⟨s,n⟩)∨(s=2∧n=d∧EO s n d a=z0)∨(s=2∧n ≠ d∧EO s n d a=⟨s,n⟩)∨(s ≠ 1∧s ≠ 2∧a=d∧EO s n d a=⟨s,n⟩)∨(s ≠ 1∧s ≠ 2∧a ≠ d∧EO s n d a=⟨2,a⟩):=by
 unfold EO;by_cases h1:s=1
 ·simp[h1]
 ·by_cases h2:s=2
  ·by_cases h3:n=d <;> simp[h2,h3,z0]
  ·by_cases h3:a=d <;> simp[h1,h2,h3]
theorem atq (f:List aB):(N.getD q.toNat bD).op=3→ze N V U f q=EO (f.getD (N.getD q.toNat bD).a.toNat z0).sort (f.getD (N.getD q.toNat bD).a.toNat z0).n (N.getD q.toNat bD).d (N.getD q.toNat bD).a:=fun h=>by
 unfold ze;dsimp only;rw[h,UP];rfl
theorem aty {f:List aB} (h:(N.getD q.toNat bD).op ≠ 3):(ze N V U f q=z0∨(ze N V U f q).sort=1∨(ze N V U f q).sort=3)∧∀ g,ze N V U g q=ze N V U f q:=by
 unfold ze;dsimp only;have h3:((N.getD q.toNat bD).op==3)=false:=by simpa using h
 rw[h3];simp only[if_false,Bool.false_eq_true];refine⟨?_,by first | exact fun _=>rfl | exact fun _=>trivial⟩;repeat' split
 all_goals first | exact .inl rfl | exact .inr (.inl rfl) | exact .inr (.inr rfl)
theorem awM {f:List aB} (hf:f.length=8) (h:If f) (hd:0≤(N.getD q.toNat bD).d∧(N.getD q.toNat bD).d.toNat < 8) (ha:0≤(N.getD q.toNat bD).a):If (eY N V U f q):=by
 intro r;have hg:=atl (N:=N) (V:=V) (U:=U) (q:=q) hf hd.2;by_cases hD:(a7 (N.getD q.toNat bD).op).d=true;rotate_left
 ·have e:∀ r,(eY N V U f q).getD r z0=f.getD r z0:=fun r=>by rw[hg,if_neg hD]
  simp only[e];exact h r
 have e:∀ r,(eY N V U f q).getD r z0=if r=(N.getD q.toNat bD).d.toNat then ze N V U f q else kr (N.getD q.toNat bD).d (f.getD r z0):=fun r=>by rw[hg,if_pos hD]
 have ho:=atq (V:=V) (U:=U) (N:=N) (q:=q) f;have hx:=aty (V:=V) (U:=U) (N:=N) (q:=q) (f:=f);simp only[e];generalize ze N V U f q=res at *;generalize N.getD q.toNat bD=o at *;have cA:∀ n:Int,0≤n→n ≠ o.d→(f.getD n.toNat z0).sort ≠ 1→(f.getD n.toNat z0).sort ≠ 2→(if n.toNat=o.d.toNat then res else kr o.d (f.getD n.toNat z0)).sort ≠ 1∧(if n.toNat=o.d.toNat then res else kr o.d (f.getD n.toNat z0)).sort ≠ 2:=fun n h0 d_ h1 h2=>by
  rw[if_neg (by omega),atj (.inl h2)];exact⟨h1,h2⟩
 split
 ·by_cases h3:o.op=3
  ·have hI:=h o.a.toNat;have kA:=cA o.a ha;rw[ho h3] at kA ⊢;generalize haq:f.getD o.a.toNat z0=a at *;rcases atg a.sort a.n o.d o.a with ⟨h1,e1⟩|⟨h1,h2,e1⟩|⟨h1,h2,e1⟩|⟨h1,h2,h4,e1⟩|⟨h1,h2,h4,e1⟩
   ·rw[e1];exact⟨.inr (.inl h1),fun h=>by simp only at h;omega⟩
   ·rw[e1];exact⟨.inl rfl,fun h=>by cases h⟩
   ·rw[e1];obtain⟨g0,g1,g2⟩:=hI.2 h1;refine⟨.inr (.inr (.inl h1)),fun _=>⟨g0,?_⟩⟩;have:=cA a.n g0 h2 g1 g2;rw[ho h3,e1] at this;exact this
   ·rw[e1];refine⟨?_,fun h=>absurd h h2⟩;rcases hI.1 with g | g | g | g
    ·exact .inl g
    ·exact absurd g h1
    ·exact absurd g h2
    ·exact .inr (.inr (.inr g))
   ·rw[e1];refine⟨.inr (.inr (.inl rfl)),fun _=>⟨ha,?_⟩⟩;have:=kA h4 h1 h2;rw[e1] at this;subst haq;exact this
  ·obtain⟨h1,_⟩:=hx h3;refine⟨?_,fun h2=>?_⟩
   ·rcases h1 with g | g | g
    ·exact .inl g
    ·exact .inr (.inl g)
    ·exact .inr (.inr (.inr g))
   ·rcases h1 with g | g | g
    ·rw[g] at h2;cases h2
    ·omega
    ·omega
 ·have hI:=h r;generalize KU:f.getD r z0=x at *;refine⟨?_,fun h2=>?_⟩
  ·by_cases hc:x.sort ≠ 2∨x.n ≠ o.d
   ·rw[atj hc];exact hI.1
   ·left;unfold kr;rw[if_pos (by simp;omega)];rfl
  ·obtain⟨e1,e2⟩:=auy h2;rw[e1] at h2 ⊢;obtain⟨g0,g1,g2⟩:=hI.2 h2;exact⟨g0,cA x.n g0 e2 g1 g2⟩
theorem atr {a b:List aB} (ha:a.length=8) (hb:b.length=8) (r:Nat):(js a b).getD r z0=uV (a.getD r z0) (b.getD r z0):=by
 unfold js;rw[List.getD_eq_getElem?_getD,List.getD_eq_getElem?_getD,List.getD_eq_getElem?_getD,List.getElem?_zipWith];rcases Nat.lt_or_ge r 8 with h | h
 ·rw[List.getElem?_eq_getElem (by omega),List.getElem?_eq_getElem (by omega)];rfl
 ·rw[List.getElem?_eq_none (by omega),List.getElem?_eq_none (by omega)];rfl
theorem atc (x y:aB):(x=y∧uV x y=x)∨(x ≠ y∧uV x y=z0):=by
 unfold uV;by_cases h:x=y
 ·subst h;left;simp
 ·right;refine⟨h,?_⟩;rw[if_pos];cases x;cases y;simp only[aB.mk.injEq] at h;simp only[Bool.not_eq_true',Bool.and_eq_false_iff,beq_eq_false_iff_ne];omega
theorem au6 {a b:List aB} (ha:a.length=8) (hb:b.length=8) (h:If a):If (js a b):=by
 intro r;simp only[atr ha hb];rcases atc (a.getD r z0) (b.getD r z0) with ⟨_,e⟩|⟨_,e⟩
 ·rw[e];refine⟨(h r).1,fun h2=>?_⟩;obtain⟨g0,g1,g2⟩:=(h r).2 h2;refine⟨g0,?_⟩;rcases atc (a.getD (a.getD r z0).n.toNat z0) (b.getD (a.getD r z0).n.toNat z0) with ⟨_,e⟩|⟨_,e⟩
  ·rw[e];exact⟨g1,g2⟩
  ·rw[e];exact⟨by decide,by decide⟩
 ·rw[e];exact⟨.inl rfl,fun h2=>by cases h2⟩
theorem au7 {a b a' b':List aB} (ha:a.length=8) (hb:b.length=8) (ha':a'.length=8) (hb':b'.length=8) (h1:Rα a a') (h2:Rα b b'):Rα (js a b) (js a' b'):=by
 intro r;rw[atr ha hb,atr ha' hb'];have r1:=h1 r;have r2:=h2 r;generalize a.getD r z0=x at *;generalize b.getD r z0=y at *;generalize a'.getD r z0=x' at *;generalize b'.getD r z0=y' at *;rcases atc x y with ⟨e,f⟩|⟨e,f⟩ <;> rcases atc x' y' with ⟨e',f'⟩|⟨e',f'⟩ <;> rw[f,f']
 ·exact r1
 ·rcases r1 with rfl|⟨rfl,g⟩
  ·rcases r2 with rfl|⟨rfl,g2⟩
   ·exact absurd e e'
   ·exact .inl e.symm
  ·exact .inl rfl
 ·rcases r1 with rfl|⟨rfl,g⟩
  ·rcases r2 with rfl|⟨rfl,g2⟩
   ·exact absurd e' e
   ·rw[← e'] at g2;exact .inr ⟨rfl,g2⟩
  ·exact .inr ⟨rfl,g⟩
 ·exact .inl rfl
theorem awN {f g:List aB} (hf:f.length=8) (hg:g.length=8) (h:Rα f g) (hd:(N.getD q.toNat bD).d.toNat < 8):Rα (eY N V U f q) (eY N V U g q):=by
 intro r;rw[atl hf hd,atl hg hd];split;rotate_left
 ·exact h r
 split;rotate_left
 ·rcases h r with e|⟨e,e2⟩
  ·rw[e];exact .inl rfl
  ·rw[e,atj (.inl (by omega:(g.getD r z0).sort ≠ 2))];exact .inr ⟨rfl,e2⟩
 by_cases h3:(N.getD q.toNat bD).op=3
 ·rw[atq f h3,atq g h3];have hr:=h (N.getD q.toNat bD).a.toNat;generalize f.getD (N.getD q.toNat bD).a.toNat z0=x at *;generalize g.getD (N.getD q.toNat bD).a.toNat z0=y at *;generalize N.getD q.toNat bD=o at *;rcases hr with rfl|⟨rfl,e⟩
  ·exact .inl rfl
  ·by_cases hda:o.a=o.d
   ·right;refine⟨?_,?_⟩
    ·unfold EO;simp[z0,hda]
    ·unfold EO;simp[e,hda]
   ·left;unfold EO;simp[z0,e,hda]
 ·rw[(aty (V:=V) (U:=U) (f:=f) h3).2 g];exact .inl rfl
end
theorem atW {α:Type} (l:List α) (i r:Nat) (x d:α) (h:r ≠ i):(l.set i x).getD r d=l.getD r d:=by
 rw[List.getD_eq_getElem?_getD,List.getD_eq_getElem?_getD,List.getElem?_set,if_neg (Ne.symm h)]
structure Rβ (n:Nat) (s s':List (List aB) × List Bool):Prop where
 sh:Shape n s
 sh':Shape n s'
 re:s'.2=s.2
 rl:∀ k,k < n→Rα (s.1.getD k []) (s'.1.getD k [])
def Rε (n:Nat) (s:List (List aB) × List Bool):Prop:=∀ k,k < n→If (s.1.getD k [])
theorem ath {n:Nat} {s:List (List aB) × List Bool} (h:Shape n s) (out:List aB) (k:Int) (hk:k.toNat < n) (j:Nat):(lF out s k).1.getD j []=if j=k.toNat then (if s.2.getD k.toNat false=true then js (s.1.getD k.toNat []) out else out) else s.1.getD j []:=by
 unfold lF;have hl:k.toNat < s.1.length:=by rw[h.1];exact hk
 split
 ·rename_i e;rw[atk _ _ _ _ _ hl]
 ·rename_i e;rw[atk _ _ _ _ _ hl]
theorem auf {n:Nat} {s s':List (List aB) × List Bool} (h:Rβ n s s') {out ali:List aB} (ho:out.length=8) (my:ali.length=8) (hr:Rα out ali) (k:Int) (hk:k.toNat < n):Rβ n (lF out s k) (lF ali s' k):=by
 refine⟨oq h.sh ho k hk,oq h.sh' my k hk,?_,fun j hj=>?_⟩
 ·unfold lF;rw[h.re];split <;> rfl
 ·rw[ath h.sh out k hk,ath h.sh' ali k hk,h.re];split
  ·split
   ·exact au7 (h.sh.get hk) ho (h.sh'.get hk) my (h.rl _ hk) hr
   ·exact hr
  ·exact h.rl j hj
theorem aug {n:Nat} {s:List (List aB) × List Bool} (h:Shape n s) (hi:Rε n s) {out:List aB} (ho:out.length=8) (hI:If out) (k:Int) (hk:k.toNat < n):Rε n (lF out s k):=fun j hj=>by
 rw[ath h out k hk];split
 ·split
  ·exact au6 (h.get hk) ho (hi _ hk)
  ·exact hI
 ·exact hi j hj
theorem atD {n:Nat} {out ali:List aB} (ho:out.length=8) (my:ali.length=8) (hr:Rα out ali):∀ (l:List Int) (s s':List (List aB) × List Bool),Rβ n s s'→(∀ k ∈ l,k.toNat < n)→Rβ n (l.foldl (lF out) s) (l.foldl (lF ali) s')
 | [],_,_,h,_=>h
 | k::l,s,s',h,hl=>atD ho my hr l _ _ (auf h ho my hr k (hl k (by simp))) fun k hk=>hl k (by simp[hk])
theorem atX {n:Nat} {out:List aB} (ho:out.length=8) (hI:If out):∀ (l:List Int) (s:List (List aB) × List Bool),Shape n s→Rε n s→(∀ k ∈ l,k.toNat < n)→Rε n (l.foldl (lF out) s)
 | [],_,_,h,_=>h
 | k::l,s,hs,h,hl=>atX ho hI l _ (oq hs ho k (hl k (by simp))) (aug hs h ho hI k (hl k (by simp))) fun k hk=>hl k (by simp[hk])
theorem ats {n:Nat} {out:List aB} (ho:out.length=8) (q:Nat):∀ (l:List Int) (s:List (List aB) × List Bool),Shape n s→(∀ k ∈ l,(q:Int) < k∧k.toNat < n)→(l.foldl (lF out) s).1.getD q []=s.1.getD q []∧(l.foldl (lF out) s).2.getD q false=s.2.getD q false
 | [],_,_,_=>⟨rfl,rfl⟩
 | k::l,s,hs,hl=>by
   have hk:=hl k (by simp);obtain⟨h1,h2⟩:=ats ho q l _ (oq hs ho k hk.2) fun k hk=>hl k (by simp[hk])
   rw[List.foldl_cons,h1,h2,ath hs out k hk.2,if_neg (by omega)];refine⟨rfl,?_⟩;unfold lF;split
   ·rfl
   ·rw[atW _ _ _ _ _ (by omega)]
section
variable {N:List bp} {V:List Int} {I:List ByteArray} {U bK:List aP} {li ls:Nat}
theorem atS (hg:Good N li ls bK) {i:Nat} (hi:i < N.length):(0≤(N.getD i bD).d∧(N.getD i bD).d.toNat < 8)∧(0≤(N.getD i bD).a∧(N.getD i bD).a.toNat < 8)∧(0≤(N.getD i bD).b∧(N.getD i bD).b.toNat < 8):=by
 have:=jr (hg.right i hi);rw[Int.toNat_natCast] at this;exact⟨this.d,this.a,this.b⟩
theorem at5 (hg:Good N li ls bK) {i:Nat} (hi:i < N.length) {s:List (List aB) × List Bool} (hs:Shape N.length s) (h:Rε N.length s):Rε N.length (qc N V U i s):=by
 unfold qc;split
 ·have hd:=atS hg hi;exact atX (qd (hs.get hi)) (awM (hs.get hi) (h i hi) (by rw[Int.toNat_natCast];exact hd.1) (by rw[Int.toNat_natCast];exact hd.2.1.1)) _ _ hs h fun k hk=>(rZ hg i hi k hk).2
 ·exact h
theorem atY (hg:Good N li ls bK):∀ (m i:Nat) (s:List (List aB) × List Bool),i+m≤N.length→Shape N.length s→Rε N.length s→Rε N.length (dT N V U m i s)
 | 0,_,_,_,_,h=>h
 | m+1,i,s,hi,hs,h=>by
   rw[dT];exact atY hg m (i+1) _ (by omega) (B7 hg (by omega) hs) (at5 hg (by omega) hs h)
theorem auh (n:Nat):Rε n (gz n):=fun k hk r=>by
 have:((gz n).1.getD k []).getD r z0=z0:=by
  simp only[gz,List.getD_eq_getElem?_getD,List.getElem?_replicate];rw[if_pos hk];simp only[Option.getD_some,List.getElem?_replicate];split <;> rfl
 rw[this];exact⟨.inl rfl,fun h=>by cases h⟩
theorem atH (hg:Good N li ls bK) (q:Nat):∀ (m i:Nat) (s:List (List aB) × List Bool),q≤i→i+m≤N.length→Shape N.length s→(dT N V U m i s).1.getD q []=s.1.getD q []∧(dT N V U m i s).2.getD q false=s.2.getD q false
 | 0,_,_,_,_,_=>⟨rfl,rfl⟩
 | m+1,i,s,hq,hi,hs=>by
   rw[dT];obtain⟨h1,h2⟩:=atH hg q m (i+1) _ (by omega) (by omega) (B7 (V:=V) (U:=U) hg (show i < N.length by omega) hs);rw[h1,h2];unfold qc;split
   ·exact ats (qd (hs.get (by omega))) q _ _ hs fun k hk=>by have:=rZ hg i (by omega) k hk;omega
   ·exact⟨rfl,rfl⟩
theorem ati:∀ (m m' i:Nat) (s:List (List aB) × List Bool),dT N V U (m+m') i s=dT N V U m' (i+m) (dT N V U m i s)
 | 0,m',i,s=>by rw[Nat.zero_add];rfl
 | m+1,m',i,s=>by
   rw[show m+1+m'=(m+m')+1 by omega,dT,dT,ati m m' (i+1),show i+1+m=i+(m+1) by omega]
theorem auz (hg:Good N li ls bK):Rε N.length (bz N V U):=atY hg _ _ _ (by omega) (GB _) (auh _)
theorem atz {c7:List bp}:∀ (m i:Nat) (s:List (List aB) × List Bool),(∀ j,i≤j→j < i+m→c7.getD j bD=N.getD j bD)→dT c7 V U m i s=dT N V U m i s
 | 0,_,_,_=>rfl
 | m+1,i,s,h=>by
   have hi:=h i (Nat.le_refl _) (by omega);rw[dT,dT];have:qc c7 V U i s=qc N V U i s:=by
    unfold qc eG eY;simp only[Int.toNat_natCast,hi]
   rw[this];exact atz m (i+1) _ fun j h1 h2=>h j (by omega) (by omega)
theorem atZ {c7:List bp} {ls':Nat} {r1 r2:List aP} (hl:c7.length=N.length) (hg:Good N li ls r1) (wg:Good c7 li ls' r2):∀ (m i:Nat) (s s':List (List aB) × List Bool),i+m≤N.length→(∀ j,i≤j→j < i+m→c7.getD j bD=N.getD j bD)→Rβ N.length s s'→Rβ N.length (dT N V U m i s) (dT c7 V U m i s')
 | 0,_,_,_,_,_,h=>h
 | m+1,i,s,s',hi,h,hs=>by
   have Ul:i < N.length:=by omega
   have he:=h i (Nat.le_refl _) (by omega);rw[dT,dT];refine atZ hl hg wg m (i+1) _ _ (by omega) (fun j h1 h2=>h j (by omega) (by omega)) ?_;unfold qc;rw[hs.re];have hn:eG c7 i=eG N i:=by unfold eG;simp only[Int.toNat_natCast,he]
   have hb:∀ g,eY c7 V U g i=eY N V U g i:=fun g=>by unfold eY;simp only[Int.toNat_natCast,he]
   rw[hn,hb];split
   ·exact atD (qd (hs.sh.get Ul)) (qd (hs.sh'.get Ul)) (awN (hs.sh.get Ul) (hs.sh'.get Ul) (hs.rl i Ul) (by rw[Int.toNat_natCast];exact (atS hg Ul).1.2)) _ _ _ hs fun k hk=>(rZ hg i Ul k hk).2
   ·exact hs
def ato (f:List aB) (o:bp):bp:=⟨o.op,o.d,if ((a7 o.op).a&&(f.getD o.a.toNat z0).sort==2)=true then (f.getD o.a.toNat z0).n else o.a,if ((a7 o.op).b&&(f.getD o.b.toNat z0).sort==2)=true then (f.getD o.b.toNat z0).n else o.b,o.n⟩
theorem awP:(a7 3).a=true∧(a7 3).b=false:=⟨rfl,rfl⟩
theorem aui {c7:List bp} {q:Nat} {f:List aB} (hf:f.length=8) (hI:If f) (hd:(N.getD q bD).d.toNat < 8) (he:c7.getD q bD=ato f (N.getD q bD)):Rα (eY N V U f q) (eY c7 V U f q):=by
 intro r;have hn:(q:Int).toNat=q:=Int.toNat_natCast q;rw[atl hf (by rw[hn];exact hd),atl hf (by rw[hn,he];exact hd)];have Gm:(c7.getD q bD).op=(N.getD q bD).op:=by rw[he];rfl
 have hdd:(c7.getD q bD).d=(N.getD q bD).d:=by rw[he];rfl
 have hnn:(c7.getD q bD).n=(N.getD q bD).n:=by rw[he];rfl
 rw[hn,Gm,hdd];split;rotate_left
 ·exact .inl rfl
 split;rotate_left
 ·exact .inl rfl
 by_cases h3:(N.getD q bD).op=3
 ·rw[atq f (by rw[hn];exact h3),atq f (by rw[hn,Gm];exact h3),hn,hdd];have ha:(c7.getD q bD).a=if (f.getD (N.getD q bD).a.toNat z0).sort=2 then (f.getD (N.getD q bD).a.toNat z0).n else (N.getD q bD).a:=by
   rw[he];unfold ato;rw[h3,awP.1];simp
  rw[ha];have hx:=hI (N.getD q bD).a.toNat;generalize N.getD q bD=o at *;by_cases h2:(f.getD o.a.toNat z0).sort=2
  ·rw[if_pos h2];obtain⟨g0,g1,g2⟩:=hx.2 h2;have hy:=(hI (f.getD o.a.toNat z0).n.toNat).1;generalize f.getD o.a.toNat z0=x at *;generalize f.getD x.n.toNat z0=y at *;rcases atg x.sort x.n o.d o.a with ⟨h,_⟩|⟨_,h,e1⟩|⟨_,h,e1⟩|⟨_,h,_⟩|⟨_,h,_⟩
   ·omega
   ·rw[e1];rcases atg y.sort y.n o.d x.n with ⟨k,_⟩|⟨k,_⟩|⟨k,_⟩|⟨_,_,k,e2⟩|⟨_,_,k,e2⟩
    ·omega
    ·omega
    ·omega
    ·rw[e2];rcases hy with k | k | k | k
     ·rw[k];exact .inl rfl
     ·omega
     ·omega
     ·exact .inr ⟨rfl,k⟩
    ·omega
   ·rw[e1];rcases atg y.sort y.n o.d x.n with ⟨k,_⟩|⟨k,_⟩|⟨k,_⟩|⟨_,_,k,_⟩|⟨_,_,k,e2⟩
    ·omega
    ·omega
    ·omega
    ·omega
    ·rw[e2,h2];exact .inl rfl
   ·omega
   ·omega
  ·rw[if_neg h2];exact .inl rfl
 ·left;unfold ze;dsimp only;have e3:((N.getD q bD).op==3)=false:=by simpa using h3
  simp only[hn,Gm,hnn,e3,if_false,Bool.false_eq_true]
def dAt (f:List aB) (o:bp):Nat:=(if ((a7 o.op).a&&(f.getD o.a.toNat z0).sort==2)=true then 1 else 0)+(if ((a7 o.op).b&&(f.getD o.b.toNat z0).sort==2)=true then 1 else 0)
def dIx (N:List bp) (s:List (List aB) × List Bool) (i:Nat):Nat:=if s.2.getD i false=true then dAt (s.1.getD i []) (N.getD i bD) else 0
def atw (N:List bp) (s:List (List aB) × List Bool):Nat:=((List.range N.length).map (dIx N s)).sum
theorem auj {f g:Nat→Nat}:∀ (l:List Nat),(∀ i ∈ l,f i≤g i)→(l.map f).sum≤(l.map g).sum
 | [],_=>Nat.le_refl _
 | x::r,h=>by
   have h1:=h x (by simp);have h2:=auj r fun i hi=>h i (by simp[hi])
   simp only[List.map_cons,List.sum_cons];omega
theorem auk {f g:Nat→Nat} {k:Nat}:∀ (l:List Nat),k ∈ l→f k < g k→(∀ i ∈ l,f i≤g i)→(l.map f).sum < (l.map g).sum
 | [],hk,_,_=>by cases hk
 | x::r,hk,aR,h=>by
   have h1:=h x (by simp);simp only[List.map_cons,List.sum_cons];rcases List.mem_cons.1 hk with rfl | hk
   ·have h2:=auj r fun i hi=>h i (by simp[hi])
    omega
   ·have h2:=auk r hk aR fun i hi=>h i (by simp[hi])
    omega
theorem at0 (N:List bp) (s:List (List aB) × List Bool):atw N s≤2 * N.length:=by
 have h:∀ l:List Nat,(l.map (dIx N s)).sum≤2 * l.length:=fun l=>by
  induction l with
  | nil=>simp
  | cons x r ih=>
    simp only[List.map_cons,List.sum_cons,List.length_cons];have:dIx N s x≤2:=by
     unfold dIx dAt;repeat' split
     all_goals omega
    omega
 have:=h (List.range N.length)
 rwa [List.length_range] at this
theorem au8 {f g:List aB} (h:Rα f g) (o:bp):dAt g o≤dAt f o:=by
 have hs:∀ r,(g.getD r z0).sort=2→(f.getD r z0).sort=2:=fun r h2=>by
  rcases h r with e|⟨_,e⟩
  ·rw[← e];exact h2
  ·omega
 have ha:=hs o.a.toNat;have hb:=hs o.b.toNat;unfold dAt;by_cases h1:(g.getD o.a.toNat z0).sort=2 <;> by_cases h2:(g.getD o.b.toNat z0).sort=2 <;> cases (a7 o.op).a <;> cases (a7 o.op).b <;> simp_all <;> split <;> omega
theorem atI {f g:List aB} (h:Rα f g) (hI:If f) (o:bp) (hc:((a7 o.op).a&&(f.getD o.a.toNat z0).sort==2)=true∨((a7 o.op).b&&(f.getD o.b.toNat z0).sort==2)=true):dAt g (ato f o) < dAt f o:=by
 have hs:∀ r,(g.getD r z0).sort=2→(f.getD r z0).sort=2:=fun r h2=>by
  rcases h r with e|⟨_,e⟩
  ·rw[← e];exact h2
  ·omega
 have part:∀ (q:Bool) (a:Int),(if (q&&(g.getD (if (q&&(f.getD a.toNat z0).sort==2)=true then (f.getD a.toNat z0).n else a).toNat z0).sort==2)=true then 1 else 0)≤(if (q&&(f.getD a.toNat z0).sort==2)=true then 1 else 0)∧
  ((q&&(f.getD a.toNat z0).sort==2)=true→(if (q&&(g.getD (if (q&&(f.getD a.toNat z0).sort==2)=true then (f.getD a.toNat z0).n else a).toNat z0).sort==2)=true then 1 else 0)=0):=fun q a=>by
  by_cases hq:(q&&(f.getD a.toNat z0).sort==2)=true
  ·rw[if_pos hq];have h2:(f.getD a.toNat z0).sort=2:=by simp at hq;exact hq.2
   have d_:¬ ((g.getD (f.getD a.toNat z0).n.toNat z0).sort=2):=fun e=>((hI a.toNat).2 h2).2.2 (hs _ e)
   have:¬ ((q&&(g.getD (f.getD a.toNat z0).n.toNat z0).sort==2)=true):=by simp;exact fun _=>d_
   rw[if_neg this];exact⟨Nat.zero_le _,fun _=>rfl⟩
  ·rw[if_neg hq];have:¬ ((q&&(g.getD a.toNat z0).sort==2)=true):=fun e=>hq (by simp at e ⊢;exact⟨e.1,hs _ e.2⟩)
   rw[if_neg this,if_neg hq];exact⟨Nat.le_refl _,fun e=>absurd e hq⟩
 have pa:=part (a7 o.op).a o.a;have pb:=part (a7 o.op).b o.b;unfold dAt ato;dsimp only;rcases hc with hc | hc
 ·have h1:=pa.2 hc;have h2:(if ((a7 o.op).a&&(f.getD o.a.toNat z0).sort==2)=true then 1 else 0)=1:=if_pos hc;have h3:=pb.1;omega
 ·have h1:=pb.2 hc;have h2:(if ((a7 o.op).b&&(f.getD o.b.toNat z0).sort==2)=true then 1 else 0)=1:=if_pos hc;have h3:=pa.1;omega
theorem auA {q:Nat} {r1 r2:List aP} {ls':Nat} (hg:Good N li ls r1) (hq:q < N.length)
 (hr:(bz N V U).2.getD q false=true) (wg:Good (N.set q (ato ((bz N V U).1.getD q []) (N.getD q bD))) li ls' r2)
 (hc:((a7 (N.getD q bD).op).a&&(((bz N V U).1.getD q []).getD (N.getD q bD).a.toNat z0).sort==2)=true∨((a7 (N.getD q bD).op).b&&(((bz N V U).1.getD q []).getD (N.getD q bD).b.toNat z0).sort==2)=true) :
 atw (N.set q (ato ((bz N V U).1.getD q []) (N.getD q bD))) (bz (N.set q (ato ((bz N V U).1.getD q []) (N.getD q bD))) V U) < atw N (bz N V U):=by
 obtain⟨f,hf⟩:∃ f,(bz N V U).1.getD q []=f:=⟨_,rfl⟩
 rw[hf] at hc wg ⊢;obtain⟨c7,my⟩:∃ l,N.set q (ato f (N.getD q bD))=l:=⟨_,rfl⟩
 rw[my] at wg ⊢;have hl:c7.length=N.length:=by rw[← my,List.length_set]
 have aci:∀ j,j ≠ q→c7.getD j bD=N.getD j bD:=fun j hj=>by rw[← my,atW _ _ _ _ _ hj]
 have hat:c7.getD q bD=ato f (N.getD q bD):=by rw[← my,atk _ _ _ _ _ hq,if_pos rfl]
 have ke:=np (V:=V) (U:=U) hg;have hI:=auz (V:=V) (U:=U) hg;obtain⟨s,hs⟩:∃ s,dT N V U q 0 (gz N.length)=s:=⟨_,rfl⟩
 have hsS:Shape N.length s:=by rw[← hs];exact yl hg _ _ _ (by omega) (GB _)
 have e1:bz N V U=dT N V U (N.length - (q+1)) (q+1) (qc N V U q s):=by
  unfold bz;rw[show N.length=q+(N.length - (q+1)+1) by omega,ati,Nat.zero_add,← show N.length=q+(N.length - (q+1)+1) by omega,hs,dT]
 have e2:bz c7 V U=dT c7 V U (N.length - (q+1)) (q+1) (qc c7 V U q s):=by
  unfold bz;rw[hl,show N.length=q+(N.length - (q+1)+1) by omega,ati,Nat.zero_add,← show N.length=q+(N.length - (q+1)+1) by omega,atz (N:=N) q 0 _ (fun j h1 h2=>aci j (by omega)),hs,dT]
 have ajO:=atH (V:=V) (U:=U) hg q (N.length - (q+1)) (q+1) _ (by omega) (by omega) (B7 (V:=V) (U:=U) hg hq hsS);rw[← e1] at ajO;have aed:(qc N V U q s).1.getD q []=s.1.getD q []∧(qc N V U q s).2.getD q false=s.2.getD q false:=by
  unfold qc;split
  ·exact ats (qd (hsS.get hq)) q _ _ hsS fun k hk=>rZ hg q hq k hk
  ·exact⟨rfl,rfl⟩
 have hsf:s.1.getD q []=f:=by rw[← aed.1,← ajO.1,hf]
 have hIf:If f:=by rw[← hf];exact hI q hq
 have hrs:Rβ N.length (qc N V U q s) (qc c7 V U q s):=by
  have hn:eG c7 q=eG N q:=by unfold eG;simp only[Int.toNat_natCast,hat];rfl
  have h0:Rβ N.length s s:=⟨hsS,hsS,rfl,fun k _=>auw _⟩
  unfold qc;rw[hn];split
  ·refine atD (qd (hsS.get hq)) (qd (hsS.get hq)) ?_ _ _ _ h0 fun k hk=>(rZ hg q hq k hk).2
   rw[hsf];exact aui (by rw[← hsf];exact hsS.get hq) hIf (atS hg hq).1.2 hat
  ·exact h0
 have hR:Rβ N.length (bz N V U) (bz c7 V U):=by
  rw[e1,e2];exact atZ hl hg wg _ _ _ _ (by omega) (fun j h1 h2=>aci j (by omega)) hrs
 unfold atw;rw[hl];refine auk (k:=q) _ (List.mem_range.2 hq) ?_ fun i hi=>?_
 ·unfold dIx;rw[hR.re,if_pos hr,if_pos hr,hat,hf];have:=hR.rl q hq;rw[hf] at this;exact atI this hIf _ hc
 ·have Ul:=List.mem_range.1 hi;unfold dIx;rw[hR.re];split
  ·by_cases US:i=q
   ·subst US;rw[hat,hf];have:=hR.rl i Ul;rw[hf] at this;exact Nat.le_of_lt (atI this hIf _ hc)
   ·rw[aci i US];exact au8 (hR.rl i Ul) _
  ·exact Nat.le_refl _
end
def wOp (k:Int):Nat:=if (4≤k∧k≤22)∨k=25 then 2 else 1
def slk (n:Nat) (o:bp):Nat:=if o.op=24∨o.op=25 then n - o.n.toNat else 0
def cost (n:Nat) (o:bp):Nat:=63 * wOp o.op+slk n o
def Phi (c:aL):Nat:=(c.ops.map (cost c.ops.length)).sum+(c.ints.length+c.strs.length)
theorem atb {α:Type} {p:Prop} [Decidable p] {x y:Option α} {c:α} (h:(if p then x else y)=some c):(p∧x=some c)∨(¬p∧y=some c):=by
 by_cases hp:p
 ·exact .inl ⟨hp,by rwa [if_pos hp] at h⟩
 ·exact .inr ⟨hp,by rwa [if_neg hp] at h⟩
theorem atm {α:Type} (f:α→Nat) (d y:α):∀ (l:List α) (i:Nat),i < l.length→((l.set i y).map f).sum+f (l.getD i d)=(l.map f).sum+f y
 | [],i,h=>by simp at h
 | x::r,0,_=>by simp[List.getD];omega
 | x::r,i+1,h=>by
   have:=atm f d y r i (by simpa using h);simp only[List.set_cons_succ,List.map_cons,List.sum_cons,List.getD_cons_succ];omega
theorem att {α:Type} (f:α→Nat) (d:α):∀ (l:List α) (i:Nat),i < l.length→((l.eraseIdx i).map f).sum+f (l.getD i d)=(l.map f).sum
 | [],i,h=>by simp at h
 | x::r,0,_=>by simp[List.getD];omega
 | x::r,i+1,h=>by
   have:=att f d r i (by simpa using h);simp only[List.eraseIdx_cons_succ,List.map_cons,List.sum_cons,List.getD_cons_succ];omega
theorem atE {α:Type} {f g:α→Nat}:∀ (l:List α),(∀ x ∈ l,f x≤g x)→(l.map f).sum≤(l.map g).sum
 | [],_=>Nat.le_refl _
 | x::r,h=>by
   have h1:=h x (by simp);have h2:=atE r fun i hi=>h i (by simp[hi])
   simp only[List.map_cons,List.sum_cons];omega
theorem aul (k:Int):1≤wOp k∧wOp k≤2:=by unfold wOp;split <;> omega
theorem aum (n:Nat) (o:bp):slk n o≤n:=by unfold slk;split <;> omega
section
variable {N:List bp} {V:List Int} {I:List ByteArray} {U:List aP} {q:Int} {c:aL}
def atT (c d:aL):Prop:=Phi d < Phi c∨(Phi d=Phi c∧atw d.ops (bz d.ops d.ints d.U) < atw c.ops (bz c.ops c.ints c.U))
theorem atf {bJ:List Int} {bK:List aP} {y:bp} (hq:q.toNat < N.length) (hi:bJ.length≤V.length+1) (hc:cost N.length y+1 < cost N.length (N.getD q.toNat bD)) (h:some (⟨N.set q.toNat y,bJ,I,bK⟩:aL)=some c):atT ⟨N,V,I,U⟩ c:=by
 injection h with h;subst h
 left;have:=atm (cost N.length) bD y N q.toNat hq;unfold Phi;simp only[List.length_set];omega
theorem atK (hn:N.length≤60) (hq:q.toNat < N.length) {d n:Int} (hw:wOp (N.getD q.toNat bD).op=2) (h:cQ N V I U q d n=some c):atT ⟨N,V,I,U⟩ c:=by
 have hc:∀ k:Int,cost N.length ⟨1,d,0,0,k⟩ + 1 < cost N.length (N.getD q.toNat bD):=fun k=>by
  have e:cost N.length ⟨1,d,0,0,k⟩=63:=by simp[cost,wOp,slk]
  rw[e];unfold cost;omega
 unfold cQ at h;split at h
 ·split at h
  ·cases h
  ·exact atf hq (by simp) (hc _) h
 ·exact atf hq (by omega) (hc _) h
theorem atu (hq:q.toNat < N.length) (h0:0≤q) (h:some (cf N V I U q)=some c):atT ⟨N,V,I,U⟩ c:=by
 injection h with h;subst h
 left;have hl:(N.eraseIdx q.toNat).length=N.length - 1:=List.length_eraseIdx_of_lt hq;have h1:=att (cost N.length) bD N q.toNat hq;have h2:((N.eraseIdx q.toNat).map ((cost (N.length - 1)) ∘ me q)).sum≤((N.eraseIdx q.toNat).map (cost N.length)).sum:=atE _ fun o _=>by
  have:cost (N.length - 1) (me q o)≤cost N.length o:=by
   unfold me;split
   ·rename_i hj;simp only[Bool.and_eq_true,decide_eq_true_eq] at hj;unfold cost slk;dsimp only;split <;> omega
   ·unfold cost slk;split <;> omega
  exact this
 have h3:63≤cost N.length (N.getD q.toNat bD):=by unfold cost;have:=(aul (N.getD q.toNat bD).op).1;omega
 unfold Phi cf;simp only[List.length_map,hl,List.map_map];omega
theorem atA {p i t:Int} {bJ:List Int} {bL:List ByteArray} (hp:p=1∨p=2) (hl:bJ.length+bL.length < V.length+I.length) (h:some (⟨N.map (fg p i t),bJ,bL,U⟩:aL)=some c):atT ⟨N,V,I,U⟩ c:=by
 injection h with h;subst h
 left;have h1:((N.map (fg p i t)).map (cost N.length)).sum≤(N.map (cost N.length)).sum:=by
  rw[List.map_map];refine atE _ fun o _=>?_
  have:cost N.length (fg p i t o)≤cost N.length o:=by
   unfold fg;split
   ·rename_i ho;have ho:o.op=p:=by simpa using ho
    have e:∀ n:Int,cost N.length ⟨o.op,o.d,o.a,o.b,n⟩=63:=fun n=>by unfold cost slk wOp;rw[if_neg (by dsimp only;omega),if_neg (by dsimp only;omega)]
    have e0:cost N.length o=63:=e o.n;repeat' split
    all_goals first
     | (rw[e,e0];exact Nat.le_refl _)
     | exact Nat.le_refl _
   ·exact Nat.le_refl _
  exact this
 unfold Phi;simp only[List.length_map];omega
theorem at7 (de:gO N V I U) (oV:aU N V I U=true) (hn:N.length≤60) {rule:Int} (h0:0≤q) (hq:q < bF N V I rule) (awR:bx c=true) (h:gW N V I U (bz N V U).1 (bz N V U).2 (cz N) rule q=some c):atT ⟨N,V,I,U⟩ c:=by
 have hw:=nr de oV;have hg:=dQ oV;have hqo:rule ≠ 8→q.toNat < N.length:=fun h8=>by unfold bF at hq;rw[if_neg h8] at hq;omega
 have c3:∀ d a:Int,cost N.length ⟨3,d,a,0,0⟩=63:=fun d a=>by simp[cost,wOp,slk]
 have w2:∀ k:Int,4≤k→k≤22→wOp k=2:=fun k h1 h2=>by unfold wOp;rw[if_pos (.inl ⟨h1,h2⟩)]
 unfold gW at h;split at h
 ·rename_i hr;have aR:=hqo (by simp at hr;omega);unfold nB at h;dsimp only at h;split at h;rotate_left
  ·cases h
  split at h
  ·cases h
  have hp:∀ a b k,wOp (N.getD q.toNat bD).op=2→oh N V I U q (N.getD q.toNat bD) a b k=some c→atT ⟨N,V,I,U⟩ c:=fun a b k eX hk=>by
   unfold oh at hk;split at hk
   ·split at hk
    ·exact atK hn aR eX hk
    ·cases hk
   ·cases hk
  split at h
  ·rename_i dU;split at h
   ·refine atf aR (by omega) ?_ h;have e25:(N.getD q.toNat bD).op=25:=by simpa using dU
    have hs:=aum N.length ⟨24,0,0,0,if (!((cP (bz N V U).1 q (N.getD q.toNat bD).a).n==0))=true then q+1 else (N.getD q.toNat bD).n⟩;unfold cost;rw[e25];have e1:wOp 24=1:=rfl;have e2:wOp 25=2:=rfl;dsimp only;rw[e1,e2];omega
   ·cases h
  split at h
  ·rename_i h1;simp only[beq_iff_eq] at h1;exact hp _ _ _ (w2 _ (by omega) (by omega)) h
  split at h
  ·rename_i h1;simp only[beq_iff_eq] at h1;exact hp _ _ _ (w2 _ (by omega) (by omega)) h
  split at h
  ·rename_i h1;simp only[beq_iff_eq] at h1;exact hp _ _ _ (w2 _ (by omega) (by omega)) h
  split at h
  ·rename_i h1;simp only[List.any_cons,List.any_nil,Bool.or_false,Bool.or_eq_true,Bool.and_eq_true,decide_eq_true_eq,beq_iff_eq] at h1;exact hp _ _ _ (w2 _ (by omega) (by omega)) h
  ·cases h
 split at h
 ·rename_i _ hr;have aR:=hqo (by simp at hr;omega);have u1:∀ k:Int,(dW k 1 2).any (fun x=>1==x)=(a7 k).a:=fun k=>by unfold dW;cases (a7 k).a <;> cases (a7 k).b <;> rfl
  have u2:∀ k:Int,(dW k 1 2).any (fun x=>2==x)=(a7 k).b:=fun k=>by unfold dW;cases (a7 k).a <;> cases (a7 k).b <;> rfl
  unfold ir at h;dsimp only at h;split at h;rotate_left
  ·cases h
  rename_i hre;split at h;rotate_left
  ·cases h
  rename_i mj;rw[u1,u2] at h mj;injection h with h;subst h
  have hf:∀ r:Int,cP (bz N V U).1 q r=((bz N V U).1.getD q.toNat []).getD r.toNat z0:=fun r=>rfl
  have he:(⟨(N.getD q.toNat bD).op,(N.getD q.toNat bD).d,if ((a7 (N.getD q.toNat bD).op).a&&(cP (bz N V U).1 q (N.getD q.toNat bD).a).sort==2)=true then (cP (bz N V U).1 q (N.getD q.toNat bD).a).n else (N.getD q.toNat bD).a,
   if ((a7 (N.getD q.toNat bD).op).b&&(cP (bz N V U).1 q (N.getD q.toNat bD).b).sort==2)=true then (cP (bz N V U).1 q (N.getD q.toNat bD).b).n else (N.getD q.toNat bD).b,(N.getD q.toNat bD).n⟩:bp)=ato ((bz N V U).1.getD q.toNat []) (N.getD q.toNat bD):=rfl
  rw[he] at awR ⊢;right;refine⟨?_,?_⟩
  ·have:=atm (cost N.length) bD (ato ((bz N V U).1.getD q.toNat []) (N.getD q.toNat bD)) N q.toNat aR;have e:cost N.length (ato ((bz N V U).1.getD q.toNat []) (N.getD q.toNat bD))=cost N.length (N.getD q.toNat bD):=rfl;unfold Phi;simp only[List.length_set];omega
  ·refine auA (q:=q.toNat) hg aR hre (dQ awR) ?_;simp only[Bool.or_eq_true] at mj;exact mj
 split at h
 ·rename_i _ _ hr;have aR:=hqo (by simp at hr;omega);unfold nD at h;dsimp only at h;split at h
  ·cases h
  ·exact atu aR h0 h
 split at h
 ·rename_i _ _ _ hr;have aR:=hqo (by simp at hr;omega);unfold iq at h;dsimp only at h;split at h
  ·rename_i hj;have ve:(N.getD q.toNat bD).op=24∨(N.getD q.toNat bD).op=25:=by simpa using hj
   split at h
   ·rename_i ht;have sG:(N.getD (N.getD q.toNat bD).n.toNat bD).op=24:=by simpa using ht
    have f1:=jr (hg.right _ aR);rw[Int.toNat_natCast] at f1;have k1:=s5 f1.fit ve;have hln:(N.getD q.toNat bD).n.toNat < N.length:=by omega
    have f2:=jr (hg.right _ hln);rw[Int.toNat_natCast] at f2;have k2:=s5 f2.fit (.inl sG);injection h with h;subst h
    left;have:=atm (cost N.length) bD ⟨(N.getD q.toNat bD).op,(N.getD q.toNat bD).d,(N.getD q.toNat bD).a,(N.getD q.toNat bD).b,(N.getD (N.getD q.toNat bD).n.toNat bD).n⟩ N q.toNat aR;have e:cost N.length ⟨(N.getD q.toNat bD).op,(N.getD q.toNat bD).d,(N.getD q.toNat bD).a,(N.getD q.toNat bD).b,(N.getD (N.getD q.toNat bD).n.toNat bD).n⟩ < cost N.length (N.getD q.toNat bD):=by
     unfold cost slk;dsimp only;rw[if_pos ve,if_pos ve];omega
    unfold Phi;simp only[List.length_set];omega
   ·split at h
    ·exact atu aR h0 h
    ·cases h
  ·cases h
 split at h
 ·rename_i _ _ _ _ hr;have aR:=hqo (by simp at hr;omega);unfold km at h;split at h
  ·cases h
  ·exact atu aR h0 h
 split at h
 ·rename_i _ _ _ _ _ hr;have aR:=hqo (by simp at hr;omega);unfold kn at h;dsimp only at h;split at h
  ·rename_i bU;have e19:(N.getD q.toNat bD).op=19:=by simpa using bU
   split at h
   ·cases h
   ·refine atf aR (by omega) ?_ h;rw[c3];unfold cost;have:=w2 (N.getD q.toNat bD).op (by omega) (by omega);omega
  ·cases h
 split at h
 ·rename_i _ _ _ _ _ _ hr;have aR:=hqo (by simp at hr;omega);unfold kp at h;dsimp only at h;rcases atb h with ⟨-,h⟩|⟨-,h⟩
  rotate_left
  ·cases h
  rcases atb h with ⟨-,h⟩|⟨h4,h⟩
  ·cases h
  rcases atb h with ⟨-,h⟩|⟨mg,h⟩
  ·cases h
  simp only[decide_eq_true_eq] at h4 mg;have eX:=w2 (N.getD q.toNat bD).op (by omega) (by omega);have hm:∀ a,g_ N V I U q (N.getD q.toNat bD).d a=some c→atT ⟨N,V,I,U⟩ c:=fun a hk=>by
   unfold g_ at hk;refine atf aR (by omega) ?_ hk;rw[c3];unfold cost;omega
  have hp:=fun hk=>atK (d:=(N.getD q.toNat bD).d) (n:=0) (V:=V) (I:=I) (U:=U) (c:=c) hn aR eX hk
  iterate 6
   rcases atb h with ⟨-,h⟩|⟨-,h⟩
   ·exact hm _ h
  iterate 3
   rcases atb h with ⟨-,h⟩|⟨-,h⟩
   ·exact hp h
  rcases atb h with ⟨-,h⟩|⟨-,h⟩
  ·rcases atb h with ⟨-,h⟩|⟨-,h⟩
   ·exact hp h
   ·cases h
  ·cases h
 split at h
 ·rename_i _ _ _ _ _ _ _ hr;have h8:rule=8:=by simpa using hr
  unfold bF at hq;rw[if_pos h8] at hq;unfold nC at h;split at h
  ·rename_i hi;simp only[decide_eq_true_eq] at hi;split at h
   ·cases h
   ·refine atA (.inl rfl) ?_ h;rw[List.length_eraseIdx_of_lt (by omega)];omega
  ·rename_i hi;simp only[decide_eq_true_eq] at hi;split at h
   ·cases h
   ·refine atA (.inr rfl) ?_ h;rw[List.length_eraseIdx_of_lt (by omega)];omega
 ·cases h
end
theorem au_ {c:aL} (hn:c.ops.length≤60):Phi c≤186 * 60+(c.ints.length+c.strs.length):=by
 have h:∀ l:List bp,(l.map (cost c.ops.length)).sum≤186 * l.length:=fun l=>by
  induction l with
  | nil=>simp
  | cons x r ih=>
    simp only[List.map_cons,List.sum_cons,List.length_cons];have h1:=aul x.op;have h2:=aum c.ops.length x;have:cost c.ops.length x≤186:=by unfold cost;omega
    omega
 have:=h c.ops;unfold Phi;omega
theorem atL:∀ (k:Nat) (c:aL),gO c.ops c.ints c.strs c.U→bx c=true→c.ops.length≤60→121 * Phi c+atw c.ops (bz c.ops c.ints c.U) < k→∃ out,runN k c=some out
 | 0,_,_,_,_,h=>by omega
 | k+1,c,de,oV,hn,h=>by
   rw[runN];cases hs:s_ c with
   | nil=>exact⟨_,rfl⟩
   | cons y r=>
     have hm:y ∈ s_ c:=by rw[hs];simp
     have ha:=yt hm;have hxa:=nr de oV;have hap:=OQ hxa de ha;have fL:=atp ha;have hk:=ym fL.2.2.2;have Tx:=at7 de oV hn fL.2.1 fL.2.2.1 hap.2 fL.2.2.2;have rV:=at0 y.2.2.ops (bz y.2.2.ops y.2.2.ints y.2.2.U);have hn':y.2.2.ops.length≤60:=Nat.le_trans hk.o hn;have aR:121 * Phi y.2.2+atw y.2.2.ops (bz y.2.2.ops y.2.2.ints y.2.2.U) < k:=by
      rcases Tx with h1|⟨h1,h2⟩
      ·have:Phi y.2.2 < Phi c:=h1;omega
      ·have e1:Phi y.2.2=Phi c:=h1;have e2:atw y.2.2.ops (bz y.2.2.ops y.2.2.ints y.2.2.U) < atw c.ops (bz c.ops c.ints c.U):=h2;omega
     obtain⟨out,ho⟩:=atL k y.2.2 hap.1 hap.2 hn' aR;exact⟨_,by dsimp only;rw[ho];rfl⟩
theorem atM {c:aL} (de:gO c.ops c.ints c.strs c.U) (oV:bx c=true) (hn:c.ops.length≤60):∃ out,runN 2000000 c=some out:=by
 have h1:=au_ hn;have h2:=at0 c.ops (bz c.ops c.ints c.U);have h3:=yn (show aU c.ops c.ints c.strs c.U=true from oV);exact atL 2000000 c de oV hn (by omega)
end Go.Proofs.Tryz
end
