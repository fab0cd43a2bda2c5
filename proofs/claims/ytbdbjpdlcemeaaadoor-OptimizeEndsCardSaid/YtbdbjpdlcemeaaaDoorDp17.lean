/- Part of the proof of one statement of this seat: an abstract machine for the program, its contracts, and the statement (no condition of our own). -/
import Derived.Test.YtbdbjpdlcemeaaaDoorDp07
import Derived.Test.YtbdbjpdlcemeaaaDoorDp14
import Derived.Test.YtbdbjpdlcemeaaaDoorDp15
import Derived.Test.YtbdbjpdlcemeaaaDoorDp16
set_option linter.unusedSimpArgs false
set_option linter.unusedVariables false
section
set_option maxHeartbeats 4000000
set_option maxRecDepth 20000
namespace Go.Proofs.Tryd
open Go Go.Abs
def Rf (x y:XFact):Prop:=y=x∨(x=z0∧y.sort=3)
def RL (f g:List XFact):Prop:=∀ r,Rf (f.getD r z0) (g.getD r z0)
def If (f:List XFact):Prop:=∀ r,((f.getD r z0)=z0∨(f.getD r z0).sort=1∨(f.getD r z0).sort=2∨(f.getD r z0).sort=3)∧
 ((f.getD r z0).sort=2→0≤(f.getD r z0).n∧(f.getD (f.getD r z0).n.toNat z0).sort ≠ 1∧(f.getD (f.getD r z0).n.toNat z0).sort ≠ 2)
theorem rl_refl (f:List XFact):RL f f:=fun _=> .inl rfl
theorem clr_z0 (d:Int):clrF d z0=z0:=rfl
theorem clr_keep {d:Int} {x:XFact} (h:x.sort ≠ 2∨x.n ≠ d):clrF d x=x:=by
 unfold clrF;rw[if_neg];simp only[Bool.and_eq_true,beq_iff_eq,not_and];intro h1 h2;rcases h with h | h
 ·exact h h1
 ·exact h h2
theorem clr_two {d:Int} {x:XFact} (h:(clrF d x).sort=2):clrF d x=x∧x.n ≠ d:=by
 by_cases hc:x.sort=2∧x.n=d
 ·unfold clrF at h;rw[if_pos (by simpa using hc)] at h;cases h
 ·have:=clr_keep (d:=d) (x:=x) (by omega);rw[this] at h;exact⟨this,fun e=>hc ⟨h,e⟩⟩
theorem getD_map {α:Type} (g:α→α) (d:α) (hd:g d=d) (l:List α) (r:Nat):(l.map g).getD r d=g (l.getD r d):=by
 rw[List.getD_eq_getElem?_getD,List.getD_eq_getElem?_getD,List.getElem?_map];cases l[r]? with
 | none=>exact hd.symm
 | some x=>rfl
theorem getD_set {α:Type} (l:List α) (i r:Nat) (x d:α) (hi:i < l.length):(l.set i x).getD r d=if r=i then x else l.getD r d:=by
 rw[List.getD_eq_getElem?_getD,List.getD_eq_getElem?_getD,List.getElem?_set];by_cases h:i=r
 ·subst h;simp[hi]
 ·rw[if_neg h,if_neg (Ne.symm h)]
section
variable {ops:List XOp} {ints:List Int} {strs:List ByteArray} {rels:List XRel} {q:Int}
theorem beh_get {f:List XFact} (hf:f.length=8) (hd:(ops.getD q.toNat op0).d.toNat < 8) (r:Nat):(behindF ops ints rels f q).getD r z0 =
 if (formF (ops.getD q.toNat op0).op).d=true then (if r=(ops.getD q.toNat op0).d.toNat then resF ops ints rels f q else clrF (ops.getD q.toNat op0).d (f.getD r z0)) else f.getD r z0:=by
 rw[behind_r];split
 ·rw[getD_set _ _ _ _ _ (by rw[List.length_map];omega),getD_map _ _ (clr_z0 _)]
 ·rfl
theorem mov_cases (s n d a:Int):(s=1∧movR s n d a=⟨s,n⟩)∨(s=2∧n=d∧movR s n d a=z0)∨(s=2∧n ≠ d∧movR s n d a=⟨s,n⟩)∨(s ≠ 1∧s ≠ 2∧a=d∧movR s n d a=⟨s,n⟩)∨(s ≠ 1∧s ≠ 2∧a ≠ d∧movR s n d a=⟨2,a⟩):=by
 unfold movR;by_cases h1:s=1
 ·simp[h1]
 ·by_cases h2:s=2
  ·by_cases h3:n=d <;> simp[h2,h3,z0]
  ·by_cases h3:a=d <;> simp[h1,h2,h3]
theorem res_op (f:List XFact):(ops.getD q.toNat op0).op=3→resF ops ints rels f q=movR (f.getD (ops.getD q.toNat op0).a.toNat z0).sort (f.getD (ops.getD q.toNat op0).a.toNat z0).n (ops.getD q.toNat op0).d (ops.getD q.toNat op0).a:=fun h=>by
 unfold resF;dsimp only;rw[h,mov_r];rfl
theorem res_other {f:List XFact} (h:(ops.getD q.toNat op0).op ≠ 3):(resF ops ints rels f q=z0∨(resF ops ints rels f q).sort=1∨(resF ops ints rels f q).sort=3)∧∀ g,resF ops ints rels g q=resF ops ints rels f q:=by
 unfold resF;dsimp only;have h3:((ops.getD q.toNat op0).op==3)=false:=by simpa using h
 rw[h3];simp only[if_false,Bool.false_eq_true];refine⟨?_,by first | exact fun _=>rfl | exact fun _=>trivial⟩;repeat' split
 all_goals first | exact .inl rfl | exact .inr (.inl rfl) | exact .inr (.inr rfl)
theorem beh_I {f:List XFact} (hf:f.length=8) (h:If f) (hd:0≤(ops.getD q.toNat op0).d∧(ops.getD q.toNat op0).d.toNat < 8) (ha:0≤(ops.getD q.toNat op0).a):If (behindF ops ints rels f q):=by
 intro r;have hg:=beh_get (ops:=ops) (ints:=ints) (rels:=rels) (q:=q) hf hd.2;by_cases hD:(formF (ops.getD q.toNat op0).op).d=true;rotate_left
 ·have e:∀ r,(behindF ops ints rels f q).getD r z0=f.getD r z0:=fun r=>by rw[hg,if_neg hD]
  simp only[e];exact h r
 have e:∀ r,(behindF ops ints rels f q).getD r z0=if r=(ops.getD q.toNat op0).d.toNat then resF ops ints rels f q else clrF (ops.getD q.toNat op0).d (f.getD r z0):=fun r=>by rw[hg,if_pos hD]
 have ho:=res_op (ints:=ints) (rels:=rels) (ops:=ops) (q:=q) f;have hx:=res_other (ints:=ints) (rels:=rels) (ops:=ops) (q:=q) (f:=f);simp only[e];generalize resF ops ints rels f q=res at *;generalize ops.getD q.toNat op0=o at *;have keep:∀ n:Int,0≤n→n ≠ o.d→(f.getD n.toNat z0).sort ≠ 1→(f.getD n.toNat z0).sort ≠ 2→(if n.toNat=o.d.toNat then res else clrF o.d (f.getD n.toNat z0)).sort ≠ 1∧(if n.toNat=o.d.toNat then res else clrF o.d (f.getD n.toNat z0)).sort ≠ 2:=fun n h0 hne h1 h2=>by
  rw[if_neg (by omega),clr_keep (.inl h2)];exact⟨h1,h2⟩
 split
 ·by_cases h3:o.op=3
  ·have hI:=h o.a.toNat;have kA:=keep o.a ha;rw[ho h3] at kA ⊢;generalize haq:f.getD o.a.toNat z0=a at *;rcases mov_cases a.sort a.n o.d o.a with ⟨h1,e1⟩ | ⟨h1,h2,e1⟩ | ⟨h1,h2,e1⟩ | ⟨h1,h2,h4,e1⟩ | ⟨h1,h2,h4,e1⟩
   ·rw[e1];exact⟨.inr (.inl h1),fun h=>by simp only at h;omega⟩
   ·rw[e1];exact⟨.inl rfl,fun h=>by cases h⟩
   ·rw[e1];obtain⟨g0,g1,g2⟩:=hI.2 h1;refine⟨.inr (.inr (.inl h1)),fun _=>⟨g0,?_⟩⟩;have:=keep a.n g0 h2 g1 g2;rw[ho h3,e1] at this;exact this
   ·rw[e1];refine⟨?_,fun h=>absurd h h2⟩;rcases hI.1 with g | g | g | g
    ·exact .inl g
    ·exact absurd g h1
    ·exact absurd g h2
    ·exact .inr (.inr (.inr g))
   ·rw[e1];refine⟨.inr (.inr (.inl rfl)),fun _=>⟨ha,?_⟩⟩;have:=kA h4 h1 h2;rw[e1] at this;subst haq;exact this
  ·obtain⟨h1,_⟩:=hx h3;refine⟨?_,fun h2=>?_⟩
   ·rcases h1 with g | g | g
    ·exact .inl g
    ·exact .inr (.inl g)
    ·exact .inr (.inr (.inr g))
   ·rcases h1 with g | g | g
    ·rw[g] at h2;cases h2
    ·omega
    ·omega
 ·have hI:=h r;generalize hfr:f.getD r z0=x at *;refine⟨?_,fun h2=>?_⟩
  ·by_cases hc:x.sort ≠ 2∨x.n ≠ o.d
   ·rw[clr_keep hc];exact hI.1
   ·left;unfold clrF;rw[if_pos (by simp;omega)];rfl
  ·obtain⟨e1,e2⟩:=clr_two h2;rw[e1] at h2 ⊢;obtain⟨g0,g1,g2⟩:=hI.2 h2;exact⟨g0,keep x.n g0 e2 g1 g2⟩
theorem join_get {a b:List XFact} (ha:a.length=8) (hb:b.length=8) (r:Nat):(joinF a b).getD r z0=join1 (a.getD r z0) (b.getD r z0):=by
 unfold joinF;rw[List.getD_eq_getElem?_getD,List.getD_eq_getElem?_getD,List.getD_eq_getElem?_getD,List.getElem?_zipWith];rcases Nat.lt_or_ge r 8 with h | h
 ·rw[List.getElem?_eq_getElem (by omega),List.getElem?_eq_getElem (by omega)];rfl
 ·rw[List.getElem?_eq_none (by omega),List.getElem?_eq_none (by omega)];rfl
theorem join1_cases (x y:XFact):(x=y∧join1 x y=x)∨(x ≠ y∧join1 x y=z0):=by
 unfold join1;by_cases h:x=y
 ·subst h;left;simp
 ·right;refine⟨h,?_⟩;rw[if_pos];cases x;cases y;simp only[XFact.mk.injEq] at h;simp only[Bool.not_eq_true',Bool.and_eq_false_iff,beq_eq_false_iff_ne];omega
theorem join_I {a b:List XFact} (ha:a.length=8) (hb:b.length=8) (h:If a):If (joinF a b):=by
 intro r;simp only[join_get ha hb];rcases join1_cases (a.getD r z0) (b.getD r z0) with ⟨_,e⟩ | ⟨_,e⟩
 ·rw[e];refine⟨(h r).1,fun h2=>?_⟩;obtain⟨g0,g1,g2⟩:=(h r).2 h2;refine⟨g0,?_⟩;rcases join1_cases (a.getD (a.getD r z0).n.toNat z0) (b.getD (a.getD r z0).n.toNat z0) with ⟨_,e⟩ | ⟨_,e⟩
  ·rw[e];exact⟨g1,g2⟩
  ·rw[e];exact⟨by decide,by decide⟩
 ·rw[e];exact⟨.inl rfl,fun h2=>by cases h2⟩
theorem join_R {a b a' b':List XFact} (ha:a.length=8) (hb:b.length=8) (ha':a'.length=8) (hb':b'.length=8) (h1:RL a a') (h2:RL b b'):RL (joinF a b) (joinF a' b'):=by
 intro r;rw[join_get ha hb,join_get ha' hb'];have r1:=h1 r;have r2:=h2 r;generalize a.getD r z0=x at *;generalize b.getD r z0=y at *;generalize a'.getD r z0=x' at *;generalize b'.getD r z0=y' at *;rcases join1_cases x y with ⟨e,f⟩ | ⟨e,f⟩ <;> rcases join1_cases x' y' with ⟨e',f'⟩ | ⟨e',f'⟩ <;> rw[f,f']
 ·exact r1
 ·rcases r1 with rfl | ⟨rfl,g⟩
  ·rcases r2 with rfl | ⟨rfl,g2⟩
   ·exact absurd e e'
   ·exact .inl e.symm
  ·exact .inl rfl
 ·rcases r1 with rfl | ⟨rfl,g⟩
  ·rcases r2 with rfl | ⟨rfl,g2⟩
   ·exact absurd e' e
   ·rw[← e'] at g2;exact .inr ⟨rfl,g2⟩
  ·exact .inr ⟨rfl,g⟩
 ·exact .inl rfl
theorem beh_R {f g:List XFact} (hf:f.length=8) (hg:g.length=8) (h:RL f g) (hd:(ops.getD q.toNat op0).d.toNat < 8):RL (behindF ops ints rels f q) (behindF ops ints rels g q):=by
 intro r;rw[beh_get hf hd,beh_get hg hd];split;rotate_left
 ·exact h r
 split;rotate_left
 ·rcases h r with e | ⟨e,e2⟩
  ·rw[e];exact .inl rfl
  ·rw[e,clr_keep (.inl (by omega:(g.getD r z0).sort ≠ 2))];exact .inr ⟨rfl,e2⟩
 by_cases h3:(ops.getD q.toNat op0).op=3
 ·rw[res_op f h3,res_op g h3];have hr:=h (ops.getD q.toNat op0).a.toNat;generalize f.getD (ops.getD q.toNat op0).a.toNat z0=x at *;generalize g.getD (ops.getD q.toNat op0).a.toNat z0=y at *;generalize ops.getD q.toNat op0=o at *;rcases hr with rfl | ⟨rfl,e⟩
  ·exact .inl rfl
  ·by_cases hda:o.a=o.d
   ·right;refine⟨?_,?_⟩
    ·unfold movR;simp[z0,hda]
    ·unfold movR;simp[e,hda]
   ·left;unfold movR;simp[z0,e,hda]
 ·rw[(res_other (ints:=ints) (rels:=rels) (f:=f) h3).2 g];exact .inl rfl
end
theorem getD_ne {α:Type} (l:List α) (i r:Nat) (x d:α) (h:r ≠ i):(l.set i x).getD r d=l.getD r d:=by
 rw[List.getD_eq_getElem?_getD,List.getD_eq_getElem?_getD,List.getElem?_set,if_neg (Ne.symm h)]
structure RS (n:Nat) (s s':List (List XFact) × List Bool):Prop where
 sh:Shape n s
 sh':Shape n s'
 re:s'.2=s.2
 rl:∀ k,k < n→RL (s.1.getD k []) (s'.1.getD k [])
def SI (n:Nat) (s:List (List XFact) × List Bool):Prop:=∀ k,k < n→If (s.1.getD k [])
theorem step1_get {n:Nat} {s:List (List XFact) × List Bool} (h:Shape n s) (out:List XFact) (k:Int) (hk:k.toNat < n) (j:Nat):(step1 out s k).1.getD j []=if j=k.toNat then (if s.2.getD k.toNat false=true then joinF (s.1.getD k.toNat []) out else out) else s.1.getD j []:=by
 unfold step1;have hl:k.toNat < s.1.length:=by rw[h.1];exact hk
 split
 ·rename_i e;rw[getD_set _ _ _ _ _ hl]
 ·rename_i e;rw[getD_set _ _ _ _ _ hl]
theorem step1_RS {n:Nat} {s s':List (List XFact) × List Bool} (h:RS n s s') {out out':List XFact} (ho:out.length=8) (ho':out'.length=8) (hr:RL out out') (k:Int) (hk:k.toNat < n):RS n (step1 out s k) (step1 out' s' k):=by
 refine⟨shape_step1 h.sh ho k hk,shape_step1 h.sh' ho' k hk,?_,fun j hj=>?_⟩
 ·unfold step1;rw[h.re];split <;> rfl
 ·rw[step1_get h.sh out k hk,step1_get h.sh' out' k hk,h.re];split
  ·split
   ·exact join_R (h.sh.get hk) ho (h.sh'.get hk) ho' (h.rl _ hk) hr
   ·exact hr
  ·exact h.rl j hj
theorem step1_SI {n:Nat} {s:List (List XFact) × List Bool} (h:Shape n s) (hi:SI n s) {out:List XFact} (ho:out.length=8) (hI:If out) (k:Int) (hk:k.toNat < n):SI n (step1 out s k):=fun j hj=>by
 rw[step1_get h out k hk];split
 ·split
  ·exact join_I (h.get hk) ho (hi _ hk)
  ·exact hI
 ·exact hi j hj
theorem fold_RS {n:Nat} {out out':List XFact} (ho:out.length=8) (ho':out'.length=8) (hr:RL out out'):∀ (l:List Int) (s s':List (List XFact) × List Bool),RS n s s'→(∀ k ∈ l,k.toNat < n)→RS n (l.foldl (step1 out) s) (l.foldl (step1 out') s')
 | [],_,_,h,_=>h
 | k::l,s,s',h,hl=>fold_RS ho ho' hr l _ _ (step1_RS h ho ho' hr k (hl k (by simp))) fun k hk=>hl k (by simp[hk])
theorem fold_SI {n:Nat} {out:List XFact} (ho:out.length=8) (hI:If out):∀ (l:List Int) (s:List (List XFact) × List Bool),Shape n s→SI n s→(∀ k ∈ l,k.toNat < n)→SI n (l.foldl (step1 out) s)
 | [],_,_,h,_=>h
 | k::l,s,hs,h,hl=>fold_SI ho hI l _ (shape_step1 hs ho k (hl k (by simp))) (step1_SI hs h ho hI k (hl k (by simp))) fun k hk=>hl k (by simp[hk])
theorem fold_low {n:Nat} {out:List XFact} (ho:out.length=8) (q:Nat):∀ (l:List Int) (s:List (List XFact) × List Bool),Shape n s→(∀ k ∈ l,(q:Int) < k∧k.toNat < n)→(l.foldl (step1 out) s).1.getD q []=s.1.getD q []∧(l.foldl (step1 out) s).2.getD q false=s.2.getD q false
 | [],_,_,_=>⟨rfl,rfl⟩
 | k::l,s,hs,hl=>by
   have hk:=hl k (by simp);obtain⟨h1,h2⟩:=fold_low ho q l _ (shape_step1 hs ho k hk.2) fun k hk=>hl k (by simp[hk])
   rw[List.foldl_cons,h1,h2,step1_get hs out k hk.2,if_neg (by omega)];refine⟨rfl,?_⟩;unfold step1;split
   ·rfl
   ·rw[getD_ne _ _ _ _ _ (by omega)]
section
variable {ops:List XOp} {ints:List Int} {strs:List ByteArray} {rels rels':List XRel} {li ls:Nat}
theorem good_d (hg:Good ops li ls rels') {i:Nat} (hi:i < ops.length):(0≤(ops.getD i op0).d∧(ops.getD i op0).d.toNat < 8)∧(0≤(ops.getD i op0).a∧(ops.getD i op0).a.toNat < 8)∧(0≤(ops.getD i op0).b∧(ops.getD i op0).b.toNat < 8):=by
 have:=right_ok (hg.right i hi);rw[Int.toNat_natCast] at this;exact⟨this.d,this.a,this.b⟩
theorem stepAt_SI (hg:Good ops li ls rels') {i:Nat} (hi:i < ops.length) {s:List (List XFact) × List Bool} (hs:Shape ops.length s) (h:SI ops.length s):SI ops.length (stepAt ops ints rels i s):=by
 unfold stepAt;split
 ·have hd:=good_d hg hi;exact fold_SI (behind_len (hs.get hi)) (beh_I (hs.get hi) (h i hi) (by rw[Int.toNat_natCast];exact hd.1) (by rw[Int.toNat_natCast];exact hd.2.1.1)) _ _ hs h fun k hk=>(next_ok hg i hi k hk).2
 ·exact h
theorem flow_SI (hg:Good ops li ls rels'):∀ (m i:Nat) (s:List (List XFact) × List Bool),i+m≤ops.length→Shape ops.length s→SI ops.length s→SI ops.length (flowFrom ops ints rels m i s)
 | 0,_,_,_,_,h=>h
 | m+1,i,s,hi,hs,h=>by
   rw[flowFrom];exact flow_SI hg m (i+1) _ (by omega) (shape_stepAt hg (by omega) hs) (stepAt_SI hg (by omega) hs h)
theorem start_SI (n:Nat):SI n (start0 n):=fun k hk r=>by
 have:((start0 n).1.getD k []).getD r z0=z0:=by
  simp only[start0,List.getD_eq_getElem?_getD,List.getElem?_replicate];rw[if_pos hk];simp only[Option.getD_some,List.getElem?_replicate];split <;> rfl
 rw[this];exact⟨.inl rfl,fun h=>by cases h⟩
theorem flow_low (hg:Good ops li ls rels') (q:Nat):∀ (m i:Nat) (s:List (List XFact) × List Bool),q≤i→i+m≤ops.length→Shape ops.length s→(flowFrom ops ints rels m i s).1.getD q []=s.1.getD q []∧(flowFrom ops ints rels m i s).2.getD q false=s.2.getD q false
 | 0,_,_,_,_,_=>⟨rfl,rfl⟩
 | m+1,i,s,hq,hi,hs=>by
   rw[flowFrom];obtain⟨h1,h2⟩:=flow_low hg q m (i+1) _ (by omega) (by omega) (shape_stepAt (ints:=ints) (rels:=rels) hg (show i < ops.length by omega) hs);rw[h1,h2];unfold stepAt;split
   ·exact fold_low (behind_len (hs.get (by omega))) q _ _ hs fun k hk=>by have:=next_ok hg i (by omega) k hk;omega
   ·exact⟨rfl,rfl⟩
theorem flow_split:∀ (m m' i:Nat) (s:List (List XFact) × List Bool),flowFrom ops ints rels (m+m') i s=flowFrom ops ints rels m' (i+m) (flowFrom ops ints rels m i s)
 | 0,m',i,s=>by rw[Nat.zero_add];rfl
 | m+1,m',i,s=>by
   rw[show m+1+m'=(m+m')+1 by omega,flowFrom,flowFrom,flow_split m m' (i+1),show i+1+m=i+(m+1) by omega]
theorem work_SI (hg:Good ops li ls rels'):SI ops.length (workS ops ints rels):=flow_SI hg _ _ _ (by omega) (shape0 _) (start_SI _)
theorem flow_same {ops':List XOp}:∀ (m i:Nat) (s:List (List XFact) × List Bool),(∀ j,i≤j→j < i+m→ops'.getD j op0=ops.getD j op0)→flowFrom ops' ints rels m i s=flowFrom ops ints rels m i s
 | 0,_,_,_=>rfl
 | m+1,i,s,h=>by
   have hi:=h i (Nat.le_refl _) (by omega);rw[flowFrom,flowFrom];have:stepAt ops' ints rels i s=stepAt ops ints rels i s:=by
    unfold stepAt nextF behindF;simp only[Int.toNat_natCast,hi]
   rw[this];exact flow_same m (i+1) _ fun j h1 h2=>h j (by omega) (by omega)
theorem flow_RS {ops':List XOp} {ls':Nat} {r1 r2:List XRel} (hl:ops'.length=ops.length) (hg:Good ops li ls r1) (hg':Good ops' li ls' r2):∀ (m i:Nat) (s s':List (List XFact) × List Bool),i+m≤ops.length→(∀ j,i≤j→j < i+m→ops'.getD j op0=ops.getD j op0)→RS ops.length s s'→RS ops.length (flowFrom ops ints rels m i s) (flowFrom ops' ints rels m i s')
 | 0,_,_,_,_,_,h=>h
 | m+1,i,s,s',hi,h,hs=>by
   have hio:i < ops.length:=by omega
   have he:=h i (Nat.le_refl _) (by omega);rw[flowFrom,flowFrom];refine flow_RS hl hg hg' m (i+1) _ _ (by omega) (fun j h1 h2=>h j (by omega) (by omega)) ?_;unfold stepAt;rw[hs.re];have hn:nextF ops' i=nextF ops i:=by unfold nextF;simp only[Int.toNat_natCast,he]
   have hb:∀ g,behindF ops' ints rels g i=behindF ops ints rels g i:=fun g=>by unfold behindF;simp only[Int.toNat_natCast,he]
   rw[hn,hb];split
   ·exact fold_RS (behind_len (hs.sh.get hio)) (behind_len (hs.sh'.get hio)) (beh_R (hs.sh.get hio) (hs.sh'.get hio) (hs.rl i hio) (by rw[Int.toNat_natCast];exact (good_d hg hio).1.2)) _ _ _ hs fun k hk=>(next_ok hg i hio k hk).2
   ·exact hs
def cpOp (f:List XFact) (o:XOp):XOp:=⟨o.op,o.d,if ((formF o.op).a&&(f.getD o.a.toNat z0).sort==2)=true then (f.getD o.a.toNat z0).n else o.a,if ((formF o.op).b&&(f.getD o.b.toNat z0).sort==2)=true then (f.getD o.b.toNat z0).n else o.b,o.n⟩
theorem form3:(formF 3).a=true∧(formF 3).b=false:=⟨rfl,rfl⟩
theorem beh_copy {ops':List XOp} {q:Nat} {f:List XFact} (hf:f.length=8) (hI:If f) (hd:(ops.getD q op0).d.toNat < 8) (he:ops'.getD q op0=cpOp f (ops.getD q op0)):RL (behindF ops ints rels f q) (behindF ops' ints rels f q):=by
 intro r;have hn:(q:Int).toNat=q:=Int.toNat_natCast q;rw[beh_get hf (by rw[hn];exact hd),beh_get hf (by rw[hn,he];exact hd)];have hop:(ops'.getD q op0).op=(ops.getD q op0).op:=by rw[he];rfl
 have hdd:(ops'.getD q op0).d=(ops.getD q op0).d:=by rw[he];rfl
 have hnn:(ops'.getD q op0).n=(ops.getD q op0).n:=by rw[he];rfl
 rw[hn,hop,hdd];split;rotate_left
 ·exact .inl rfl
 split;rotate_left
 ·exact .inl rfl
 by_cases h3:(ops.getD q op0).op=3
 ·rw[res_op f (by rw[hn];exact h3),res_op f (by rw[hn,hop];exact h3),hn,hdd];have ha:(ops'.getD q op0).a=if (f.getD (ops.getD q op0).a.toNat z0).sort=2 then (f.getD (ops.getD q op0).a.toNat z0).n else (ops.getD q op0).a:=by
   rw[he];unfold cpOp;rw[h3,form3.1];simp
  rw[ha];have hx:=hI (ops.getD q op0).a.toNat;generalize ops.getD q op0=o at *;by_cases h2:(f.getD o.a.toNat z0).sort=2
  ·rw[if_pos h2];obtain⟨g0,g1,g2⟩:=hx.2 h2;have hy:=(hI (f.getD o.a.toNat z0).n.toNat).1;generalize f.getD o.a.toNat z0=x at *;generalize f.getD x.n.toNat z0=y at *;rcases mov_cases x.sort x.n o.d o.a with ⟨h,_⟩ | ⟨_,h,e1⟩ | ⟨_,h,e1⟩ | ⟨_,h,_⟩ | ⟨_,h,_⟩
   ·omega
   ·rw[e1];rcases mov_cases y.sort y.n o.d x.n with ⟨k,_⟩ | ⟨k,_⟩ | ⟨k,_⟩ | ⟨_,_,k,e2⟩ | ⟨_,_,k,e2⟩
    ·omega
    ·omega
    ·omega
    ·rw[e2];rcases hy with k | k | k | k
     ·rw[k];exact .inl rfl
     ·omega
     ·omega
     ·exact .inr ⟨rfl,k⟩
    ·omega
   ·rw[e1];rcases mov_cases y.sort y.n o.d x.n with ⟨k,_⟩ | ⟨k,_⟩ | ⟨k,_⟩ | ⟨_,_,k,_⟩ | ⟨_,_,k,e2⟩
    ·omega
    ·omega
    ·omega
    ·omega
    ·rw[e2,h2];exact .inl rfl
   ·omega
   ·omega
  ·rw[if_neg h2];exact .inl rfl
 ·left;unfold resF;dsimp only;have e3:((ops.getD q op0).op==3)=false:=by simpa using h3
  simp only[hn,hop,hnn,e3,if_false,Bool.false_eq_true]
def dAt (f:List XFact) (o:XOp):Nat:=(if ((formF o.op).a&&(f.getD o.a.toNat z0).sort==2)=true then 1 else 0)+(if ((formF o.op).b&&(f.getD o.b.toNat z0).sort==2)=true then 1 else 0)
def dIx (ops:List XOp) (s:List (List XFact) × List Bool) (i:Nat):Nat:=if s.2.getD i false=true then dAt (s.1.getD i []) (ops.getD i op0) else 0
def dSum (ops:List XOp) (s:List (List XFact) × List Bool):Nat:=((List.range ops.length).map (dIx ops s)).sum
theorem sum_le {f g:Nat→Nat}:∀ (l:List Nat),(∀ i ∈ l,f i≤g i)→(l.map f).sum≤(l.map g).sum
 | [],_=>Nat.le_refl _
 | x::r,h=>by
   have h1:=h x (by simp);have h2:=sum_le r fun i hi=>h i (by simp[hi])
   simp only[List.map_cons,List.sum_cons];omega
theorem sum_lt {f g:Nat→Nat} {k:Nat}:∀ (l:List Nat),k ∈ l→f k < g k→(∀ i ∈ l,f i≤g i)→(l.map f).sum < (l.map g).sum
 | [],hk,_,_=>by cases hk
 | x::r,hk,hlt,h=>by
   have h1:=h x (by simp);simp only[List.map_cons,List.sum_cons];rcases List.mem_cons.1 hk with rfl | hk
   ·have h2:=sum_le r fun i hi=>h i (by simp[hi])
    omega
   ·have h2:=sum_lt r hk hlt fun i hi=>h i (by simp[hi])
    omega
theorem dSum_le (ops:List XOp) (s:List (List XFact) × List Bool):dSum ops s≤2 * ops.length:=by
 have h:∀ l:List Nat,(l.map (dIx ops s)).sum≤2 * l.length:=fun l=>by
  induction l with
  | nil=>simp
  | cons x r ih=>
    simp only[List.map_cons,List.sum_cons,List.length_cons];have:dIx ops s x≤2:=by
     unfold dIx dAt;repeat' split
     all_goals omega
    omega
 have:=h (List.range ops.length)
 rwa [List.length_range] at this
theorem dAt_le {f g:List XFact} (h:RL f g) (o:XOp):dAt g o≤dAt f o:=by
 have hs:∀ r,(g.getD r z0).sort=2→(f.getD r z0).sort=2:=fun r h2=>by
  rcases h r with e | ⟨_,e⟩
  ·rw[← e];exact h2
  ·omega
 have ha:=hs o.a.toNat;have hb:=hs o.b.toNat;unfold dAt;by_cases h1:(g.getD o.a.toNat z0).sort=2 <;> by_cases h2:(g.getD o.b.toNat z0).sort=2 <;> cases (formF o.op).a <;> cases (formF o.op).b <;> simp_all <;> split <;> omega
theorem dAt_copy {f g:List XFact} (h:RL f g) (hI:If f) (o:XOp) (hc:((formF o.op).a&&(f.getD o.a.toNat z0).sort==2)=true∨((formF o.op).b&&(f.getD o.b.toNat z0).sort==2)=true):dAt g (cpOp f o) < dAt f o:=by
 have hs:∀ r,(g.getD r z0).sort=2→(f.getD r z0).sort=2:=fun r h2=>by
  rcases h r with e | ⟨_,e⟩
  ·rw[← e];exact h2
  ·omega
 have part:∀ (q:Bool) (a:Int),(if (q&&(g.getD (if (q&&(f.getD a.toNat z0).sort==2)=true then (f.getD a.toNat z0).n else a).toNat z0).sort==2)=true then 1 else 0)≤(if (q&&(f.getD a.toNat z0).sort==2)=true then 1 else 0)∧
  ((q&&(f.getD a.toNat z0).sort==2)=true→(if (q&&(g.getD (if (q&&(f.getD a.toNat z0).sort==2)=true then (f.getD a.toNat z0).n else a).toNat z0).sort==2)=true then 1 else 0)=0):=fun q a=>by
  by_cases hq:(q&&(f.getD a.toNat z0).sort==2)=true
  ·rw[if_pos hq];have h2:(f.getD a.toNat z0).sort=2:=by simp at hq;exact hq.2
   have hne:¬ ((g.getD (f.getD a.toNat z0).n.toNat z0).sort=2):=fun e=>((hI a.toNat).2 h2).2.2 (hs _ e)
   have:¬ ((q&&(g.getD (f.getD a.toNat z0).n.toNat z0).sort==2)=true):=by simp;exact fun _=>hne
   rw[if_neg this];exact⟨Nat.zero_le _,fun _=>rfl⟩
  ·rw[if_neg hq];have:¬ ((q&&(g.getD a.toNat z0).sort==2)=true):=fun e=>hq (by simp at e ⊢;exact⟨e.1,hs _ e.2⟩)
   rw[if_neg this,if_neg hq];exact⟨Nat.le_refl _,fun e=>absurd e hq⟩
 have pa:=part (formF o.op).a o.a;have pb:=part (formF o.op).b o.b;unfold dAt cpOp;dsimp only;rcases hc with hc | hc
 ·have h1:=pa.2 hc;have h2:(if ((formF o.op).a&&(f.getD o.a.toNat z0).sort==2)=true then 1 else 0)=1:=if_pos hc;have h3:=pb.1;omega
 ·have h1:=pb.2 hc;have h2:(if ((formF o.op).b&&(f.getD o.b.toNat z0).sort==2)=true then 1 else 0)=1:=if_pos hc;have h3:=pa.1;omega
theorem copy_lt {q:Nat} {r1 r2:List XRel} {ls':Nat} (hg:Good ops li ls r1) (hq:q < ops.length)
 (hr:(workS ops ints rels).2.getD q false=true) (hg':Good (ops.set q (cpOp ((workS ops ints rels).1.getD q []) (ops.getD q op0))) li ls' r2)
 (hc:((formF (ops.getD q op0).op).a&&(((workS ops ints rels).1.getD q []).getD (ops.getD q op0).a.toNat z0).sort==2)=true∨((formF (ops.getD q op0).op).b&&(((workS ops ints rels).1.getD q []).getD (ops.getD q op0).b.toNat z0).sort==2)=true) :
 dSum (ops.set q (cpOp ((workS ops ints rels).1.getD q []) (ops.getD q op0))) (workS (ops.set q (cpOp ((workS ops ints rels).1.getD q []) (ops.getD q op0))) ints rels) < dSum ops (workS ops ints rels):=by
 obtain⟨f,hf⟩:∃ f,(workS ops ints rels).1.getD q []=f:=⟨_,rfl⟩
 rw[hf] at hc hg' ⊢;obtain⟨ops',ho'⟩:∃ l,ops.set q (cpOp f (ops.getD q op0))=l:=⟨_,rfl⟩
 rw[ho'] at hg' ⊢;have hl:ops'.length=ops.length:=by rw[← ho',List.length_set]
 have hsame:∀ j,j ≠ q→ops'.getD j op0=ops.getD j op0:=fun j hj=>by rw[← ho',getD_ne _ _ _ _ _ hj]
 have hat:ops'.getD q op0=cpOp f (ops.getD q op0):=by rw[← ho',getD_set _ _ _ _ _ hq,if_pos rfl]
 have hsh:=shape_work (ints:=ints) (rels:=rels) hg;have hI:=work_SI (ints:=ints) (rels:=rels) hg;obtain⟨s,hs⟩:∃ s,flowFrom ops ints rels q 0 (start0 ops.length)=s:=⟨_,rfl⟩
 have hsS:Shape ops.length s:=by rw[← hs];exact shape_flow hg _ _ _ (by omega) (shape0 _)
 have e1:workS ops ints rels=flowFrom ops ints rels (ops.length - (q+1)) (q+1) (stepAt ops ints rels q s):=by
  unfold workS;rw[show ops.length=q+(ops.length - (q+1)+1) by omega,flow_split,Nat.zero_add,← show ops.length=q+(ops.length - (q+1)+1) by omega,hs,flowFrom]
 have e2:workS ops' ints rels=flowFrom ops' ints rels (ops.length - (q+1)) (q+1) (stepAt ops' ints rels q s):=by
  unfold workS;rw[hl,show ops.length=q+(ops.length - (q+1)+1) by omega,flow_split,Nat.zero_add,← show ops.length=q+(ops.length - (q+1)+1) by omega,flow_same (ops:=ops) q 0 _ (fun j h1 h2=>hsame j (by omega)),hs,flowFrom]
 have hlow:=flow_low (ints:=ints) (rels:=rels) hg q (ops.length - (q+1)) (q+1) _ (by omega) (by omega) (shape_stepAt (ints:=ints) (rels:=rels) hg hq hsS);rw[← e1] at hlow;have hstep:(stepAt ops ints rels q s).1.getD q []=s.1.getD q []∧(stepAt ops ints rels q s).2.getD q false=s.2.getD q false:=by
  unfold stepAt;split
  ·exact fold_low (behind_len (hsS.get hq)) q _ _ hsS fun k hk=>next_ok hg q hq k hk
  ·exact⟨rfl,rfl⟩
 have hsf:s.1.getD q []=f:=by rw[← hstep.1,← hlow.1,hf]
 have hIf:If f:=by rw[← hf];exact hI q hq
 have hrs:RS ops.length (stepAt ops ints rels q s) (stepAt ops' ints rels q s):=by
  have hn:nextF ops' q=nextF ops q:=by unfold nextF;simp only[Int.toNat_natCast,hat];rfl
  have h0:RS ops.length s s:=⟨hsS,hsS,rfl,fun k _=>rl_refl _⟩
  unfold stepAt;rw[hn];split
  ·refine fold_RS (behind_len (hsS.get hq)) (behind_len (hsS.get hq)) ?_ _ _ _ h0 fun k hk=>(next_ok hg q hq k hk).2
   rw[hsf];exact beh_copy (by rw[← hsf];exact hsS.get hq) hIf (good_d hg hq).1.2 hat
  ·exact h0
 have hR:RS ops.length (workS ops ints rels) (workS ops' ints rels):=by
  rw[e1,e2];exact flow_RS hl hg hg' _ _ _ _ (by omega) (fun j h1 h2=>hsame j (by omega)) hrs
 unfold dSum;rw[hl];refine sum_lt (k:=q) _ (List.mem_range.2 hq) ?_ fun i hi=>?_
 ·unfold dIx;rw[hR.re,if_pos hr,if_pos hr,hat,hf];have:=hR.rl q hq;rw[hf] at this;exact dAt_copy this hIf _ hc
 ·have hio:=List.mem_range.1 hi;unfold dIx;rw[hR.re];split
  ·by_cases hiq:i=q
   ·subst hiq;rw[hat,hf];have:=hR.rl i hio;rw[hf] at this;exact Nat.le_of_lt (dAt_copy this hIf _ hc)
   ·rw[hsame i hiq];exact dAt_le (hR.rl i hio) _
  ·exact Nat.le_refl _
end
def wOp (k:Int):Nat:=if (4≤k∧k≤22)∨k=25 then 2 else 1
def slk (n:Nat) (o:XOp):Nat:=if o.op=24∨o.op=25 then n - o.n.toNat else 0
def cost (n:Nat) (o:XOp):Nat:=63 * wOp o.op+slk n o
def Phi (c:XCode):Nat:=(c.ops.map (cost c.ops.length)).sum+(c.ints.length+c.strs.length)
theorem ite_some {α:Type} {p:Prop} [Decidable p] {x y:Option α} {c:α} (h:(if p then x else y)=some c):(p∧x=some c)∨(¬p∧y=some c):=by
 by_cases hp:p
 ·exact .inl ⟨hp,by rwa [if_pos hp] at h⟩
 ·exact .inr ⟨hp,by rwa [if_neg hp] at h⟩
theorem lsum_set {α:Type} (f:α→Nat) (d y:α):∀ (l:List α) (i:Nat),i < l.length→((l.set i y).map f).sum+f (l.getD i d)=(l.map f).sum+f y
 | [],i,h=>by simp at h
 | x::r,0,_=>by simp[List.getD];omega
 | x::r,i+1,h=>by
   have:=lsum_set f d y r i (by simpa using h);simp only[List.set_cons_succ,List.map_cons,List.sum_cons,List.getD_cons_succ];omega
theorem lsum_erase {α:Type} (f:α→Nat) (d:α):∀ (l:List α) (i:Nat),i < l.length→((l.eraseIdx i).map f).sum+f (l.getD i d)=(l.map f).sum
 | [],i,h=>by simp at h
 | x::r,0,_=>by simp[List.getD];omega
 | x::r,i+1,h=>by
   have:=lsum_erase f d r i (by simpa using h);simp only[List.eraseIdx_cons_succ,List.map_cons,List.sum_cons,List.getD_cons_succ];omega
theorem lsum_le {α:Type} {f g:α→Nat}:∀ (l:List α),(∀ x ∈ l,f x≤g x)→(l.map f).sum≤(l.map g).sum
 | [],_=>Nat.le_refl _
 | x::r,h=>by
   have h1:=h x (by simp);have h2:=lsum_le r fun i hi=>h i (by simp[hi])
   simp only[List.map_cons,List.sum_cons];omega
theorem wOp_le (k:Int):1≤wOp k∧wOp k≤2:=by unfold wOp;split <;> omega
theorem slk_le (n:Nat) (o:XOp):slk n o≤n:=by unfold slk;split <;> omega
section
variable {ops:List XOp} {ints:List Int} {strs:List ByteArray} {rels:List XRel} {q:Int} {c:XCode}
def Less (c d:XCode):Prop:=Phi d < Phi c∨(Phi d=Phi c∧dSum d.ops (workS d.ops d.ints d.rels) < dSum c.ops (workS c.ops c.ints c.rels))
theorem less_set {ints':List Int} {rels':List XRel} {y:XOp} (hq:q.toNat < ops.length) (hi:ints'.length≤ints.length+1) (hc:cost ops.length y+1 < cost ops.length (ops.getD q.toNat op0)) (h:some (⟨ops.set q.toNat y,ints',strs,rels'⟩:XCode)=some c):Less ⟨ops,ints,strs,rels⟩ c:=by
 injection h with h;subst h
 left;have:=lsum_set (cost ops.length) op0 y ops q.toNat hq;unfold Phi;simp only[List.length_set];omega
theorem less_put (hn:ops.length≤60) (hq:q.toNat < ops.length) {d n:Int} (hw:wOp (ops.getD q.toNat op0).op=2) (h:puttingF ops ints strs rels q d n=some c):Less ⟨ops,ints,strs,rels⟩ c:=by
 have hc:∀ k:Int,cost ops.length ⟨1,d,0,0,k⟩ + 1 < cost ops.length (ops.getD q.toNat op0):=fun k=>by
  have e:cost ops.length ⟨1,d,0,0,k⟩=63:=by simp[cost,wOp,slk]
  rw[e];unfold cost;omega
 unfold puttingF at h;split at h
 ·split at h
  ·cases h
  ·exact less_set hq (by simp) (hc _) h
 ·exact less_set hq (by omega) (hc _) h
theorem less_rem (hq:q.toNat < ops.length) (h0:0≤q) (h:some (removedF ops ints strs rels q)=some c):Less ⟨ops,ints,strs,rels⟩ c:=by
 injection h with h;subst h
 left;have hl:(ops.eraseIdx q.toNat).length=ops.length - 1:=List.length_eraseIdx_of_lt hq;have h1:=lsum_erase (cost ops.length) op0 ops q.toNat hq;have h2:((ops.eraseIdx q.toNat).map ((cost (ops.length - 1)) ∘ shOp q)).sum≤((ops.eraseIdx q.toNat).map (cost ops.length)).sum:=lsum_le _ fun o _=>by
  have:cost (ops.length - 1) (shOp q o)≤cost ops.length o:=by
   unfold shOp;split
   ·rename_i hj;simp only[Bool.and_eq_true,decide_eq_true_eq] at hj;unfold cost slk;dsimp only;split <;> omega
   ·unfold cost slk;split <;> omega
  exact this
 have h3:63≤cost ops.length (ops.getD q.toNat op0):=by unfold cost;have:=(wOp_le (ops.getD q.toNat op0).op).1;omega
 unfold Phi removedF;simp only[List.length_map,hl,List.map_map];omega
theorem less_pool {p i t:Int} {ints':List Int} {strs':List ByteArray} (hp:p=1∨p=2) (hl:ints'.length+strs'.length < ints.length+strs.length) (h:some (⟨ops.map (plOp p i t),ints',strs',rels⟩:XCode)=some c):Less ⟨ops,ints,strs,rels⟩ c:=by
 injection h with h;subst h
 left;have h1:((ops.map (plOp p i t)).map (cost ops.length)).sum≤(ops.map (cost ops.length)).sum:=by
  rw[List.map_map];refine lsum_le _ fun o _=>?_
  have:cost ops.length (plOp p i t o)≤cost ops.length o:=by
   unfold plOp;split
   ·rename_i ho;have ho:o.op=p:=by simpa using ho
    have e:∀ n:Int,cost ops.length ⟨o.op,o.d,o.a,o.b,n⟩=63:=fun n=>by unfold cost slk wOp;rw[if_neg (by dsimp only;omega),if_neg (by dsimp only;omega)]
    have e0:cost ops.length o=63:=e o.n;repeat' split
    all_goals first
     | (rw[e,e0];exact Nat.le_refl _)
     | exact Nat.le_refl _
   ·exact Nat.le_refl _
  exact this
 unfold Phi;simp only[List.length_map];omega
theorem step_less (hin:XIn ops ints strs rels) (hck:checkF ops ints strs rels=true) (hn:ops.length≤60) {rule:Int} (h0:0≤q) (hq:q < placesF ops ints strs rule) (hck':checkC c=true) (h:stepF ops ints strs rels (workS ops ints rels).1 (workS ops ints rels).2 (workL ops) rule q=some c):Less ⟨ops,ints,strs,rels⟩ c:=by
 have hw:=work_xa hin hck;have hg:=check_good hck;have hqo:rule ≠ 8→q.toNat < ops.length:=fun h8=>by unfold placesF at hq;rw[if_neg h8] at hq;omega
 have c3:∀ d a:Int,cost ops.length ⟨3,d,a,0,0⟩=63:=fun d a=>by simp[cost,wOp,slk]
 have w2:∀ k:Int,4≤k→k≤22→wOp k=2:=fun k h1 h2=>by unfold wOp;rw[if_pos (.inl ⟨h1,h2⟩)]
 unfold stepF at h;split at h
 ·rename_i hr;have hlt:=hqo (by simp at hr;omega);unfold foldF at h;dsimp only at h;split at h;rotate_left
  ·cases h
  split at h
  ·cases h
  have hp:∀ a b k,wOp (ops.getD q.toNat op0).op=2→foldK ops ints strs rels q (ops.getD q.toNat op0) a b k=some c→Less ⟨ops,ints,strs,rels⟩ c:=fun a b k hw2 hk=>by
   unfold foldK at hk;split at hk
   ·split at hk
    ·exact less_put hn hlt hw2 hk
    ·cases hk
   ·cases hk
  split at h
  ·rename_i h25;split at h
   ·refine less_set hlt (by omega) ?_ h;have e25:(ops.getD q.toNat op0).op=25:=by simpa using h25
    have hs:=slk_le ops.length ⟨24,0,0,0,if (!((factAt (workS ops ints rels).1 q (ops.getD q.toNat op0).a).n==0))=true then q+1 else (ops.getD q.toNat op0).n⟩;unfold cost;rw[e25];have e1:wOp 24=1:=rfl;have e2:wOp 25=2:=rfl;dsimp only;rw[e1,e2];omega
   ·cases h
  split at h
  ·rename_i h1;simp only[beq_iff_eq] at h1;exact hp _ _ _ (w2 _ (by omega) (by omega)) h
  split at h
  ·rename_i h1;simp only[beq_iff_eq] at h1;exact hp _ _ _ (w2 _ (by omega) (by omega)) h
  split at h
  ·rename_i h1;simp only[beq_iff_eq] at h1;exact hp _ _ _ (w2 _ (by omega) (by omega)) h
  split at h
  ·rename_i h1;simp only[List.any_cons,List.any_nil,Bool.or_false,Bool.or_eq_true,Bool.and_eq_true,decide_eq_true_eq,beq_iff_eq] at h1;exact hp _ _ _ (w2 _ (by omega) (by omega)) h
  ·cases h
 split at h
 ·rename_i _ hr;have hlt:=hqo (by simp at hr;omega);have u1:∀ k:Int,(usesF k 1 2).any (fun x=>1==x)=(formF k).a:=fun k=>by unfold usesF;cases (formF k).a <;> cases (formF k).b <;> rfl
  have u2:∀ k:Int,(usesF k 1 2).any (fun x=>2==x)=(formF k).b:=fun k=>by unfold usesF;cases (formF k).a <;> cases (formF k).b <;> rfl
  unfold copiesF at h;dsimp only at h;split at h;rotate_left
  ·cases h
  rename_i hre;split at h;rotate_left
  ·cases h
  rename_i hcc;rw[u1,u2] at h hcc;injection h with h;subst h
  have hf:∀ r:Int,factAt (workS ops ints rels).1 q r=((workS ops ints rels).1.getD q.toNat []).getD r.toNat z0:=fun r=>rfl
  have he:(⟨(ops.getD q.toNat op0).op,(ops.getD q.toNat op0).d,if ((formF (ops.getD q.toNat op0).op).a&&(factAt (workS ops ints rels).1 q (ops.getD q.toNat op0).a).sort==2)=true then (factAt (workS ops ints rels).1 q (ops.getD q.toNat op0).a).n else (ops.getD q.toNat op0).a,
   if ((formF (ops.getD q.toNat op0).op).b&&(factAt (workS ops ints rels).1 q (ops.getD q.toNat op0).b).sort==2)=true then (factAt (workS ops ints rels).1 q (ops.getD q.toNat op0).b).n else (ops.getD q.toNat op0).b,(ops.getD q.toNat op0).n⟩:XOp)=cpOp ((workS ops ints rels).1.getD q.toNat []) (ops.getD q.toNat op0):=rfl
  rw[he] at hck' ⊢;right;refine⟨?_,?_⟩
  ·have:=lsum_set (cost ops.length) op0 (cpOp ((workS ops ints rels).1.getD q.toNat []) (ops.getD q.toNat op0)) ops q.toNat hlt;have e:cost ops.length (cpOp ((workS ops ints rels).1.getD q.toNat []) (ops.getD q.toNat op0))=cost ops.length (ops.getD q.toNat op0):=rfl;unfold Phi;simp only[List.length_set];omega
  ·refine copy_lt (q:=q.toNat) hg hlt hre (check_good hck') ?_;simp only[Bool.or_eq_true] at hcc;exact hcc
 split at h
 ·rename_i _ _ hr;have hlt:=hqo (by simp at hr;omega);unfold deadF at h;dsimp only at h;split at h
  ·cases h
  ·exact less_rem hlt h0 h
 split at h
 ·rename_i _ _ _ hr;have hlt:=hqo (by simp at hr;omega);unfold threadF at h;dsimp only at h;split at h
  ·rename_i hj;have hj':(ops.getD q.toNat op0).op=24∨(ops.getD q.toNat op0).op=25:=by simpa using hj
   split at h
   ·rename_i ht;have ht':(ops.getD (ops.getD q.toNat op0).n.toNat op0).op=24:=by simpa using ht
    have f1:=right_ok (hg.right _ hlt);rw[Int.toNat_natCast] at f1;have k1:=fits_jump f1.fit hj';have hln:(ops.getD q.toNat op0).n.toNat < ops.length:=by omega
    have f2:=right_ok (hg.right _ hln);rw[Int.toNat_natCast] at f2;have k2:=fits_jump f2.fit (.inl ht');injection h with h;subst h
    left;have:=lsum_set (cost ops.length) op0 ⟨(ops.getD q.toNat op0).op,(ops.getD q.toNat op0).d,(ops.getD q.toNat op0).a,(ops.getD q.toNat op0).b,(ops.getD (ops.getD q.toNat op0).n.toNat op0).n⟩ ops q.toNat hlt;have e:cost ops.length ⟨(ops.getD q.toNat op0).op,(ops.getD q.toNat op0).d,(ops.getD q.toNat op0).a,(ops.getD q.toNat op0).b,(ops.getD (ops.getD q.toNat op0).n.toNat op0).n⟩ < cost ops.length (ops.getD q.toNat op0):=by
     unfold cost slk;dsimp only;rw[if_pos hj',if_pos hj'];omega
    unfold Phi;simp only[List.length_set];omega
   ·split at h
    ·exact less_rem hlt h0 h
    ·cases h
  ·cases h
 split at h
 ·rename_i _ _ _ _ hr;have hlt:=hqo (by simp at hr;omega);unfold reachF at h;split at h
  ·cases h
  ·exact less_rem hlt h0 h
 split at h
 ·rename_i _ _ _ _ _ hr;have hlt:=hqo (by simp at hr;omega);unfold wrapRF at h;dsimp only at h;split at h
  ·rename_i h19;have e19:(ops.getD q.toNat op0).op=19:=by simpa using h19
   split at h
   ·cases h
   ·refine less_set hlt (by omega) ?_ h;rw[c3];unfold cost;have:=w2 (ops.getD q.toNat op0).op (by omega) (by omega);omega
  ·cases h
 split at h
 ·rename_i _ _ _ _ _ _ hr;have hlt:=hqo (by simp at hr;omega);unfold identF at h;dsimp only at h;rcases ite_some h with ⟨-,h⟩ | ⟨-,h⟩
  rotate_left
  ·cases h
  rcases ite_some h with ⟨-,h⟩ | ⟨h4,h⟩
  ·cases h
  rcases ite_some h with ⟨-,h⟩ | ⟨h16,h⟩
  ·cases h
  simp only[decide_eq_true_eq] at h4 h16;have hw2:=w2 (ops.getD q.toNat op0).op (by omega) (by omega);have hm:∀ a,moveTo ops ints strs rels q (ops.getD q.toNat op0).d a=some c→Less ⟨ops,ints,strs,rels⟩ c:=fun a hk=>by
   unfold moveTo at hk;refine less_set hlt (by omega) ?_ hk;rw[c3];unfold cost;omega
  have hp:=fun hk=>less_put (d:=(ops.getD q.toNat op0).d) (n:=0) (ints:=ints) (strs:=strs) (rels:=rels) (c:=c) hn hlt hw2 hk
  iterate 6
   rcases ite_some h with ⟨-,h⟩ | ⟨-,h⟩
   ·exact hm _ h
  iterate 3
   rcases ite_some h with ⟨-,h⟩ | ⟨-,h⟩
   ·exact hp h
  rcases ite_some h with ⟨-,h⟩ | ⟨-,h⟩
  ·rcases ite_some h with ⟨-,h⟩ | ⟨-,h⟩
   ·exact hp h
   ·cases h
  ·cases h
 split at h
 ·rename_i _ _ _ _ _ _ _ hr;have h8:rule=8:=by simpa using hr
  unfold placesF at hq;rw[if_pos h8] at hq;unfold poolF at h;split at h
  ·rename_i hi;simp only[decide_eq_true_eq] at hi;split at h
   ·cases h
   ·refine less_pool (.inl rfl) ?_ h;rw[List.length_eraseIdx_of_lt (by omega)];omega
  ·rename_i hi;simp only[decide_eq_true_eq] at hi;split at h
   ·cases h
   ·refine less_pool (.inr rfl) ?_ h;rw[List.length_eraseIdx_of_lt (by omega)];omega
 ·cases h
end
theorem phi_le {c:XCode} (hn:c.ops.length≤60):Phi c≤186 * 60+(c.ints.length+c.strs.length):=by
 have h:∀ l:List XOp,(l.map (cost c.ops.length)).sum≤186 * l.length:=fun l=>by
  induction l with
  | nil=>simp
  | cons x r ih=>
    simp only[List.map_cons,List.sum_cons,List.length_cons];have h1:=wOp_le x.op;have h2:=slk_le c.ops.length x;have:cost c.ops.length x≤186:=by unfold cost;omega
    omega
 have:=h c.ops;unfold Phi;omega
theorem run_ends:∀ (k:Nat) (c:XCode),XIn c.ops c.ints c.strs c.rels→checkC c=true→c.ops.length≤60→121 * Phi c+dSum c.ops (workS c.ops c.ints c.rels) < k→∃ out,runN k c=some out
 | 0,_,_,_,_,h=>by omega
 | k+1,c,hin,hck,hn,h=>by
   rw[runN];cases hs:stepsC c with
   | nil=>exact⟨_,rfl⟩
   | cons y r=>
     have hm:y ∈ stepsC c:=by rw[hs];simp
     have ha:=stepsR_mem hm;have hxa:=work_xa hin hck;have hap:=apply_in hxa hin ha;have hst:=apply_step ha;have hk:=step_keeps hst.2.2.2;have hless:=step_less hin hck hn hst.2.1 hst.2.2.1 hap.2 hst.2.2.2;have hd1:=dSum_le y.2.2.ops (workS y.2.2.ops y.2.2.ints y.2.2.rels);have hn':y.2.2.ops.length≤60:=Nat.le_trans hk.o hn;have hlt:121 * Phi y.2.2+dSum y.2.2.ops (workS y.2.2.ops y.2.2.ints y.2.2.rels) < k:=by
      rcases hless with h1 | ⟨h1,h2⟩
      ·have:Phi y.2.2 < Phi c:=h1;omega
      ·have e1:Phi y.2.2=Phi c:=h1;have e2:dSum y.2.2.ops (workS y.2.2.ops y.2.2.ints y.2.2.rels) < dSum c.ops (workS c.ops c.ints c.rels):=h2;omega
     obtain⟨out,ho⟩:=run_ends k y.2.2 hap.1 hap.2 hn' hlt;exact⟨_,by dsimp only;rw[ho];rfl⟩
theorem run_some {c:XCode} (hin:XIn c.ops c.ints c.strs c.rels) (hck:checkC c=true) (hn:c.ops.length≤60):∃ out,runN 2000000 c=some out:=by
 have h1:=phi_le hn;have h2:=dSum_le c.ops (workS c.ops c.ints c.rels);have h3:=check_i200 (show checkF c.ops c.ints c.strs c.rels=true from hck);exact run_ends 2000000 c hin hck hn (by omega)
theorem runIn:∀ (n:Nat) (c:XCode) (out:XCode × List XStep),XIn c.ops c.ints c.strs c.rels→checkC c=true→runN n c=some out→(XIn out.1.ops out.1.ints out.1.strs out.1.rels∧checkC out.1=true)∧out.2.length≤n∧stepsC out.1=[]∧∀ i:Int,replayF out.2 c i=(out.1,i+out.2.length,0)
 | 0,c,out,_,_,h=>by simp[runN] at h
 | n+1,c,out,hin,hc,h=>by
   rw[runN] at h;cases hs:stepsC c with
   | nil=>
     rw[hs] at h;injection h with h
     subst h;exact⟨⟨hin,hc⟩,by simp,hs,fun i=>by simp[replayF]⟩
   | cons y r=>
     rw[hs] at h;have hm:y ∈ stepsC c:=by rw[hs];simp
     have hw:=stepsR_mem hm;have ha:=apply_in (work_xa hin hc) hin hw;obtain⟨o2,ho2⟩:∃ o2,runN n y.2.2=some o2:=by
      cases h':runN n y.2.2 with
      | none=>dsimp only at h;rw[h'] at h;cases h
      | some o=>exact⟨o,rfl⟩
     dsimp only at h;rw[ho2] at h;injection h with h
     subst h;obtain⟨i1,i2,i3,i4⟩:=runIn n y.2.2 o2 ha.1 ha.2 ho2;refine⟨i1,by simp only[List.length_cons];omega,i3,fun i=>?_⟩;have e:applyW c.ops c.ints c.strs c.rels (stepOf y).rule (stepOf y).at_=some y.2.2:=hw;rw[replayF,e];dsimp only;rw[i4,List.length_cons];have:i+1+(o2.2.length:Int)=i+((o2.2.length+1:Nat):Int):=by omega
     rw[this]
theorem replay_in:∀ (l:List XStep) (c:XCode) (i:Int),XIn c.ops c.ints c.strs c.rels→checkC c=true→XIn (replayF l c i).1.ops (replayF l c i).1.ints (replayF l c i).1.strs (replayF l c i).1.rels∧checkC (replayF l c i).1=true
 | [],c,i,h,hc=>by simpa[replayF] using⟨h,hc⟩
 | s::r,c,i,h,hc=>by
   rw[replayF];cases hx:applyW c.ops c.ints c.strs c.rels s.rule s.at_ with
   | none=>exact⟨h,hc⟩
   | some d=>
     have ha:=apply_in (work_xa h hc) h (show applyF c.ops c.ints c.strs c.rels (workS c.ops c.ints c.rels).1 (workS c.ops c.ints c.rels).2 (workL c.ops) s.rule s.at_=some d from hx);exact replay_in r d _ ha.1 ha.2
theorem replay_app:∀ (a b:List XStep) (c x:XCode) (i n:Int),replayF (a++b) c i=(x,n,0)→replayF a c i=((replayF a c i).1,i+a.length,0)∧replayF b (replayF a c i).1 (i+a.length)=(x,n,0)
 | [],b,c,x,i,n,h=>by simpa[replayF] using h
 | s::r,b,c,x,i,n,h=>by
   rw[List.cons_append,replayF] at h;rw[replayF];cases hx:applyW c.ops c.ints c.strs c.rels s.rule s.at_ with
   | none=>rw[hx] at h;simp at h
   | some d=>
     rw[hx] at h;dsimp only at h ⊢;have ih:=replay_app r b d x (i+1) n h;have e:i+((s::r).length:Int)=i+1+(r.length:Int):=by simp only[List.length_cons];omega
     rw[e];exact ih
theorem replay_from:∀ (l:List XStep) (c x:XCode) (i j:Int) (n:Int),replayF l c i=(x,n,0)→replayF l c j=(x,n - i+j,0)
 | [],c,x,i,j,n,h=>by
   simp only[replayF,Prod.mk.injEq] at h ⊢;obtain⟨rfl,rfl,_⟩:=h;refine⟨rfl,by omega,trivial⟩
 | s::r,c,x,i,j,n,h=>by
   rw[replayF] at h ⊢;cases hx:applyW c.ops c.ints c.strs c.rels s.rule s.at_ with
   | none=>rw[hx] at h;simp at h
   | some d=>
     rw[hx] at h;dsimp only at h ⊢;rw[replay_from r d x (i+1) (j+1) n h];have:n - (i+1)+(j+1)=n - i+j:=by omega
     rw[this]
structure Ended (c:XCode) (x:XCode) (l:List XStep):Prop where
 xin:XIn x.ops x.ints x.strs x.rels
 xck:checkC x=true
 len:l.length≤2000000
 run:runN 2000000 c=some (x,l)
 fix:stepsC x=[]
 again:runN 2000000 x=some (x,[])
 all:replayF l c 0=(x,(l.length:Int),0)
 pre:∀ k:Nat,k≤l.length→∃ m:XCode,(XIn m.ops m.ints m.strs m.rels∧checkC m=true)∧replayF (l.take k) c 0=(m,(k:Int),0)∧replayF (l.drop k) m 0=(x,(l.length:Int) - k,0)
theorem ended {c:XCode} (hin:XIn c.ops c.ints c.strs c.rels) (hc:checkC c=true) (hn:c.ops.length≤60):∃ x l,Ended c x l:=by
 obtain⟨⟨x,l⟩,ho⟩:=run_some hin hc hn;obtain⟨⟨h1,h2⟩,h3,h4,h5⟩:=runIn _ _ _ hin hc ho;have h6:=h5 0;rw[Int.zero_add] at h6;refine⟨x,l,h1,h2,h3,ho,h4,?_,h6,fun k hk=>?_⟩
 ·rw[show (2000000:Nat)=1999999+1 from rfl,runN,h4]
 ·have e:replayF (l.take k++l.drop k) c 0=(x,(l.length:Int),0):=by rw[List.take_append_drop];exact h6
  obtain⟨a1,a2⟩:=replay_app _ _ _ _ _ _ e;have hl:(l.take k).length=k:=by rw[List.length_take];omega
  rw[hl,Int.zero_add] at a1 a2;exact⟨_,replay_in _ _ _ hin hc,a1,by
   have:=replay_from _ _ _ _ 0 _ a2;rw[this];simp⟩
theorem allF_of {p:Nat→Bool}:∀ (m i:Nat),(∀ j,i≤j→j < i+m→p j=true)→allF p i m=true
 | 0,_,_=>rfl
 | m+1,i,h=>by rw[allF,h i (Nat.le_refl _) (by omega),allF_of m (i+1) fun j h1 h2=>h j (by omega) (by omega)];rfl
structure Ckd (ops:List XOp) (li ls:Nat) (strs:List ByteArray) (rels:List XRel):Prop where
 len:1≤ops.length∧ops.length≤500
 bi:li≤200
 bs:strs.length≤200
 br:rels.length≤500
 last:((ops.getD (ops.length - 1) op0).op==40)=true
 str:∀ i,i < strs.length→strOkF (strs.getD i ⟨#[]⟩)=true
 right:∀ i,i < ops.length→rightF ops li ls i=true
 rel:∀ i,i < rels.length→relOkF ops rels i=true
theorem ckd_of {ops:List XOp} {ints:List Int} {strs:List ByteArray} {rels:List XRel} (h:checkF ops ints strs rels=true):Ckd ops ints.length strs.length strs rels:=by
 have hi:=check_i200 h;have hg:=check_good h;refine⟨⟨hg.pos,hg.len⟩,hi.1,hi.2.1,hi.2.2,hg.last,fun i hlt=>?_,hg.right,hg.rel⟩;unfold checkF at h;split at h
 ·split at h
  ·cases h
  ·split at h
   ·cases h
   ·split at h
    ·cases h
    ·split at h
     ·cases h
     ·split at h
      ·rename_i h6;exact allF_get _ _ _ h6 i (Nat.zero_le _) (by omega)
      ·cases h
 ·cases h
theorem of_ckd {ops:List XOp} {ints:List Int} {strs:List ByteArray} {rels:List XRel} (h:Ckd ops ints.length strs.length strs rels):checkF ops ints strs rels=true:=by
 have hlen:=h.len;have hli:=h.bi;have hls:=h.bs;have hlr:=h.br;unfold checkF;rw[if_pos (by simp;omega),if_neg (by simp;omega),if_neg (by simp;omega),if_neg (by simp;omega),if_neg (by rw[h.last];decide),if_pos (allF_of _ _ fun j _ hj=>h.str j (by omega)),if_pos (allF_of _ _ fun j _ hj=>h.right j (by omega))];exact allF_of _ _ fun j _ hj=>h.rel j (by omega)
theorem pl_keep (p i s:Int) (o:XOp):(plOp p i s o).op=o.op∧(plOp p i s o).d=o.d∧(plOp p i s o).a=o.a∧(plOp p i s o).b=o.b:=by
 unfold plOp;split
 ·split
  ·exact⟨rfl,rfl,rfl,rfl⟩
  ·split <;> exact⟨rfl,rfl,rfl,rfl⟩
 ·exact⟨rfl,rfl,rfl,rfl⟩
theorem pl_n {p i s:Int} {o:XOp}:(plOp p i s o).n=if o.op=p then (if o.n=i then s else if i < o.n then o.n - 1 else o.n) else o.n:=by
 unfold plOp;by_cases h1:o.op=p
 ·by_cases h2:o.n=i
  ·simp[h1,h2]
  ·by_cases h3:i < o.n
   ·simp[h1,h2,h3]
   ·simp[h1,h2,h3]
 ·simp[h1]
theorem getD_pl (ops:List XOp) (p i s:Int) (hp:p ≠ 0) (j:Nat):(ops.map (plOp p i s)).getD j op0=plOp p i s (ops.getD j op0):=getD_map (plOp p i s) op0 (by unfold plOp;rw[if_neg];simpa[op0] using fun h=>hp h.symm) ops j
theorem pl_ckd {ops:List XOp} {li ls li' ls':Nat} {strs strs':List ByteArray} {rels:List XRel} (h:Ckd ops li ls strs rels) {p i s:Int} {N:Nat} (hp:p=1∧li=N+1∧li'=N∧ls'=ls∨p=2∧ls=N+1∧ls'=N∧li'=li) (hi:0≤i∧i≤N) (hs:s < i) (hs':∀ o ∈ ops,o.op=p→o.n=i→0≤s)
 (hstr:strs'.length≤200∧∀ i,i < strs'.length→strOkF (strs'.getD i ⟨#[]⟩)=true):Ckd (ops.map (plOp p i s)) li' ls' strs' rels:=by
 have hp0:p ≠ 0:=by omega
 have g:=getD_pl ops p i s hp0;have k:=pl_keep p i s;refine⟨by rw[List.length_map];exact h.len,by have:=h.bi;omega,hstr.1,h.br,by rw[List.length_map,g,(k _).1];exact h.last,hstr.2,fun j hj=>?_,fun j hj=>?_⟩
 ·rw[List.length_map] at hj;have hr:=h.right j hj;have hm:ops.getD j op0 ∈ ops:=getD_memG hj;unfold rightF at hr ⊢;simp only[Int.toNat_natCast] at hr ⊢;rw[g];have kk:=k (ops.getD j op0);have kn:=pl_n (p:=p) (i:=i) (s:=s) (o:=ops.getD j op0);have hs2:=hs' (ops.getD j op0) hm;generalize plOp p i s (ops.getD j op0)=y at *;generalize ops.getD j op0=o at *;obtain⟨k1,k2,k3,k4⟩:=kk;rw[k1,k2,k3,k4,List.length_map];split at hr;rotate_left
  ·cases hr
  rename_i c1;rw[if_pos c1];split at hr;rotate_left
  ·cases hr
  rename_i c2;rw[if_pos c2];split at hr;rotate_left
  ·cases hr
  rename_i c3;rw[if_pos c3];split at hr;rotate_left
  ·cases hr
  rename_i c4;rw[if_pos c4];rw[kn];unfold fitsF at hr ⊢;by_cases e1:o.op=1
  ·rw[if_pos (by simpa using e1)] at hr ⊢;simp only[inF,Bool.and_eq_true,decide_eq_true_eq] at hr ⊢;rcases hp with ⟨hp1,hp2,hp3,hp4⟩ | ⟨hp1,hp2,hp3,hp4⟩
   ·rw[if_pos (show o.op=p by omega)];split
    ·rename_i e2;have:=hs2 (by omega) e2;omega
    ·split <;> omega
   ·rw[if_neg (show ¬ o.op=p by omega)];omega
  ·rw[if_neg (by simpa using e1)] at hr ⊢;by_cases e2:o.op=2
   ·rw[if_pos (by simpa using e2)] at hr ⊢;simp only[inF,Bool.and_eq_true,decide_eq_true_eq] at hr ⊢;rcases hp with ⟨hp1,hp2,hp3,hp4⟩ | ⟨hp1,hp2,hp3,hp4⟩
    ·rw[if_neg (show ¬ o.op=p by omega)];omega
    ·rw[if_pos (show o.op=p by omega)];split
     ·rename_i e2;have:=hs2 (by omega) e2;omega
     ·split <;> omega
   ·rw[if_neg (by simpa using e2)] at hr ⊢;rw[if_neg (show ¬ o.op=p by omega)];exact hr
 ·have hr:=h.rel j hj;unfold relOkF at hr ⊢;dsimp only at hr ⊢;rw[List.length_map];have e:((ops.map (plOp p i s)).getD (rels.getD (j:Int).toNat ⟨0,0,⟨#[]⟩,⟨#[]⟩⟩).at_.toNat ⟨0,0,0,0,0⟩).op=(ops.getD (rels.getD (j:Int).toNat ⟨0,0,⟨#[]⟩,⟨#[]⟩⟩).at_.toNat ⟨0,0,0,0,0⟩).op:=by
   have:=g (rels.getD (j:Int).toNat ⟨0,0,⟨#[]⟩,⟨#[]⟩⟩).at_.toNat;unfold op0 at this;rw[this,(k _).1]
  rw[e];exact hr
theorem getD_erase {α:Type} (l:List α) (i j:Nat) (d:α):(l.eraseIdx i).getD j d=if j < i then l.getD j d else l.getD (j+1) d:=by
 simp only[List.getD_eq_getElem?_getD,List.getElem?_eraseIdx];split <;> rfl
theorem sameI_lt {ops:List XOp} {ints:List Int} {rels:List XRel} {q:Int} (h0:0≤q):sameI ops ints rels q < q:=by
 unfold sameI;split
 ·omega
 ·unfold sameR;split
  ·omega
  ·split <;> omega
theorem sameS_lt {strs:List ByteArray} {q:Int} (h0:0≤q):sameS strs q < q:=by
 unfold sameS;rcases idxAt_spec (fun x=>(strs.getD q.toNat ⟨#[]⟩).toList==x.toList) (strs.take q.toNat) 0 with ⟨h,_⟩ | ⟨k,h1,h,_⟩
 ·rw[h];omega
 ·rw[h];rw[List.length_take] at h1;omega
theorem pool_check {ops:List XOp} {ints:List Int} {strs:List ByteArray} {rels:List XRel} {q:Int} {c:XCode} (hck:checkF ops ints strs rels=true) (h0:0≤q) (hq:q < (ints.length:Int)+(strs.length:Int)) (h:poolF ops ints strs rels q=some c):checkC c=true:=by
 have hk:=ckd_of hck;have key:∀ {p i s:Int},¬ (((ops.any fun o=>o.op==p&&o.n==i)&&decide (s < 0))=true)→∀ o ∈ ops,o.op=p→o.n=i→0≤s:=fun {p i s} hn o ho h1 h2=>by
  simp only[Bool.and_eq_true,decide_eq_true_eq,not_and,List.any_eq_true,beq_iff_eq] at hn;have:=hn ⟨o,ho,h1,h2⟩;omega
 unfold poolF at h;split at h
 ·rename_i hqi;simp only[decide_eq_true_eq] at hqi;split at h
  ·cases h
  rename_i hn;injection h with h
  subst h;have hl:(ints.eraseIdx q.toNat).length=ints.length - 1:=List.length_eraseIdx_of_lt (by omega);refine of_ckd ?_;rw[hl];exact pl_ckd (N:=ints.length - 1) hk (.inl ⟨rfl,by omega,rfl,rfl⟩) ⟨h0,by omega⟩ (sameI_lt h0) (key hn) ⟨hk.bs,hk.str⟩
 ·rename_i hqi;simp only[decide_eq_true_eq] at hqi;split at h
  ·cases h
  rename_i hn;injection h with h
  subst h;have hl:(strs.eraseIdx (q - ints.length).toNat).length=strs.length - 1:=List.length_eraseIdx_of_lt (by omega);refine of_ckd ?_;rw[hl];refine pl_ckd (N:=strs.length - 1) hk (.inr ⟨rfl,by omega,rfl,rfl⟩) ⟨by omega,by omega⟩ (sameS_lt (by omega)) (key hn) ⟨by rw[hl];have:=hk.bs;omega,fun j hj=>?_⟩;rw[hl] at hj;rw[getD_erase];split
  ·exact hk.str j (by omega)
  ·exact hk.str (j+1) (by omega)
structure Pooled (c:XCode):Prop where
 ints:∀ i:Nat,i < c.ints.length→(c.ops.any fun o=>o.op==1&&o.n==(i:Int))=true
 intsEq:∀ i k:Nat,k < i→i < c.ints.length→c.ints.getD i 0=c.ints.getD k 0→(c.rels.any (fixF c.ops i))=true∨(c.rels.any (fixF c.ops k))=true
 strs:∀ i:Nat,i < c.strs.length→(c.ops.any fun o=>o.op==2&&o.n==(i:Int))=true
 strsEq:∀ i k:Nat,k < i→i < c.strs.length→((c.strs.getD i ⟨#[]⟩).toList==(c.strs.getD k ⟨#[]⟩).toList)=false
theorem pooled {c:XCode} (hck:checkC c=true) (hs:stepsC c=[]):Pooled c:=by
 have hk:checkF c.ops c.ints c.strs c.rels=true:=hck;have hn:∀ q:Int,0≤q→q < (c.ints.length:Int)+(c.strs.length:Int)→poolF c.ops c.ints c.strs c.rels q=none:=fun q h0 hq=>by
  cases hp:poolF c.ops c.ints c.strs c.rels q with
  | none=>rfl
  | some d=>
    exfalso;have h1:applyF c.ops c.ints c.strs c.rels (workS c.ops c.ints c.rels).1 (workS c.ops c.ints c.rels).2 (workL c.ops) 8 q=some d:=by
     unfold applyF;rw[if_pos (by decide),if_neg (by simp;omega),if_neg (by unfold placesF;simp;omega)];have:stepF c.ops c.ints c.strs c.rels (workS c.ops c.ints c.rels).1 (workS c.ops c.ints c.rels).2 (workL c.ops) 8 q=some d:=hp;rw[this,Option.bind_some,if_pos (pool_check hk h0 hq hp)]
    have h2:=mem_stepsW.2 h1;have h3:((8:Int),q,d) ∈ stepsC c:=h2;rw[hs] at h3;cases h3
 have hI:∀ i:Nat,i < c.ints.length→(c.ops.any fun o=>o.op==1&&o.n==(i:Int))=true∧sameI c.ops c.ints c.rels i < 0:=fun i hi=>by
  have:=hn i (by omega) (by omega);unfold poolF at this;rw[if_pos (by simp;omega)] at this;split at this
  ·rename_i h1;simpa using h1
  ·cases this
 have hS:∀ i:Nat,i < c.strs.length→(c.ops.any fun o=>o.op==2&&o.n==(i:Int))=true∧sameS c.strs i < 0:=fun i hi=>by
  have:=hn ((c.ints.length:Int)+i) (by omega) (by omega);unfold poolF at this;rw[if_neg (by rw[decide_eq_true_eq];omega)] at this;have e:(c.ints.length:Int)+(i:Int) - (c.ints.length:Int)=(i:Int):=by omega
  rw[e] at this;split at this
  ·rename_i h1;simpa using h1
  ·cases this
 refine⟨fun i hi=>(hI i hi).1,fun i k hki hi he=>?_,fun i hi=>(hS i hi).1,fun i k hki hi=>?_⟩
 ·have h:=(hI i hi).2;unfold sameI at h;split at h
  ·rename_i hf;exact .inl hf
  ·right;unfold sameR at h;rw[if_neg (by decide)] at h;cases hf:c.rels.any (fixF c.ops k) with
   | true=>rfl
   | false=>
     exfalso;have hle:=firstF_le (eqP c.ops c.ints c.rels (c.ints.getD (i:Int).toNat 0)) ((i:Int).toNat - (0:Int).toNat) (0:Int).toNat;have hnot:¬ firstF (eqP c.ops c.ints c.rels (c.ints.getD (i:Int).toNat 0)) (0:Int).toNat ((i:Int).toNat - (0:Int).toNat) < (i:Int).toNat:=fun hlt=>by
      rw[if_pos hlt] at h;omega
     simp only[Int.toNat_natCast,Int.toNat_zero,Nat.sub_zero] at hnot hle;have hp:eqP c.ops c.ints c.rels (c.ints.getD i 0) k=true:=by
      unfold eqP;rw[he,hf];simp
     have:∀ (p:Nat→Bool) (m s:Nat),p k=true→s≤k→k < s+m→firstF p s m≤k:=by
      intro p m
      induction m with
      | zero=>intro s _ h1 h2;omega
      | succ m ih=>
        intro s h1 h2 h3;unfold firstF;split
        ·exact h2
        ·rename_i hps;have hne:s ≠ k:=fun e=>hps (by rw[e];exact h1)
         exact ih (s+1) h1 (by omega) (by omega)
     have:=this (eqP c.ops c.ints c.rels (c.ints.getD i 0)) i 0 hp (Nat.zero_le _) (by omega);omega
 ·have h:=(hS i hi).2;unfold sameS at h;rw[Int.toNat_natCast] at h;rcases idxAt_spec (fun x=>(c.strs.getD i ⟨#[]⟩).toList==x.toList) (c.strs.take i) 0 with ⟨_,h2⟩ | ⟨m,_,h2,_⟩
  ·refine h2 k _ ?_;rw[List.getElem?_take,if_pos hki];exact getD_get (by omega)
  ·rw[h2] at h;omega
abbrev Mk3:=List Bool × List Bool × List Bool
def mk1 (rels:List XRel) (i:Int) (o:XOp) (s:Mk3):Mk3:=
 (if (o.op==1)=true then s.1.set o.n.toNat (s.1.getD o.n.toNat false || rels.any fun r=>r.at_==i) else s.1,if (o.op==1)=true then s.2.1.set o.n.toNat true else s.2.1,if (o.op==2)=true then s.2.2.set o.n.toNat true else s.2.2)
def marks (rels:List XRel):List XOp→Int→Mk3→Mk3
 | [],_,s=>s
 | o::r,i,s=>marks rels r (i+1) (mk1 rels i o s)
def Len3 (n m:Nat) (s:Mk3):Prop:=s.1.length=n∧s.2.1.length=n∧s.2.2.length=m
theorem mk1_len {n m:Nat} {rels:List XRel} {i:Int} {o:XOp} {s:Mk3} (h:Len3 n m s):Len3 n m (mk1 rels i o s):=by
 obtain⟨h1,h2,h3⟩:=h;unfold mk1;refine⟨?_,?_,?_⟩ <;> dsimp only <;> split <;> simp[h1,h2,h3]
theorem marks_len {n m:Nat} {rels:List XRel}:∀ (l:List XOp) (i:Int) (s:Mk3),Len3 n m s→Len3 n m (marks rels l i s)
 | [],_,_,h=>h
 | o::r,i,s,h=>marks_len r (i+1) _ (mk1_len h)
theorem mk1_up {n m:Nat} {rels:List XRel} {i:Int} {o:XOp} {s:Mk3} (h:Len3 n m s) (q:Nat):(s.1.getD q false=true→(mk1 rels i o s).1.getD q false=true)∧(s.2.1.getD q false=true→(mk1 rels i o s).2.1.getD q false=true)∧(s.2.2.getD q false=true→(mk1 rels i o s).2.2.getD q false=true):=by
 have key:∀ (l:List Bool) (k:Nat) (b:Bool),(l.getD k false=true→b=true)→l.getD q false=true→(l.set k b).getD q false=true:=fun l k b hb hq=>by
  rcases Nat.lt_or_ge k l.length with hk | hk
  ·rw[getD_set _ _ _ _ _ hk];split
   ·rename_i e;subst e;exact hb hq
   ·exact hq
  ·rw[List.set_eq_of_length_le hk];exact hq
 unfold mk1;refine⟨fun hq=>?_,fun hq=>?_,fun hq=>?_⟩ <;> dsimp only <;> split
 ·exact key _ _ _ (fun h=>by rw[h];rfl) hq
 ·exact hq
 ·exact key _ _ _ (fun _=>rfl) hq
 ·exact hq
 ·exact key _ _ _ (fun _=>rfl) hq
 ·exact hq
theorem marks_up {n m:Nat} {rels:List XRel} (q:Nat):∀ (l:List XOp) (i:Int) (s:Mk3),Len3 n m s→(s.1.getD q false=true→(marks rels l i s).1.getD q false=true)∧(s.2.1.getD q false=true→(marks rels l i s).2.1.getD q false=true)∧(s.2.2.getD q false=true→(marks rels l i s).2.2.getD q false=true)
 | [],_,_,_=>⟨id,id,id⟩
 | o::r,i,s,h=>by
   have h1:=mk1_up (rels:=rels) (i:=i) (o:=o) h q;have h2:=marks_up (rels:=rels) q r (i+1) _ (mk1_len (rels:=rels) (i:=i) (o:=o) h);exact⟨fun x=>h2.1 (h1.1 x),fun x=>h2.2.1 (h1.2.1 x),fun x=>h2.2.2 (h1.2.2 x)⟩
theorem marks_hit {n m:Nat} {rels:List XRel}:∀ (l:List XOp) (i:Int) (s:Mk3) (j:Nat) (o:XOp),Len3 n m s→l[j]? = some o→
 (o.op=1→o.n.toNat < n→(marks rels l i s).2.1.getD o.n.toNat false=true∧((rels.any fun r=>r.at_==i+j)=true→(marks rels l i s).1.getD o.n.toNat false=true))∧(o.op=2→o.n.toNat < m→(marks rels l i s).2.2.getD o.n.toNat false=true)
 | [],_,_,_,_,_,hj=>by simp at hj
 | o'::r,i,s,0,o,h,hj=>by
   simp only[List.getElem?_cons_zero,Option.some.injEq] at hj;subst hj;obtain⟨l1,l2,l3⟩:=h;have h2:=marks_up (n:=n) (m:=m) (rels:=rels) o'.n.toNat r (i+1) (mk1 rels i o' s) (mk1_len ⟨l1,l2,l3⟩);refine⟨fun e hn=>⟨h2.2.1 ?_,fun hr=>h2.1 ?_⟩,fun e hn=>h2.2.2 ?_⟩
   ·unfold mk1;dsimp only;rw[if_pos (by simpa using e),getD_set _ _ _ _ _ (by omega),if_pos rfl]
   ·unfold mk1;dsimp only;rw[if_pos (by simpa using e),getD_set _ _ _ _ _ (by omega),if_pos rfl];have:(rels.any fun r=>r.at_==i)=true:=by simpa using hr
    rw[this,Bool.or_true]
   ·unfold mk1;dsimp only;rw[if_pos (by simpa using e),getD_set _ _ _ _ _ (by omega),if_pos rfl]
 | o'::r,i,s,j+1,o,h,hj=>by
   have ih:=marks_hit (rels:=rels) r (i+1) (mk1 rels i o' s) j o (mk1_len h) (by simpa using hj);have e:i+1+(j:Int)=i+((j+1:Nat):Int):=by omega
   rw[e] at ih;exact ih
structure Seen (c:XCode) (s:Mk3):Prop where
 len:Len3 c.ints.length c.strs.length s
 ints:∀ i,i < c.ints.length→s.2.1.getD i false=true
 eq:∀ i k,k < i→i < c.ints.length→(c.ints.getD i 0==c.ints.getD k 0)=true→s.1.getD i false=false→s.1.getD k false=true
 strs:∀ i,i < c.strs.length→s.2.2.getD i false=true
theorem seen {c:XCode} (hck:checkC c=true) (hp:Pooled c):Seen c (marks c.rels c.ops 0 (List.replicate c.ints.length false,List.replicate c.ints.length false,List.replicate c.strs.length false)):=by
 have hk:checkF c.ops c.ints c.strs c.rels=true:=hck;have hg:=check_good hk;have h0:Len3 c.ints.length c.strs.length (List.replicate c.ints.length false,List.replicate c.ints.length false,List.replicate c.strs.length false):=by simp[Len3]
 have hat:∀ r ∈ c.rels,0≤r.at_∧r.at_.toNat < c.ops.length:=fun r hr=>by
  obtain⟨i,hi,e⟩:=List.getElem_of_mem hr;have h1:=hg.rel i hi;unfold relOkF at h1;dsimp only at h1;rw[Int.toNat_natCast,List.getD_eq_getElem?_getD,List.getElem?_eq_getElem hi,e] at h1;simp only[Option.getD_some] at h1;split at h1
  ·cases h1
  ·rename_i h2;simp only[Bool.or_eq_true,Bool.not_eq_true',Bool.and_eq_false_iff,decide_eq_false_iff_not,not_or] at h2;have:=hg.pos;omega
 have hmv:∀ q:Nat,q < c.ints.length→(c.rels.any (fixF c.ops q))=true→(marks c.rels c.ops 0 (List.replicate c.ints.length false,List.replicate c.ints.length false,List.replicate c.strs.length false)).1.getD q false=true:=fun q hq hf=>by
  obtain⟨r,hr,hf⟩:=List.any_eq_true.1 hf;obtain⟨r0,rl⟩:=hat r hr;unfold fixF at hf;simp only[Bool.and_eq_true,beq_iff_eq] at hf;obtain⟨f1,f2⟩:=hf;have hget:=getD_get (d:=(⟨0,0,0,0,0⟩:XOp)) rl;have:=(marks_hit (rels:=c.rels) c.ops 0 _ r.at_.toNat _ h0 hget).1 f1 (by rw[f2];simpa using hq);have h3:=this.2 (List.any_eq_true.2 ⟨r,hr,by simp;omega⟩);rw[f2] at h3;simpa using h3
 refine⟨marks_len _ _ _ h0,fun i hi=>?_,fun i k hki hi he hm=>?_,fun i hi=>?_⟩
 ·obtain⟨o,ho,h1⟩:=List.any_eq_true.1 (hp.ints i hi);simp only[Bool.and_eq_true,beq_iff_eq] at h1;obtain⟨j,hj,e⟩:=List.getElem_of_mem ho;have:=(marks_hit (rels:=c.rels) c.ops 0 _ j o h0 (by rw[List.getElem?_eq_getElem hj,e])).1 h1.1 (by rw[h1.2];simpa using hi);have:=this.1;rw[h1.2] at this;simpa using this
 ·rcases hp.intsEq i k hki hi (by simpa using he) with h | h
  ·rw[hmv i hi h] at hm;cases hm
  ·exact hmv k (by omega) h
 ·obtain⟨o,ho,h1⟩:=List.any_eq_true.1 (hp.strs i hi);simp only[Bool.and_eq_true,beq_iff_eq] at h1;obtain⟨j,hj,e⟩:=List.getElem_of_mem ho;have:=(marks_hit (rels:=c.rels) c.ops 0 _ j o h0 (by rw[List.getElem?_eq_getElem hj,e])).2 h1.1 (by rw[h1.2];simpa using hi);rw[h1.2] at this;simpa using this
end Go.Proofs.Tryd
end
