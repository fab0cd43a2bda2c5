/- A part of a proof. -/
import Derived.Test.YtbdbjpdlcemeaaaGreatDoorRu14
import Derived.Test.YtbdbjpdlcemeaaaGreatDoorRu19
import Derived.Test.YtbdbjpdlcemeaaaGreatDoorRu20
import Derived.Test.YtbdbjpdlcemeaaaGreatDoorRu21
set_option linter.unusedSimpArgs false
set_option linter.unusedVariables false
section
set_option maxHeartbeats 4000000
set_option maxRecDepth 20000
namespace Go.Proofs.Tryz
open Go Go.Abs
variable (N : List bp) (V : List Int) (I : List ByteArray) (U : List aP) (ao : List (List aB)) (aj : List Bool) (au : List Int)
def zf (r:aL × Bool):Option aL→Prop
 | some c=>r=(c,true)
 | none=>r.2=false
theorem dM {p:Prop} [Decidable p] {a b:aL × Bool} {x y:Option aL} (h1:p→zf a x) (h2:¬ p→zf b y):zf (if p then a else b) (if p then x else y):=by
 split
 ·exact h1 ‹_›
 ·exact h2 ‹_›
section
variable {N:List bp} {V:List Int} {I:List ByteArray} {U:List aP} {ao:List (List aB)} {aj:List Bool} {au:List Int} {q:Int}
theorem Jq (n:Int) (hi:V.length≤200):zf (oz N V I U q n) (cQ N V I U q (N.getD q.toNat bD).d n):=by
 unfold oz cQ;refine dM (fun _=>?_) (fun _=>rfl);by_cases h:V.length=200
 ·rw[if_pos (by omega),if_pos h];rfl
 ·rw[if_neg (by omega),if_neg h];rfl
theorem KL:zf (cf N V I U q,!(aj.getD q.toNat false)) (km N V I U aj q):=by
 unfold km;cases aj.getD q.toNat false <;> rfl
theorem G2:zf (l7 N V I U q) (iq N V I U q):=by
 unfold l7 iq;dsimp only;refine dM (fun _=>dM (fun _=>rfl) fun _=>?_) (fun _=>rfl);cases (N.getD q.toNat bD).op==24&&(N.getD q.toNat bD).n==q+1 <;> rfl
theorem PT (hg:Good N V.length I.length U) (h0:0≤q) (hq:q.toNat < N.length):zf (uZ N V I U q) (nD N V I U (cz N) q):=by
 have hl:q.toNat=N.length - 1→(N.getD q.toNat bD).op=40:=fun e=>by rw[e];simpa using hg.last
 have hu:B0 N (cz N) q=(gl (N.getD q.toNat bD).op&&(decide (q+1 < (N.length:Int))&& !(dz ((cz N).getD (q+1).toNat 0) (N.getD q.toNat bD).d))):=rfl;unfold uZ nD;dsimp only;rw[hu];generalize N.getD q.toNat bD=o at *;have hp3:o.op=3→gl o.op=true:=fun e=>by rw[e];rfl
 have pR:decide ((N.length:Int)≤q+1) = !(decide (q+1 < (N.length:Int))):=by
  by_cases h:q+1 < (N.length:Int)
  ·have:¬ ((N.length:Int)≤q+1):=by omega
   simp[h,this]
  ·have:(N.length:Int)≤q+1:=by omega
   simp[h,this]
 have Oa:decide (q+1 < (N.length:Int))=false→o.op ≠ 3:=fun h e=>by
  have h:=of_decide_eq_false h;have:=hl (by omega);omega
 rw[pR];cases h3:(o.op==3)
 ·cases gl o.op <;> cases decide (q+1 < (N.length:Int)) <;> cases dz ((cz N).getD (q+1).toNat 0) o.d <;> cases (o.d==o.a) <;> rfl
 ·have e3:o.op=3:=by simpa using h3
  rw[hp3 e3];cases hd:decide (q+1 < (N.length:Int))
  ·exact absurd e3 (Oa hd)
  ·cases dz ((cz N).getD (q+1).toNat 0) o.d <;> cases (o.d==o.a) <;> rfl
theorem G3:zf (l6 N V I U q (aj.getD q.toNat false) (ao.getD q.toNat [])) (ir N V I U ao aj q):=by
 unfold l6 ir cP;dsimp only;generalize N.getD q.toNat bD=o;have u1:(dW o.op 1 2).any (fun x=>1==x)=(a7 o.op).a:=by unfold dW;cases (a7 o.op).a <;> cases (a7 o.op).b <;> rfl
 have u2:(dW o.op 1 2).any (fun x=>2==x)=(a7 o.op).b:=by unfold dW;cases (a7 o.op).a <;> cases (a7 o.op).b <;> rfl
 rw[u1,u2];cases aj.getD q.toNat false <;> cases (a7 o.op).a&&((ao.getD q.toNat []).getD o.a.toNat ⟨0,0⟩).sort==2 <;> cases (a7 o.op).b&&((ao.getD q.toNat []).getD o.b.toNat ⟨0,0⟩).sort==2 <;> rfl
theorem Te {m n:Int} (hm:m ≠ 0) (hn:n ≠ 0):mK n m=iV m n:=by
 unfold mK iV Cy;by_cases h1:m < 0 <;> by_cases h2:n < 0;all_goals
  have h3:(0 < m) = ¬ (m < 0):=propext ⟨fun _=>by omega,fun _=>by omega⟩;have h4:(0 < n) = ¬ (n < 0):=propext ⟨fun _=>by omega,fun _=>by omega⟩;simp[h1,h2,h3,h4]
theorem PU (hf:((ao.getD q.toNat []).getD (N.getD q.toNat bD).a.toNat ⟨0,0⟩).sort=3→((ao.getD q.toNat []).getD (N.getD q.toNat bD).a.toNat ⟨0,0⟩).n ≠ 0) (ho:(N.getD q.toNat bD).op=19→(N.getD q.toNat bD).n ≠ 0):zf (uY N V I U q (aj.getD q.toNat false) (ao.getD q.toNat [])) (kn N V I U ao aj q):=by
 unfold uY kn cP sg;dsimp only;generalize N.getD q.toNat bD=o at *;generalize (ao.getD q.toNat []).getD o.a.toNat ⟨0,0⟩=f at *;refine dM (fun h=>?_) (fun _=>rfl);have bU:o.op=19:=by simpa using h
 cases h3:(f.sort==3)
 ·cases (o.n==64) <;> cases (o.n== -64) <;> cases aj.getD q.toNat false <;> rfl
 ·rw[Te (hf (by simpa using h3)) (ho bU)];cases (o.n==64) <;> cases (o.n== -64) <;> cases aj.getD q.toNat false <;> cases iV f.n o.n <;> rfl
theorem yC (k:Int):(iG k=true∧(a7 k).b=true∧(k==19)=false∧(k==17)=false∧(k==18)=false∧((decide (4≤k)&&decide (k≤16)) || [20,21,22].any fun x=>k==x)=true)∨(iG k=true∧(a7 k).b=false∧(k=17∨k=18∨k=19))∨
 (iG k=false∧(k==19)=false∧(k==17)=false∧(k==18)=false∧((decide (4≤k)&&decide (k≤16)) || [20,21,22].any fun x=>k==x)=false):=by
 by_cases h:4≤k∧k≤22
 ·have:k=4∨k=5∨k=6∨k=7∨k=8∨k=9∨k=10∨k=11∨k=12∨k=13∨k=14∨k=15∨k=16∨k=17∨k=18∨k=19∨k=20∨k=21∨k=22:=by omega
  rcases this with rfl|rfl|rfl|rfl|rfl|rfl|rfl|rfl|rfl|rfl|rfl|rfl|rfl|rfl|rfl|rfl|rfl|rfl|rfl
  all_goals first
   | exact .inl ⟨by decide,by decide,by decide,by decide,by decide,by decide⟩
   | exact .inr (.inl ⟨by decide,by decide,by decide⟩)
 ·have hn:∀ j:Int,4≤j→j≤22→(k==j)=false:=fun j h1 h2=>by simp;omega
  have h1:(decide (4≤k)&&decide (k≤16))=false:=by simp;omega
  refine .inr (.inr ⟨?_,hn 19 (by omega) (by omega),hn 17 (by omega) (by omega),hn 18 (by omega) (by omega),?_⟩)
  ·rw[Pj];simp only[h1,hn,Int.reduceLE,List.any_cons,List.any_nil,Bool.or_false]
  ·simp only[h1,hn,Int.reduceLE,List.any_cons,List.any_nil,Bool.or_false]
theorem td (o:bp) (ho:N.getD q.toNat bD=o) (hi:V.length≤200) {a b c:Int} (k:Bool) (h:k=true→kP o.op a b=eo o.op a c):zf (if k=true then lG N V I U q (kP o.op a b) else eN) (oh N V I U q o a c k):=by
 unfold oh lG;refine dM (fun hk=>?_) (fun _=>rfl);rw[h hk];refine dM (fun _=>?_) (fun _=>rfl);rw[← ho];exact Jq _ hi
theorem PV (hi:V.length≤200) (hf:∀ k,bM ((ao.getD q.toNat []).getD k ⟨0,0⟩).n) (ho:bM (N.getD q.toNat bD).n):zf (u3 N V I U q (aj.getD q.toNat false) (ao.getD q.toNat [])) (nB N V I U ao aj q):=by
 unfold u3 nB cP;dsimp only;obtain⟨o,hoe⟩:∃ o,N.getD q.toNat bD=o:=⟨_,rfl⟩
 rw[hoe] at ho ⊢;have ha:=hf o.a.toNat;have hb:=hf o.b.toNat;generalize (ao.getD q.toNat []).getD o.a.toNat ⟨0,0⟩=fa at *;generalize (ao.getD q.toNat []).getD o.b.toNat ⟨0,0⟩=fb at *;generalize (U.any fun r=>r.at_==q)=r;have vd:zf eN none:=rfl;cases aj.getD q.toNat false
 ·simp only[Bool.not_false,Bool.true_or,if_true,if_false,Bool.false_eq_true];exact vd
 cases r;rotate_left
 ·simp only[Bool.or_true,if_true];exact vd
 simp only[Bool.not_true,Bool.or_self,if_true,if_false,Bool.false_eq_true];refine dM (fun _=>dM (fun _=>?_) fun _=>vd) fun dU=>?_
 ·cases (fa.n==0) <;> rfl
 have he:=Ph o.op fa.n fb.n ha hb;have he2:=Ph o.op fa.n o.n ha ho;rcases yC o.op with ⟨e1,e2,e3,e4,e5,e6⟩|⟨e1,e2,hk⟩|⟨e1,e3,e4,e5,e6⟩
 ·have:=td (V:=V) (I:=I) (U:=U) o hoe hi (fa.sort==1&&fb.sort==1) (fun _=>he);rw[e1,e2,e3,e4,e5,e6];simp only[if_true,if_false,Bool.false_eq_true,Bool.not_true,Bool.false_or];cases hs:(fa.sort==1) <;> rw[hs] at this <;> exact this
 ·have im:o.op=17∨o.op=18→kP o.op fa.n o.n=eo o.op fa.n 0:=fun h=>by
   rw[he2];rcases h with h | h <;> rw[h] <;> simp[eo]
  have t1:=td (V:=V) (I:=I) (U:=U) o hoe hi (fa.sort==1) (fun _=>he2);have t2:=fun h=>td (V:=V) (I:=I) (U:=U) o hoe hi (fa.sort==1) (fun _=>im h)
  have hz:∀ (y:Option aL),zf (if (fa.sort==1)=true then lG N V I U q (kP o.op fa.n o.n) else eN) y→zf (if (!(iG o.op) || !(fa.sort==1))=true then eN else if (a7 o.op).b=true then (if (fb.sort==1)=true then lG N V I U q (kP o.op fa.n fb.n) else eN) else lG N V I U q (kP o.op fa.n o.n)) y:=fun y h=>by
   rw[e1,e2];cases hs:(fa.sort==1) <;> rw[hs] at h <;> exact h
  refine hz _ ?_;rcases hk with e | e | e
  ·rw[show (o.op==19)=false by rw[e];decide,show (o.op==17)=true by rw[e];decide];simp only[if_true,if_false,Bool.false_eq_true];exact t2 (.inl e)
  ·rw[show (o.op==19)=false by rw[e];decide,show (o.op==17)=false by rw[e];decide,show (o.op==18)=true by rw[e];decide];simp only[if_true,if_false,Bool.false_eq_true];exact t2 (.inr e)
  ·rw[show (o.op==19)=true by rw[e];decide];simp only[if_true];exact t1
 ·rw[e1,e3,e4,e5,e6];simp only[Bool.not_false,Bool.true_or,if_true,if_false,Bool.false_eq_true];exact vd
end
theorem te (p:Nat→Bool):∀ (n:Nat) (t:Int),(∃ k,k < n∧p k=true∧(∀ j,j < k→p j=false)∧kQ p n t=(k:Nat))∨((∀ j,j < n→p j=false)∧kQ p n t=t)
 | 0,t=> .inr ⟨fun j h=>by omega,rfl⟩
 | n+1,t=>by
   rw[kQ];rcases te p n (if p n=true then (n:Int) else t) with ⟨k,h1,h2,h3,h4⟩|⟨h1,h2⟩
   ·exact .inl ⟨k,by omega,h2,h3,h4⟩
   ·rw[h2];cases hp:p n
    ·rw[if_neg (by decide)];exact .inr ⟨fun j hj=>by rcases Nat.lt_or_ge j n with h | h;exact h1 j h;rw[show j=n by omega];exact hp,rfl⟩
    ·rw[if_pos rfl];exact .inl ⟨n,by omega,hp,h1,rfl⟩
theorem KM (p:Nat→Bool) (n:Nat):kQ p n (-1)=if bS p 0 n < n then (bS p 0 n:Int) else -1:=by
 rcases te p n (-1) with ⟨k,h1,h2,h3,h4⟩|⟨h1,h2⟩
 ·have:bS p 0 n=k:=by
   rw[iS p k 0 n (fun j _ hj=>h3 j (by omega)) (by omega),Nat.zero_add,uS h2 (by omega)]
  rw[h4,this,if_pos h1]
 ·rw[h2,if_neg fun h=>?_];have:=Eu p n 0 (by omega);rw[h1 _ h] at this;cases this
theorem Tf {α:Type} (p:Nat→Bool) (f:α→Bool) (l:List α) (n:Nat) (hn:n≤l.length) (h:∀ (j:Nat) (x:α),l[j]? = some x→p j=f x):kQ p n (-1)=bf f (l.take n) 0:=by
 have hl:(l.take n).length=n:=by rw[List.length_take];omega
 have hg:∀ j,j < n→(l.take n)[j]? = l[j]?:=fun j hj=>by rw[List.getElem?_take,if_pos hj]
 rcases te p n (-1) with ⟨k,h1,h2,h3,h4⟩|⟨h1,h2⟩ <;> rcases jF f (l.take n) 0 with ⟨g1,g2⟩|⟨k',g1,g2,g3,x,g4,g5⟩
 ·have hk:l[k]? = some (l[k]'(by omega)):=List.getElem?_eq_getElem _;have:=g2 k _ ((hg k h1).trans hk);rw[← h k _ hk,h2] at this;cases this
 ·rw[h4,g2];have hk:l[k]? = some (l[k]'(by omega)):=List.getElem?_eq_getElem _;rw[hg k' (by omega)] at g4;have e1:¬ (k < k'):=fun aR=>by
   have:=g3 k _ aR ((hg k h1).trans hk);rw[← h k _ hk,h2] at this;cases this
  have e2:¬ (k' < k):=fun aR=>by
   have:=h3 k' aR;rw[h k' _ g4,g5] at this;cases this
  omega
 ·rw[h2,g1]
 ·rw[hg k' (by omega)] at g4;have:=h1 k' (by omega);rw[h k' _ g4,g5] at this;cases this
theorem Tg {N:List bp} {p j t t':Int} (h:(N.any fun o=>o.op==p&&o.n==j)=false):N.map (fg p j t)=N.map (fg p j t'):=by
 refine List.map_congr_left fun o ho=>?_
 have:=(List.any_eq_false.1 h) o ho;unfold fg;cases h1:(o.op==p)
 ·rfl
 ·cases h2:(o.n==j)
  ·rfl
  ·rw[h1,h2] at this;exact absurd rfl this
section
variable {N:List bp} {V:List Int} {I:List ByteArray} {U:List aP} {ao:List (List aB)} {aj:List Bool} {au:List Int} {q:Int}
theorem PW (hl:V.length≤100000∧I.length≤100000) (h0:0≤q) (hq:q < (V.length+I.length:Int)):zf (pN N V I U q) (nC N V I U q):=by
 unfold pN nC;dsimp only;by_cases hi:q < (V.length:Int)
 ·rw[decide_eq_true h0,decide_eq_true hi];simp only[Bool.and_self,if_true];have hs:AK N V U q=if (U.any (fixF N q))=true then -1 else kQ (oZ N V U (V.getD q.toNat 0)) q.toNat (-1):=by
   unfold AK;rw[KM];rfl
  rw[hs];generalize kQ (oZ N V U (V.getD q.toNat 0)) q.toNat (-1)=t;cases hn:(N.any fun o=>o.op==1&&o.n==q)
  ·simp only[Bool.false_and,if_false,Bool.false_eq_true];exact congrArg (fun l=>((⟨l,V.eraseIdx q.toNat,I,U⟩:aL),true)) (Tg hn)
  ·cases hf:U.any (fixF N q)
   ·simp only[Bool.true_and,Bool.or_false,if_false,Bool.false_eq_true];exact dM (fun _=>rfl) fun _=>rfl
   ·simp only[Bool.or_true,Bool.true_and,if_true];rfl
 ·have hw:IntKind.i64.wrap (q - (V.length:Int))=q - (V.length:Int):=wrap_i64 (by omega) (by omega);have aR:(q - (V.length:Int)).toNat < I.length:=by omega
  rw[decide_eq_false hi,hw,decide_eq_false (show ¬ (q - (V.length:Int) < 0) by omega),decide_eq_false (show ¬ ((I.length:Int)≤q - (V.length:Int)) by omega)];simp only[Bool.and_false,Bool.or_self,if_false,Bool.false_eq_true];generalize q - (V.length:Int)=n at *;have hs:AL I n=kQ (UT I (I.getD n.toNat ⟨#[]⟩)) n.toNat (-1):=by
   unfold AL;refine (Tf _ _ I n.toNat (by omega) fun j x hx=>?_).symm;unfold UT;rw[List.getD_eq_getElem?_getD (i:=j),hx,Option.getD_some];exact Bool.eq_iff_iff.2 ⟨fun h=>by simpa using (by simpa using h:x.toList=_).symm,fun h=>by simpa using (by simpa using h:_=x.toList).symm⟩
  rw[hs];generalize kQ (UT I (I.getD n.toNat ⟨#[]⟩)) n.toNat (-1)=t;cases hn:(N.any fun o=>o.op==2&&o.n==n)
  ·simp only[Bool.false_and,if_false,Bool.false_eq_true];rfl
  ·simp only[Bool.true_and];exact dM (fun _=>rfl) fun _=>rfl
theorem PX {α:Type} (c1 c2 c3:Bool) (X Y:α):(if c1=true then X else if c2=true then X else if c3=true then X else Y)=if ((c1 || c2) || c3)=true then X else Y:=by cases c1 <;> cases c2 <;> cases c3 <;> rfl
theorem ais {α:Type} (e l:Bool) (X Y:α):(if e=true then (if l=true then X else Y) else Y)=if (e&&l)=true then X else Y:=by cases e <;> cases l <;> rfl
theorem ait {α:Type} (c e:Bool) (X Y:α):(if c=true then X else if e=true then X else Y)=if (c || e)=true then X else Y:=by cases c <;> cases e <;> rfl
theorem aba (k:Int) (s:Bool) (n:Int):((ew s n 0 k [4,5,12,13,14,15,16] || ew s n 1 k [6,7,8]) || ew s n (-1) k [11])=sr k (s&&n==0) (s&&n==1) (s&&n== -1) (Ff k) (PA k):=by
 have h1:∀ s z a b c d e f g:Bool,(s&&(z&&(a || (b || (c || (d || (e || (f || g))))))))=((s&&z)&&((((a || c) || d) || ((e || f) || g)) || b)):=by decide
 have h2:∀ s z a b c:Bool,(s&&(z&&(a || (b || c))))=((s&&z)&&((a || b) || c)):=by decide
 have h3:∀ s z a:Bool,(s&&(z&&a))=((s&&z)&&a):=by decide
 simp only[ew,sr,Ff,PA,List.any_cons,List.any_nil,Bool.or_false];rw[h1,h2,h3]
theorem abb (k:Int) (s:Bool) (n:Int):((ew s n 0 k [4,12,13] || ew s n 1 k [6]) || ew s n (-1) k [11])=yK k (s&&n==0) (s&&n==1) (s&&n== -1) (Ff k):=by
 have h2:∀ s z a b c:Bool,(s&&(z&&(a || (b || c))))=((s&&z)&&((a || b) || c)):=by decide
 have h3:∀ s z a:Bool,(s&&(z&&a))=((s&&z)&&a):=by decide
 simp only[ew,yK,Ff,List.any_cons,List.any_nil,Bool.or_false];rw[h2,h3,h3]
theorem abc (k:Int) (sa sb e:Bool) (na nb:Int):(((ew sa na 0 k [6,11] || ew sb nb 0 k [6,11]) || ew sb nb 1 k [9,10]) || (e&&[5,13].any fun x=>k==x))=mL k (sa&&na==0) (sb&&nb==0) (sb&&nb==1) e:=by
 have h:∀ s z t y u a b c d e f g:Bool,((((s&&(z&&(a || b))) || (t&&(y&&(a || b)))) || (t&&(u&&(c || d)))) || (e&&(f || g)))=(((((s&&z) || (t&&y))&&(a || b)) || ((t&&u)&&(c || d))) || (e&&(f || g))):=by decide
 simp only[ew,mL,List.any_cons,List.any_nil,Bool.or_false];rw[h]
theorem Th (k:Int) (a0 a1 am b0 b1 bm e:Bool) (h:¬ (4≤k∧k≤16)):sr k b0 b1 bm (Ff k) (PA k)=false∧yK k a0 a1 am (Ff k)=false∧mL k a0 b0 b1 e=false:=by
 have hn:∀ j:Int,4≤j→j≤16→(k==j)=false:=fun j h1 h2=>by simp;omega
 simp only[sr,yK,mL,Ff,PA,hn,Int.reduceLE,Bool.or_self,Bool.and_false,and_self]
theorem KN (hi:V.length≤200):zf (oA N V I U q (aj.getD q.toNat false) (ao.getD q.toNat [])) (kp N V I U ao aj q):=by
 have vd:zf eN none:=rfl;have hp:=Jq (N:=N) (V:=V) (I:=I) (U:=U) (q:=q) 0 hi;have hm:∀ a:Int,zf (sg N V I U q a) (g_ N V I U q (N.getD q.toNat bD).d a):=fun a=>rfl
 unfold oA kp cP Pz;dsimp only;generalize N.getD q.toNat bD=o at *;generalize (ao.getD q.toNat []).getD o.a.toNat ⟨0,0⟩=fa at *;generalize (ao.getD q.toNat []).getD o.b.toNat ⟨0,0⟩=fb at *;cases aj.getD q.toNat false
 ·simp only[Bool.not_false,Bool.true_or,if_true,if_false,Bool.false_eq_true];exact vd
 simp only[Bool.not_true,Bool.false_or,if_true];by_cases hr:4≤o.op∧o.op≤16
 ·have h1:iG o.op=true∧(a7 o.op).b=true:=by
   rcases yC o.op with ⟨e1,e2,_⟩|⟨_,_,hk⟩|⟨_,_,_,_,e⟩
   ·exact⟨e1,e2⟩
   ·omega
   ·simp only[Bool.or_eq_false_iff,Bool.and_eq_false_iff,decide_eq_false_iff_not] at e;omega
  rw[h1.1,h1.2,decide_eq_false (show ¬ (o.op < 4) by omega),decide_eq_false (show ¬ (16 < o.op) by omega)];simp only[Bool.not_true,Bool.or_self,if_false,Bool.false_eq_true];rw[ais,PX,PX,PX,ait,aba,abb,abc];exact dM (fun _=>hm _) fun _=>dM (fun _=>hm _) fun _=>dM (fun _=>hp) fun _=>vd
 ·have aiu:∀ y:Option aL,(if decide (o.op < 4)=true then none else if decide (16 < o.op)=true then none else y)=none:=fun y=>by
   by_cases h4:o.op < 4
   ·rw[decide_eq_true h4];rfl
   ·rw[decide_eq_false h4,decide_eq_true (show 16 < o.op by omega)];rfl
  rw[aiu];obtain⟨g1,g2,g3⟩:=Th o.op (fa.sort==1&&fa.n==0) (fa.sort==1&&fa.n==1) (fa.sort==1&&fa.n== -1) (fb.sort==1&&fb.n==0) (fb.sort==1&&fb.n==1) (fb.sort==1&&fb.n== -1) (o.a==o.b) hr;rw[g1,g2,g3];split
  ·exact vd
  ·exact vd
def TR (f:List aB):Prop:=∀ x ∈ f,x.sort=3→x.n ≠ 0
theorem TR.getD {f:List aB} (h:TR f) (i:Nat):(f.getD i ⟨0,0⟩).sort=3→(f.getD i ⟨0,0⟩).n ≠ 0:=by
 rcases Nat.lt_or_ge i f.length with hi | hi
 ·exact h _ (eP hi)
 ·rw[List.getD_eq_getElem?_getD,List.getElem?_eq_none hi];intro h;cases h
theorem vw {lo li ls:Nat} {k n:Int} (h:ey lo li ls q k n=true) (hk:k=19∨k=26∨k=27):n ≠ 0:=by
 rintro rfl;have:(cn 0).isSome=true:=by rcases hk with rfl|rfl|rfl <;> exact h
 cases this
theorem KO {f:List aB} (h:TR f) (hf:ey N.length V.length I.length q (N.getD q.toNat bD).op (N.getD q.toNat bD).n=true):TR (eY N V U f q):=by
 rw[EN];split
 ·intro x hx;have hm:(ze N V U f q).sort=3→(ze N V U f q).n ≠ 0:=by
   have hg:=h.getD (N.getD q.toNat bD).a.toNat;unfold ze;dsimp only;generalize N.getD q.toNat bD=o at *;generalize f.getD o.a.toNat ⟨0,0⟩=a at *;have ht:=vw hf;rw[UP];unfold EO;repeat' split
   all_goals first
    | (intro h;cases h;done)
    | exact hg
    | (intro _;exact ht (by simp_all))
    | (intro _;decide)
  rcases List.mem_or_eq_of_mem_set hx with h1 | h1
  ·obtain⟨y,h2,rfl⟩:=List.mem_map.1 h1;unfold kr;split
   ·intro h;cases h
   ·exact h y h2
  ·subst h1;exact hm
 ·exact h
theorem Ti {a b:List aB} (h:TR a):TR (js a b):=by
 intro x hx;unfold js at hx;obtain⟨i,hi,rfl⟩:=List.getElem_of_mem hx;rw[List.getElem_zipWith];unfold uV;split
 ·intro h;cases h
 ·exact h _ (List.getElem_mem _)
def Qo (s:List (List aB) × List Bool):Prop:=∀ f ∈ s.1,TR f
theorem Qo.getD {s:List (List aB) × List Bool} (h:Qo s) (i:Nat):TR (s.1.getD i []):=by
 rcases Nat.lt_or_ge i s.1.length with hi | hi
 ·exact h _ (gK hi)
 ·rw[List.getD_eq_getElem?_getD,List.getElem?_eq_none hi];intro x hx;simp at hx
theorem Qo.set {s:List (List aB) × List Bool} (h:Qo s) {i:Nat} {f:List aB} (hf:TR f) (r:List Bool):Qo (s.1.set i f,r):=fun g hg=>by
 rcases List.mem_or_eq_of_mem_set hg with h1 | h1
 ·exact h g h1
 ·subst h1;exact hf
theorem E3 {out:List aB} (ho:TR out):∀ (l:List Int) (s:List (List aB) × List Bool),Qo s→Qo (l.foldl (lF out) s)
 | [],s,h=>h
 | k::l,s,h=>by
   rw[List.foldl_cons];refine E3 ho l _ ?_;unfold lF;split
   ·exact h.set (Ti (h.getD _)) _
   ·exact h.set ho _
theorem E4 (Gm:∀ i:Nat,i < N.length→ey N.length V.length I.length i (N.getD i bD).op (N.getD i bD).n=true):∀ (m i:Nat) (s:List (List aB) × List Bool),i+m≤N.length→Qo s→Qo (dT N V U m i s)
 | 0,_,s,_,h=>h
 | m+1,i,s,hi,h=>by
   rw[dT];refine E4 Gm m (i+1) _ (by omega) ?_;unfold qc;split
   ·exact E3 (KO (I:=I) (h.getD _) (by rw[Int.toNat_natCast];exact Gm i (by omega))) _ _ h
   ·exact h
theorem PY (hg:Good N V.length I.length U):Qo (bz N V U):=by
 refine E4 (I:=I) (fun i h=>?_) _ _ _ (by omega) fun f hf=>?_
 ·have:=(jr (hg.right i h)).fit
  rwa [Int.toNat_natCast] at this
 ·simp only[gz,List.mem_replicate] at hf;rw[hf.2];intro x hx;rw[(List.mem_replicate.1 hx).2];intro h;cases h
theorem aiv (hw:XA N V I U ao aj au) (h0:0≤q) (hq:q.toNat < N.length):RW N V I U q (ao.getD q.toNat []) where
 lim:=hw.lim
 i200:=hw.i200
 h0:=h0
 aR:=hq
 f8:=hw.b8 _ hq
 op:=hw.op _ hq
 rel:=hw.rel
 jmp:=hw.jmp _ (gK hq)
 vE:=hw.vE
 fn:=hw.fn _ hq
 rn:=fun r hr=>by have:=hw.rel r hr;have:=hw.lim.1;unfold bM;omega
end
def gX (N:List bp) (V:List Int) (I:List ByteArray) (U:List aP) (r q:Int):aL × Bool:=
 let b:=(bz N V U).2.getD q.toNat false
 let f:=(bz N V U).1.getD q.toNat []
 if (r==8)=true then pN N V I U q
 else if (decide (q < 0) || decide ((N.length:Int)≤q))=true then eN
 else if (r==1)=true then u3 N V I U q b f else if (r==2)=true then l6 N V I U q b f else if (r==3)=true then uZ N V I U q
 else if (r==4)=true then l7 N V I U q else if (r==5)=true then (cf N V I U q,!b) else if (r==6)=true then uY N V I U q b f
 else if (r==7)=true then oA N V I U q b f else eN
def pd (N:List bp) (V:List Int) (I:List ByteArray) (U:List aP) (r q:Int):aL × Bool:=((gX N V I U r q).1,(gX N V I U r q).2&&bx (gX N V I U r q).1)
section
variable {N:List bp} {V:List Int} {I:List ByteArray} {U:List aP} {q:Int}
theorem PZ (hl:V.length≤100000∧I.length≤100000) (hi:bM q) (h:¬ (0≤q∧q < (V.length+I.length:Int))):(pN N V I U q).2=false:=by
 unfold bM at hi;unfold pN;dsimp only;have h1:(decide (0≤q)&&decide (q < (V.length:Int)))=false:=by simp;omega
 have h2:(decide (IntKind.i64.wrap (q - (V.length:Int)) < 0) || decide ((I.length:Int)≤IntKind.i64.wrap (q - (V.length:Int))))=true:=by
  rw[dX];simp;omega
 rw[h1,h2];rfl
theorem E5 (de:gO N V I U) (hc:aU N V I U=true) {r:Int} (h0:0≤q) (hq:q < bF N V I r):zf (gX N V I U r q) (gW N V I U (bz N V U).1 (bz N V U).2 (cz N) r q):=by
 have hw:=nr de hc;have hg:=dQ hc;have hs:=PY (V:=V) (I:=I) (U:=U) hg;unfold gX gW;dsimp only;unfold bF at hq;by_cases h8:r=8
 ·subst h8;rw[if_pos rfl] at hq;exact PW ⟨hw.lim.2.1,hw.lim.2.2.1⟩ h0 hq
 ·rw[if_neg h8] at hq;have UJ:(r==8)=false:=by simpa using h8
  have aR:q.toNat < N.length:=by omega
  have gU:=jr (hg.right _ aR);rw[Int.toNat_natCast] at gU;rw[UJ,decide_eq_false (show ¬ (q < 0) by omega),decide_eq_false (show ¬ ((N.length:Int)≤q) by omega)];simp only[Bool.or_self,if_false,Bool.false_eq_true];refine dM (fun _=>PV hw.i200 (fun k=>FR.getD (hw.fn _ aR) k) (hw.vE _ (gK aR))) fun _=>dM (fun _=>G3) fun _=>dM (fun _=>PT hg h0 aR) fun _=>dM (fun _=>G2) fun _=>dM (fun _=>KL) fun _=>?_
  exact dM (fun _=>PU (TR.getD (hs.getD _) _) fun h=>vw gU.fit (.inl h)) fun _=>dM (fun _=>KN hw.i200) fun _=>rfl
theorem P0 (hl:V.length≤100000∧I.length≤100000) (hi:bM q) {r:Int} (h:¬ (0≤q∧q < bF N V I r)):(gX N V I U r q).2=false:=by
 unfold gX;dsimp only;unfold bF at h;by_cases h8:r=8
 ·subst h8;rw[if_pos rfl] at h;exact PZ hl hi h
 ·rw[if_neg h8] at h;have UJ:(r==8)=false:=by simpa using h8
  have:(decide (q < 0) || decide ((N.length:Int)≤q))=true:=by simp;omega
  rw[UJ,this];rfl
theorem A3 (de:gO N V I U) (hc:aU N V I U=true) {r:Int} (hi:bM q) (h:(gX N V I U r q).2=true):(0≤q∧q < bF N V I r)∧gW N V I U (bz N V U).1 (bz N V U).2 (cz N) r q=some (gX N V I U r q).1:=by
 by_cases hr:0≤q∧q < bF N V I r
 ·refine⟨hr,?_⟩;have ha:=E5 de hc hr.1 hr.2;cases hs:gW N V I U (bz N V U).1 (bz N V U).2 (cz N) r q with
  | none=>rw[hs] at ha;have:(gX N V I U r q).2=false:=ha;rw[this] at h;cases h
  | some c=>rw[hs] at ha;have:gX N V I U r q=(c,true):=ha;rw[this]
 ·rw[P0 ⟨de.lim.2.1,de.lim.2.2.1⟩ hi hr] at h;cases h
theorem Tj (de:gO N V I U) (G4:∀ s ∈ I,s.size≤9223372036854775807) (hc:aU N V I U=true) {r:Int} (hi:bM q) (h:(gX N V I U r q).2=true) (c:aL) (mj:c=(gX N V I U r q).1) :
 gO c.ops c.ints c.strs c.U∧∀ s ∈ c.strs,s.size≤9223372036854775807:=by
 obtain⟨⟨h0,hq⟩,hs⟩:=A3 de hc hi h;rw[← mj] at hs;exact⟨IY (nr de hc) de h0 hq hs,fun s hs'=>G4 s (Td hs s hs')⟩
theorem KP {r:Int} (h:(gX N V I U r q).2=true):(sT r).isSome=true:=by
 unfold gX at h;dsimp only at h;unfold sT;by_cases h8:(r==8)=true
 ·have:r=8:=by simpa using h8
  subst this;rfl
 rw[if_neg h8] at h;split at h
 ·cases h
 split at h
 ·rename_i e;rw[if_pos e];rfl
 split at h
 ·rename_i e1 e;rw[if_neg e1,if_pos e];rfl
 split at h
 ·rename_i e1 e2 e;rw[if_neg e1,if_neg e2,if_pos e];rfl
 split at h
 ·rename_i e1 e2 e3 e;rw[if_neg e1,if_neg e2,if_neg e3,if_pos e];rfl
 split at h
 ·rename_i e1 e2 e3 e4 e;rw[if_neg e1,if_neg e2,if_neg e3,if_neg e4,if_pos e];rfl
 split at h
 ·rename_i e1 e2 e3 e4 e5 e;rw[if_neg e1,if_neg e2,if_neg e3,if_neg e4,if_neg e5,if_pos e];rfl
 split at h
 ·rename_i e1 e2 e3 e4 e5 e6 e;rw[if_neg e1,if_neg e2,if_neg e3,if_neg e4,if_neg e5,if_neg e6,if_pos e];rfl
 ·cases h
theorem KQ (de:gO N V I U) (hc:aU N V I U=true) {r:Int} (hi:bM q):zf (pd N V I U r q) (s9 N V I U r q):=by
 unfold pd s9 eD;cases h2:(gX N V I U r q).2 with
 | true=>
   obtain⟨⟨h0,hq⟩,hs⟩:=A3 de hc hi h2;rw[KP h2,decide_eq_false (show ¬ (q < 0) by omega),decide_eq_false (show ¬ (bF N V I r≤q) by omega),hs];simp only[if_true,if_false,Bool.false_eq_true,Option.bind_some,Bool.true_and];generalize (gX N V I U r q).1=c;cases bx c <;> rfl
 | false=>
   have hn:∀ o:Option aL,o=none→zf ((gX N V I U r q).1,false&&bx (gX N V I U r q).1) o:=fun o h=>by subst h;rfl
   refine hn _ ?_;split
   ·split
    ·rfl
    ·rename_i h1;split
     ·rfl
     ·rename_i h3;simp only[decide_eq_true_eq] at h1 h3;have ha:=E5 (r:=r) de hc (show 0≤q by omega) (by omega);cases hs:gW N V I U (bz N V U).1 (bz N V U).2 (cz N) r q with
      | none=>rfl
      | some c=>rw[hs] at ha;have:gX N V I U r q=(c,true):=ha;rw[this] at h2;cases h2
   ·rfl
end
def qL (ap:Int→Bool) (r:Int) (most:Nat):Nat→Int→List ct→List ct
 | 0,_,l=>l
 | m+1,q,l=>if l.length < most then qL ap r most m (q+1) (if ap q=true then l++[⟨r,q⟩] else l) else l
def rL (ap:Int→Int→Bool) (pl:Int→Int) (most:Nat):Nat→Int→List ct→List ct
 | 0,_,l=>l
 | m+1,r,l=>rL ap pl most m (r+1) (qL (ap r) r most (pl r).toNat 0 l)
def G5 (c:aL) (most:Nat):List ct:=rL (fun r q=>(pd c.ops c.ints c.strs c.U r q).2) (bF c.ops c.ints c.strs) most 8 1 []
theorem P1 (ap:Int→Bool) (r:Int) (most:Nat):∀ (m:Nat) (q:Int) (l:List ct),l.length≤most→(qL ap r most m q l).length≤most
 | 0,_,l,h=>h
 | m+1,q,l,h=>by
   rw[qL];split
   ·refine P1 ap r most m _ _ ?_;split
    ·rw[List.length_append];simp;omega
    ·exact h
   ·exact h
theorem P2 {ap:Int→Bool} {ap':Int→Option aL} {r:Int} {most:Nat}:∀ (m:Nat) (q:Int) (l:List ct),(∀ k,q≤k→k < q+m→ap k=(ap' k).isSome)→l.length≤most→qL ap r most m q l=l++((iD ap' r m q).map stepOf).take (most - l.length)
 | 0,q,l,_,_=>by simp[qL,iD]
 | m+1,q,l,h,hl=>by
   rw[qL,iD];have hq:=h q (Int.le_refl _) (by omega);split
   ·rename_i aR;obtain⟨k,hk⟩:∃ k,most - l.length=k+1:=⟨most - l.length - 1,by omega⟩
    cases ha:ap' q with
    | none=>
      rw[ha] at hq;rw[if_neg (by rw[hq];decide),P2 m (q+1) l (fun j h1 h2=>h j (by omega) (by omega)) hl];rfl
    | some c=>
      rw[ha] at hq;rw[if_pos (by rw[hq];rfl),P2 (most:=most) (r:=r) m (q+1) (l++[(⟨r,q⟩:ct)]) (fun j h1 h2=>h j (by omega) (by omega)) (by rw[List.length_append];simp;omega)];simp only[List.length_append,List.length_cons,List.length_nil,List.singleton_append,List.map_cons,List.append_assoc];rw[hk,List.take_succ_cons,show most - (l.length+(0+1))=k by omega];rfl
   ·rw[show most - l.length=0 by omega];simp
theorem UZ {ap:Int→Int→Bool} {ap':Int→Int→Option aL} {pl:Int→Int} {most:Nat} (h:∀ r k,0≤k→k < pl r→ap r k=(ap' r k).isSome):∀ (m:Nat) (r:Int) (l:List ct),l.length≤most→rL ap pl most m r l=l++((iE ap' pl m r).map stepOf).take (most - l.length)
 | 0,r,l,_=>by simp[rL,iE]
 | m+1,r,l,hl=>by
   rw[rL,iE,UZ h m (r+1) _ (P1 _ _ _ _ _ _ hl),P2 (ap':=ap' r) (pl r).toNat 0 l (fun k h1 h2=>h r k h1 (by omega)) hl];rw[List.map_append,List.take_append,List.append_assoc,List.length_append,List.length_take];congr 3
   omega
theorem all_eq {c:aL} (de:gO c.ops c.ints c.strs c.U) (hc:bx c=true) (most:Nat):G5 c most=(eM c.ops c.ints c.strs c.U).take most:=by
 have oV:aU c.ops c.ints c.strs c.U=true:=hc;have hl:=de.lim;unfold G5 eM iF;rw[if_pos oV,UZ (ap':=eD c.ops c.ints c.strs c.U (bz c.ops c.ints c.U).1 (bz c.ops c.ints c.U).2 (cz c.ops)) (fun r k h0 hk=>?_) 8 1 [] (Nat.zero_le _)]
 ·simp
 ·have ha:=KQ de oV (r:=r) (q:=k) (by unfold bM;unfold bF at hk;split at hk <;> omega);unfold s9 at ha;generalize eD c.ops c.ints c.strs c.U (bz c.ops c.ints c.U).1 (bz c.ops c.ints c.U).2 (cz c.ops) r k=o at *;cases o with
  | none=>exact ha
  | some d=>have:pd c.ops c.ints c.strs c.U r k=(d,true):=ha;rw[this];rfl
theorem h36:Q 36=some f36:=by kernel_rfl
theorem aiw (p q:Int) (hp:gO N V I U∧(∀ s ∈ I,s.size≤9223372036854775807)∧aU N V I U=true∧bM q) :∃ r,wk r (aT (pd N V I U p q))∧∀ A,ak (env 123 1267805345103582720698345390559 D0 [(64,c64),(65,c65),(66,c66),(67,c67),(68,c68),(69,c69),(70,c70),(71,c71),(20,c20)] [] A) hN (5) f36 [(cd N V I U),.st 29 [J p,J q],.sl 74 gF (vt (bz N V U))]=some r:=by
 obtain⟨de,G4,oV,yH⟩:=hp;have hw:=nr de oV;have hg:=dQ oV;have ke:=np (V:=V) (U:=U) hg;have qo:=vJ ke;have cS:=fun h c hc=>Tj (r:=p) de G4 oV yH h c hc
 unfold pd gX;unfold gX at cS;dsimp only at cS ⊢;cases h8:(p==8)
 ·cases g:(decide (q < 0) || decide ((N.length:Int)≤q))
  ·obtain⟨g1,g2⟩:¬ (q < 0)∧¬ ((N.length:Int)≤q):=by simpa using g
   have h0:0≤q:=by omega
   have aR:q.toNat < N.length:=by omega
   have aO:q < (N.length:Int):=by omega
   have hrw:=aiv hw h0 aR;have abd:(LM N V I U)∧0≤q∧(∀ o ∈ N,bM o.n)∧∀ r ∈ U,bM r.at_:=⟨de.lim,h0,de.vE,hrw.rn⟩
   have o0:=Cq ke aR;generalize (bz N V U).2.getD q.toNat false=b at *;generalize hf:(bz N V U).1.getD q.toNat []=f at *;cases h1:(p==1)
   ·cases h2:(p==2)
    ·cases h3:(p==3)
     ·cases h4:(p==4)
      ·cases h5:(p==5)
       ·cases h6:(p==6)
        ·cases h7:(p==7)
         ·simp only[h8,g,h1,h2,h3,h4,h5,h6,h7,BL];apply bu
          ·intro A;simp only[ak,ai,f36];simp only[go_sem,h8,h1,h2,h3,h4,h5,h6,h7,g1,g2,h0,aO,o0,qo,bo,aC];try rfl
          ·simp[WK,aT,ax,eN]
         ·have e:=aa5 N V I U q b f hrw;simp only[h8,g,h1,h2,h3,h4,h5,h6,h7,BL] at cS ⊢;generalize oA N V I U q b f=x at *;simp only[aT,ax,aC] at e;cases ho:x.2
          ·simp only[ho,BL];rw[ho] at e;apply bu
           ·intro A;simp only[ak,ai,f36];simp only[go_sem,e,h8,g,h1,h2,h3,h4,h5,h6,h7,g1,g2,h0,aO,o0,qo,bo,aC];try rfl
           ·simp[WK,aT,ax]
          ·obtain⟨y1,y2⟩:=cS ho x.1 rfl;have lK:=nk x.1.ops x.1.ints x.1.strs x.1.U ⟨y1.lim,y2,y1.str⟩;have mV:bx x.1=aU x.1.ops x.1.ints x.1.strs x.1.U:=rfl;rw[← mV] at lK;rw[ho] at e;cases hk:bx x.1;all_goals
            rw[hk] at lK;simp only[cy,ho,BL] at lK ⊢;apply bu
            ·intro A;simp only[ak,ai,f36];simp only[go_sem,e,lK,h8,g,h1,h2,h3,h4,h5,h6,h7,g1,g2,h0,aO,o0,qo,bo,aC];try rfl
            ·simp[WK,aT,ax]
        ·have e:=aaW N V I U q b f hrw;simp only[h8,g,h1,h2,h3,h4,h5,h6,BL] at cS ⊢;generalize uY N V I U q b f=x at *;simp only[aT,ax,aC] at e;cases ho:x.2
         ·simp only[ho,BL];rw[ho] at e;apply bu
          ·intro A;simp only[ak,ai,f36];simp only[go_sem,e,h8,g,h1,h2,h3,h4,h5,h6,g1,g2,h0,aO,o0,qo,bo,aC];try rfl
          ·simp[WK,aT,ax]
         ·obtain⟨y1,y2⟩:=cS ho x.1 rfl;have lK:=nk x.1.ops x.1.ints x.1.strs x.1.U ⟨y1.lim,y2,y1.str⟩;have mV:bx x.1=aU x.1.ops x.1.ints x.1.strs x.1.U:=rfl;rw[← mV] at lK;rw[ho] at e;cases hk:bx x.1;all_goals
           rw[hk] at lK;simp only[cy,ho,BL] at lK ⊢;apply bu
           ·intro A;simp only[ak,ai,f36];simp only[go_sem,e,lK,h8,g,h1,h2,h3,h4,h5,h6,g1,g2,h0,aO,o0,qo,bo,aC];try rfl
           ·simp[WK,aT,ax]
       ·have Fe:=GX N V I U q abd;simp only[ax] at Fe;simp only[h8,g,h1,h2,h3,h4,h5,BL] at cS ⊢;generalize cf N V I U q=x at *;cases b
        ·simp only[BL] at cS ⊢;obtain⟨y1,y2⟩:=cS (by simp) x rfl;have lK:=nk x.ops x.ints x.strs x.U ⟨y1.lim,y2,y1.str⟩;have mV:bx x=aU x.ops x.ints x.strs x.U:=rfl;rw[← mV] at lK;cases hk:bx x;all_goals
          rw[hk] at lK;simp only[cy,BL] at lK ⊢;apply bu
          ·intro A;simp only[ak,ai,f36];simp only[go_sem,Fe,lK,aC,h8,g,h1,h2,h3,h4,h5,g1,g2,h0,aO,o0,qo,bo,aC];try rfl
          ·simp[WK,aT,ax]
        ·simp only[BL];apply bu
         ·intro A;simp only[ak,ai,f36];simp only[go_sem,Fe,aC,h8,g,h1,h2,h3,h4,h5,g1,g2,h0,aO,o0,qo,bo,aC];try rfl
         ·simp[WK,aT,ax]
      ·have e:=aaV N V I U q ⟨abd,aR,hrw.jmp⟩;simp only[h8,g,h1,h2,h3,h4,BL] at cS ⊢;generalize l7 N V I U q=x at *;simp only[aT,ax,aC] at e;cases ho:x.2
       ·simp only[ho,BL];rw[ho] at e;apply bu
        ·intro A;simp only[ak,ai,f36];simp only[go_sem,e,h8,g,h1,h2,h3,h4,g1,g2,h0,aO,o0,qo,bo,aC];try rfl
        ·simp[WK,aT,ax]
       ·obtain⟨y1,y2⟩:=cS ho x.1 rfl;have lK:=nk x.1.ops x.1.ints x.1.strs x.1.U ⟨y1.lim,y2,y1.str⟩;have mV:bx x.1=aU x.1.ops x.1.ints x.1.strs x.1.U:=rfl;rw[← mV] at lK;rw[ho] at e;cases hk:bx x.1;all_goals
         rw[hk] at lK;simp only[cy,ho,BL] at lK ⊢;apply bu
         ·intro A;simp only[ak,ai,f36];simp only[go_sem,e,lK,h8,g,h1,h2,h3,h4,g1,g2,h0,aO,o0,qo,bo,aC];try rfl
         ·simp[WK,aT,ax]
     ·have e:=aaX N V I U q ⟨abd,aR,⟨de.lim,de.str⟩,oV⟩;simp only[h8,g,h1,h2,h3,BL] at cS ⊢;generalize uZ N V I U q=x at *;simp only[aT,ax,aC] at e;cases ho:x.2
      ·simp only[ho,BL];rw[ho] at e;apply bu
       ·intro A;simp only[ak,ai,f36];simp only[go_sem,e,h8,g,h1,h2,h3,g1,g2,h0,aO,o0,qo,bo,aC];try rfl
       ·simp[WK,aT,ax]
      ·obtain⟨y1,y2⟩:=cS ho x.1 rfl;have lK:=nk x.1.ops x.1.ints x.1.strs x.1.U ⟨y1.lim,y2,y1.str⟩;have mV:bx x.1=aU x.1.ops x.1.ints x.1.strs x.1.U:=rfl;rw[← mV] at lK;rw[ho] at e;cases hk:bx x.1;all_goals
        rw[hk] at lK;simp only[cy,ho,BL] at lK ⊢;apply bu
        ·intro A;simp only[ak,ai,f36];simp only[go_sem,e,lK,h8,g,h1,h2,h3,g1,g2,h0,aO,o0,qo,bo,aC];try rfl
        ·simp[WK,aT,ax]
    ·have e:=aaU N V I U q b f hrw;simp only[h8,g,h1,h2,BL] at cS ⊢;generalize l6 N V I U q b f=x at *;simp only[aT,ax,aC] at e;cases ho:x.2
     ·simp only[ho,BL];rw[ho] at e;apply bu
      ·intro A;simp only[ak,ai,f36];simp only[go_sem,e,h8,g,h1,h2,g1,g2,h0,aO,o0,qo,bo,aC];try rfl
      ·simp[WK,aT,ax]
     ·obtain⟨y1,y2⟩:=cS ho x.1 rfl;have lK:=nk x.1.ops x.1.ints x.1.strs x.1.U ⟨y1.lim,y2,y1.str⟩;have mV:bx x.1=aU x.1.ops x.1.ints x.1.strs x.1.U:=rfl;rw[← mV] at lK;rw[ho] at e;cases hk:bx x.1;all_goals
       rw[hk] at lK;simp only[cy,ho,BL] at lK ⊢;apply bu
       ·intro A;simp only[ak,ai,f36];simp only[go_sem,e,lK,h8,g,h1,h2,g1,g2,h0,aO,o0,qo,bo,aC];try rfl
       ·simp[WK,aT,ax]
   ·have e:=aa4 N V I U q b f hrw;simp only[h8,g,h1,BL] at cS ⊢;generalize u3 N V I U q b f=x at *;simp only[aT,ax,aC] at e;cases ho:x.2
    ·simp only[ho,BL];rw[ho] at e;apply bu
     ·intro A;simp only[ak,ai,f36];simp only[go_sem,e,h8,g,h1,g1,g2,h0,aO,o0,qo,bo,aC];try rfl
     ·simp[WK,aT,ax]
    ·obtain⟨y1,y2⟩:=cS ho x.1 rfl;have lK:=nk x.1.ops x.1.ints x.1.strs x.1.U ⟨y1.lim,y2,y1.str⟩;have mV:bx x.1=aU x.1.ops x.1.ints x.1.strs x.1.U:=rfl;rw[← mV] at lK;rw[ho] at e;cases hk:bx x.1;all_goals
      rw[hk] at lK;simp only[cy,ho,BL] at lK ⊢;apply bu
      ·intro A;simp only[ak,ai,f36];simp only[go_sem,e,lK,h8,g,h1,g1,g2,h0,aO,o0,qo,bo,aC];try rfl
      ·simp[WK,aT,ax]
  ·simp only[h8,g,BL];simp only[Bool.or_eq_true,decide_eq_true_eq] at g;by_cases hq:q < 0
   ·apply bu
    ·intro A;simp only[ak,ai,f36];simp only[go_sem,h8,hq];try rfl
    ·simp[WK,aT,ax,eN]
   ·have pR:(N.length:Int)≤q:=by omega
    apply bu
    ·intro A;simp only[ak,ai,f36];simp only[go_sem,h8,hq,pR];try rfl
    ·simp[WK,aT,ax,eN]
 ·have e:=aa3 N V I U q ⟨de.lim,de.vE,hw.rel⟩;simp only[h8,BL] at cS ⊢;generalize pN N V I U q=x at *;simp only[aT,ax,aC] at e;cases ho:x.2
  ·simp only[ho,BL];rw[ho] at e;apply bu
   ·intro A;simp only[ak,ai,f36];simp only[go_sem,e,h8,bo];try rfl
   ·simp[WK,aT,ax]
  ·obtain⟨y1,y2⟩:=cS ho x.1 rfl;have lK:=nk x.1.ops x.1.ints x.1.strs x.1.U ⟨y1.lim,y2,y1.str⟩;have mV:bx x.1=aU x.1.ops x.1.ints x.1.strs x.1.U:=rfl;rw[← mV] at lK;rw[ho] at e;cases hk:bx x.1;all_goals
    rw[hk] at lK;simp only[cy,ho,BL] at lK ⊢;apply bu
    ·intro A;simp only[ak,ai,f36];simp only[go_sem,e,lK,h8,bo];try rfl
    ·simp[WK,aT,ax]
noncomputable def c36:=bk (α:=(List bp) × (List Int) × (List ByteArray) × (List aP) × Int × Int) (fun (N,V,I,U,p,q)=>gO N V I U∧(∀ s ∈ I,s.size≤9223372036854775807)∧aU N V I U=true∧bM q) (fun (N,V,I,U,p,q)=>[(cd N V I U),.st 29 [J p,J q],.sl 74 gF (vt (bz N V U))]) (fun (N,V,I,U,p,q)=>aT (pd N V I U p q))
theorem abe (p q:Int) (hp:gO N V I U∧(∀ s ∈ I,s.size≤9223372036854775807)∧aU N V I U=true∧bM q):c36 [(cd N V I U),.st 29 [J p,J q],.sl 74 gF (vt (bz N V U))]=some (aT (pd N V I U p q)):=aJ (fun X Y hp bZ h'=>by
 obtain⟨N,V,I,U,p,q⟩:=X;obtain⟨c7,bJ,bL,bK,p',q'⟩:=Y;simp only[cJ] at h';obtain⟨rfl,rfl,rfl,rfl,rfl,rfl,_⟩:=h';rfl) (N,V,I,U,p,q) hp
theorem aiy:cI 36 c36:=aE h36 rfl rfl fun (N,V,I,U,p,q) hp=>let ⟨_,hw,hr⟩:=aiw N V I U p q hp;(rc h36 hr (fun i=>match i with | 7=>[0,0,2,0,0,16,56,120,255,511] | 9=>[0,0,2,0,0,16,56,120,255,511] | 15=>[0,0,2,7,0,0,32,112,240,496,1008,2047,4095] | 17=>[0,0,2,0,0,16,56,120,255,511] | 19=>[0,0,2,0,0,16,56,120,255,511] | _=>[]) rfl rfl rfl (by kernel_rfl) ⟨ah9,aib,ahU,ah0,ahW,Ps,ahY,aif,UD,trivial⟩ trivial).eK hw
def atG (x:Option aL × Int):AV:= .st 37 [ax (x.1.getD ⟨[],[],[],[]⟩),J x.2]
theorem mX:Q 12=some f12:=by kernel_rfl
def D12:Nat→Option (List DH × List Nat):=fun i=>match i with | 3=>some ([⟨[5],[],[5]⟩,⟨[5],[],[5]⟩,⟨[5],[],[5]⟩,⟨[5],[],[5]⟩,⟨[5],[],[5]⟩,⟨[],[5],[]⟩,⟨[],[],[]⟩],[5]) | _=>none
theorem aue:D12 3=some ([⟨[5],[],[5]⟩,⟨[5],[],[5]⟩,⟨[5],[],[5]⟩,⟨[5],[],[5]⟩,⟨[5],[],[5]⟩,⟨[],[5],[]⟩,⟨[],[],[]⟩],[5]):=rfl
theorem awK (p q:Int) (hp:gO N V I U∧(∀ s ∈ I,s.size≤9223372036854775807)∧bM q) :∃ r,wk r (atG (jt N V I U p q))∧∀ A,ak (env 22 131391 D12 [(20,c20),(29,c29),(36,c36)] [] A) hN (5) f12 [(cd N V I U),.st 29 [J p,J q]]=some r:=by
 obtain⟨de,G4,yH⟩:=hp;have lK:=nk N V I U ⟨de.lim,G4,de.str⟩;unfold jt;cases oV:aU N V I U
 ·rw[oV] at lK;simp only[cy,BL] at lK ⊢;apply bu
  ·intro A;simp only[ak,ai,f12];simp only[go_sem,aue,lK,bo];try rfl
  ·simp[WK,atG,ax]
 rw[oV] at lK;have e29:=ZO N V I U ⟨⟨de.lim,de.str⟩,oV⟩;have e36:=abe N V I U p q ⟨de,G4,oV,yH⟩;have ha:=KQ de oV (r:=p) yH;simp only[cy,BL] at lK ⊢;generalize pd N V I U p q=x at *;simp only[aT,ax] at e36;generalize s9 N V I U p q=y at *;cases y with
 | none=>
   have h2:x.2=false:=ha;rw[h2] at e36;dsimp only;apply bu
   ·intro A;simp only[ak,ai,f12];simp only[go_sem,aue,lK,e29,e36,bo];try rfl
   ·simp[WK,atG,ax]
 | some d=>
   have h2:x=(d,true):=ha;subst h2;dsimp only at e36 ⊢;apply bu
   ·intro A;simp only[ak,ai,f12];simp only[go_sem,aue,lK,e29,e36,bo];try rfl
   ·simp[WK,atG,ax]
noncomputable def c12:=bk (α:=(List bp) × (List Int) × (List ByteArray) × (List aP) × Int × Int) (fun (N,V,I,U,p,q)=>gO N V I U∧(∀ s ∈ I,s.size≤9223372036854775807)∧bM q) (fun (N,V,I,U,p,q)=>[(cd N V I U),.st 29 [J p,J q]]) (fun (N,V,I,U,p,q)=>atG (jt N V I U p q))
theorem au3 (p q:Int) (hp:gO N V I U∧(∀ s ∈ I,s.size≤9223372036854775807)∧bM q):c12 [(cd N V I U),.st 29 [J p,J q]]=some (atG (jt N V I U p q)):=aJ (fun X Y hp bZ h'=>by
 obtain⟨N,V,I,U,p,q⟩:=X;obtain⟨c7,bJ,bL,bK,p',q'⟩:=Y;simp only[cJ] at h';obtain⟨rfl,rfl,rfl,rfl,rfl,rfl⟩:=h';rfl) (N,V,I,U,p,q) hp
theorem awL:cI 12 c12:=aE mX rfl rfl fun (N,V,I,U,p,q) hp=>let ⟨_,hw,hr⟩:=awK N V I U p q hp;(rc mX hr (fun i=>match i with | 3=>[0,0,0,4,15,0,63] | _=>[]) rfl rfl rfl (by kernel_rfl) ⟨UD,ahl,aiy,trivial⟩ trivial).eK hw
theorem h38:Q 38=some f38:=by kernel_rfl
def G6:Nat→Hint:=fun i=>if i=4 then ({ tm:=[1,2,5,6,7],ob:=[2,1006],sl:=[(6,1006,29)],fin:=some ([6],[2,1006]) }:Hint) else if i=10 then ({ tm:=[1,2,5,6,7,8,9],ob:=[2,51,1006],sl:=[(6,1006,29)],fin:=some ([1,2,5,6,7],[2,1006]) }:Hint) else { tm:=[],ob:=[] }
theorem Jr:G6 4=({ tm:=[1,2,5,6,7],ob:=[2,1006],sl:=[(6,1006,29)],fin:=some ([6],[2,1006]) }:Hint):=by simp[G6]
theorem qj:G6 10=({ tm:=[1,2,5,6,7,8,9],ob:=[2,51,1006],sl:=[(6,1006,29)],fin:=some ([1,2,5,6,7],[2,1006]) }:Hint):=by simp[G6]
theorem A4 (mo:Nat) (hp:gO N V I U∧(∀ s ∈ I,s.size≤9223372036854775807)∧aU N V I U=true∧mo≤1000000) (p:Int) (n:Nat) (hn:n≤200000) (A:NP) (k:Nat):∀ (m i:Nat) (l:List ct) (σ:St),l.length≤mo→i+m=n→
 (σ.cA (G6 10)).nw ty (G6 10).sl=⟨[(6,.own 1006 29 0 l.length),(1,J (mo:Nat)),(2,pb 2 27),(5,.sl 74 gT (vt (bz N V U))),(7,J p),(8,J n),(9,J i)],[(1006,⟨.row 29,true,l.map bo⟩),(2,(bC N V I U))]⟩→
 post (G6 10) (aG ty (a9 (env 53 140874929424375 D0 [(29,c29),(36,c36)] [] A) G6 k (sub (f38.body.getD .skip) [1,1,1,0,1,0,0,1,0,0,1,1,1,0,0])) (G6 10) (m+1) σ)=some (.exit 2,⟨[(1,J (mo:Nat)),(2,pb 2 27),(5,.sl 74 gT (vt (bz N V U))),(6,.own 1006 29 0 (qL (fun q=>(pd N V I U p q).2) p mo m i l).length),(7,J p)],[(2,(bC N V I U)),(1006,⟨.row 29,true,(qL (fun q=>(pd N V I U p q).2) p mo m i l).map bo⟩)]⟩):=by
 simp only[f38,sub,Option.getD_some,qj];intro m
 induction m with
 | zero=>
   intro i l σ KZ hi hσ;have h1:¬ ((i:Int) < ((n:Nat):Int)):=by omega
   rw[aG,hσ];simp only[go_sem,h1];simp[post,St.fin,aQ,aA,qL]
 | succ m ih=>
   intro i l σ KZ hi hσ;have h1:(i:Int) < ((n:Nat):Int):=by omega
   have aR:i < n:=by omega
   have cY:(0:Int)≤(i:Int):=Int.natCast_nonneg i;have hw:IntKind.i64.wrap ((i:Int)+1)=((i+1:Nat):Int):=a_ (by omega);have U4:=hp.2.2.2;have e36:=abe N V I U p i ⟨hp.1,hp.2.1,hp.2.2.1,by unfold bM;omega⟩;rw[aG,hσ];rw[qL,show (i:Int)+1=((i+1:Nat):Int) by omega];by_cases qo:l.length < mo;rotate_left
   ·have Tk:¬ ((l.length:Int) < (mo:Int)):=by omega
    rw[if_neg qo];simp only[go_sem,h1,Tk];simp[post,St.fin,aQ,aA]
   have Tk:(l.length:Int) < (mo:Int):=by omega
   have Fz:decide ((l.length+1) * 16≤140737488355328)=true:=by simp;omega
   have Dc:l.length+1≤140737488355328:=by omega
   rw[if_pos qo];generalize pd N V I U p i=x at *;simp only[aT,ax] at e36;cases ho:x.2
   ·rw[ho] at e36;simp only[BL];simp only[go_sem,h1,Tk,cY,hw,e36,ho,Fz,Dc,bo];exact ih (i+1) l _ KZ (by omega) (by simp only[go_sem,St.slot,k7,jS,jT,List.map_cons,List.map_nil,bo,List.length_append,List.map_append,List.length_cons,List.length_nil])
   ·rw[ho] at e36;simp only[BL];simp only[go_sem,h1,Tk,cY,hw,e36,ho,Fz,Dc,bo];exact ih (i+1) (l++[(⟨p,(i:Nat)⟩:ct)]) _ (by rw[List.length_append];simp;omega) (by omega) (by simp only[go_sem,St.slot,k7,jS,jT,List.map_cons,List.map_nil,bo,List.length_append,List.map_append,List.length_cons,List.length_nil])
theorem P3 (mo:Nat) (hp:gO N V I U∧(∀ s ∈ I,s.size≤9223372036854775807)∧aU N V I U=true∧mo≤1000000) (A:NP) (k:Nat) (hk:200010≤k):∀ (m j:Nat) (l:List ct) (σ:St),l.length≤mo→j+m=9→
 (σ.cA (G6 4)).nw ty (G6 4).sl=⟨[(6,.own 1006 29 0 l.length),(1,J (mo:Nat)),(2,pb 2 27),(5,.sl 74 gT (vt (bz N V U))),(7,J (j:Nat))],[(1006,⟨.row 29,true,l.map bo⟩),(2,(bC N V I U))]⟩→
 post (G6 4) (aG ty (a9 (env 53 140874929424375 D0 [(29,c29),(36,c36)] [] A) G6 k (sub (f38.body.getD .skip) [1,1,1,0,1,0,0])) (G6 4) (m+1) σ)=some (.exit 0,⟨[(6,.own 1006 29 0 (rL (fun p q=>(pd N V I U p q).2) (bF N V I) mo m (j:Nat) l).length)],[(2,(bC N V I U)),(1006,⟨.row 29,true,(rL (fun p q=>(pd N V I U p q).2) (bF N V I) mo m (j:Nat) l).map bo⟩)]⟩):=by
 simp only[f38,sub,Option.getD_some,Jr];have dO:=hp.1.lim;intro m
 induction m with
 | zero=>
   intro j l σ KZ hj hσ;have h1:¬ ((j:Int)≤8):=by omega
   rw[aG,hσ];simp only[go_sem,h1];simp[post,St.fin,aQ,aA,rL]
 | succ m ih=>
   intro j l σ KZ hj hσ;have h1:(j:Int)≤8:=by omega
   have hw:IntKind.i64.wrap ((j:Int)+1)=((j+1:Nat):Int):=a_ (by omega);have lJ:IntKind.i64.wrap ((V.length:Int)+(I.length:Int))=((V.length+I.length:Nat):Int):=by rw[wrap_i64 (by omega) (by omega)];omega
   have K0:(bF N V I (j:Nat)).toNat=if ((j:Int)==8)=true then V.length+I.length else N.length:=by
    unfold bF;simp only[beq_iff_eq];split <;> omega
   rw[rL,K0,show (j:Int)+1=((j+1:Nat):Int) by omega];have hq:=P1 (fun q=>(pd N V I U (j:Nat) q).2) (j:Nat) mo;rw[aG,hσ];cases h8:((j:Int)==8)
   all_goals
    simp only[BL]
   ·have hl:=A4 N V I U mo hp (j:Nat) N.length (by omega) A k N.length 0 l;simp only[f38,sub,Option.getD_some,qj,Int.natCast_zero] at hl;have hq:=hq N.length 0 l KZ;generalize qL (fun q=>(pd N V I U (j:Nat) q).2) (j:Nat) mo N.length 0 l=l2 at *;simp only[go_sem,h1,hw,lJ,h8,qj];rw[aY (hl _ KZ (by omega) (by simp only[go_sem,St.slot,k7,jS,jT,List.map_cons,List.map_nil])) (by omega)];simp only[go_sem,h1,hw,lJ,h8,qj];exact ih (j+1) l2 _ hq (by omega) (by simp only[go_sem,St.slot,k7,jS,jT,List.map_cons,List.map_nil])
   ·have hl:=A4 N V I U mo hp (j:Nat) (V.length+I.length) (by omega) A k (V.length+I.length) 0 l;simp only[f38,sub,Option.getD_some,qj,Int.natCast_zero] at hl;have hq:=hq (V.length+I.length) 0 l KZ;generalize qL (fun q=>(pd N V I U (j:Nat) q).2) (j:Nat) mo (V.length+I.length) 0 l=l2 at *;simp only[go_sem,h1,hw,lJ,h8,qj];rw[aY (hl _ KZ (by omega) (by simp only[go_sem,St.slot,k7,jS,jT,List.map_cons,List.map_nil])) (by omega)];simp only[go_sem,h1,hw,lJ,h8,qj];exact ih (j+1) l2 _ hq (by omega) (by simp only[go_sem,St.slot,k7,jS,jT,List.map_cons,List.map_nil])
theorem aiA (mo:Nat) (hp:gO N V I U∧(∀ s ∈ I,s.size≤9223372036854775807)∧aU N V I U=true∧mo≤1000000) (A:NP):ak (env 53 140874929424375 D0 [(29,c29),(36,c36)] [] A) (G6) (200020) f38 [(cd N V I U),J (mo:Nat)]=some (.sl 29 gT ((G5 ⟨N,V,I,U⟩ mo).map bo)):=by
 obtain⟨de,G4,oV,U4⟩:=id hp;have e29:=ZO N V I U ⟨⟨de.lim,de.str⟩,oV⟩;have hl:=P3 N V I U mo hp A 200020 (by omega) 8 1 [];simp only[f38,sub,Option.getD_some,Jr,Int.natCast_one] at hl;unfold G5;simp only[ak,ai,f38];simp only[go_sem,e29,Jr];rw[aY (hl _ (by simp) (by simp) (by simp only[go_sem,St.slot,k7,jS,jT,List.map_cons,List.map_nil,List.length_nil,List.map_nil,Int.natCast_one])) (by omega)];simp only[go_sem,e29,Jr];try rfl
noncomputable def c38:=bk (α:=(List bp) × (List Int) × (List ByteArray) × (List aP) × Nat) (fun (N,V,I,U,mo)=>gO N V I U∧(∀ s ∈ I,s.size≤9223372036854775807)∧aU N V I U=true∧mo≤1000000) (fun (N,V,I,U,mo)=>[(cd N V I U),J (mo:Nat)]) (fun (N,V,I,U,mo)=> .sl 29 gT ((G5 ⟨N,V,I,U⟩ mo).map bo))
theorem abf (mo:Nat) (hp:gO N V I U∧(∀ s ∈ I,s.size≤9223372036854775807)∧aU N V I U=true∧mo≤1000000):c38 [(cd N V I U),J (mo:Nat)]=some (.sl 29 gT ((G5 ⟨N,V,I,U⟩ mo).map bo)):=aJ (fun X Y hp bZ h'=>by
 obtain⟨N,V,I,U,mo⟩:=X;obtain⟨c7,bJ,bL,bK,mo'⟩:=Y;simp only[cJ] at h';obtain⟨rfl,rfl,rfl,rfl,U4⟩:=h';try dsimp only at hp bZ ⊢
 obtain rfl:mo=mo':=by omega
 rfl) (N,V,I,U,mo) hp
theorem aiB:cI 38 c38:=aE h38 rfl rfl fun (N,V,I,U,mo) hp=>rc h38 (fun A=>aiA N V I U mo hp A) (fun _=>[]) rfl rfl rfl (by kernel_rfl) ⟨ahl,aiy,trivial⟩ trivial
theorem ate {p:Nat→Bool} (h:∀ i,p i=true):∀ (m i:Nat),dE p i m=true
 | 0,_=>rfl
 | m+1,i=>by rw[dE,h,ate h m (i+1)];rfl
theorem at4 (c:aL):mH c c=true:=by
 unfold mH Ez uU;simp only[beq_self_eq_true,BL];rw[ate (fun _=>rfl),ate (fun _=>rfl),ate (fun _=>rfl),ate (fun _=>rfl)];rfl
theorem mg:Q 16=some f16:=by kernel_rfl
theorem im:Q 17=some f17:=by kernel_rfl
def H17:Nat→Hint:=fun i=>if i=4 then ({ tm:=[0,1,5],ob:=[],fin:=some ([0,1,5],[]) }:Hint) else { tm:=[],ob:=[] }
theorem Js:H17 4=({ tm:=[0,1,5],ob:=[],fin:=some ([0,1,5],[]) }:Hint):=by simp[H17]
theorem P4 (ls:List ct) (hn:ls.length≤10000000) (A:NP) (k:Nat):∀ (m i:Nat) (σ:St),i+m=ls.length→
 σ.cA (H17 4)=⟨[(0,.sl 29 gF (ls.map bo)),(1,.sl 29 gF (ls.map bo)),(5,J i)],[]⟩→
 post (H17 4) (aG ty (a9 (env 26 33571891 D0 [] [] A) H17 k (sub (f17.body.getD .skip) [1,1,0,1,0,0])) (H17 4) (m+1) σ)=some (.exit 0,⟨[(0,.sl 29 gF (ls.map bo)),(1,.sl 29 gF (ls.map bo)),(5,J ls.length)],[]⟩):=by
 simp only[f17,sub,Option.getD_some,Js];intro m
 induction m with
 | zero=>
   intro i σ hi hσ;have h1:¬ ((i:Int) < ((ls.length:Nat):Int)):=by omega
   have hie:i=ls.length:=by omega
   rw[aG,hσ];simp only[go_sem,h1];simp[post,St.fin,aQ,aA,hie]
 | succ m ih=>
   intro i σ hi hσ;have h1:(i:Int) < ((ls.length:Nat):Int):=by omega
   have aR:i < ls.length:=by omega
   have cY:(0:Int)≤(i:Int):=Int.natCast_nonneg i;have hw:IntKind.i64.wrap ((i:Int)+1)=((i+1:Nat):Int):=(by rw[wrap_i64 (by omega) (by omega)];omega)
   have aw:=aD (d:=(⟨0,0⟩:ct)) aR;rw[aG,hσ];generalize ls.getD i ⟨0,0⟩=x at *;simp only[go_sem,h1,cY,hw,aw,bo,beq_self_eq_true];exact ih (i+1) _ (by omega) (by simp only[go_sem])
theorem aiE (ls:List ct) (hp:ls.length≤10000000) (A:NP):ak (env 26 33571891 D0 [] [] A) (H17) (10000010) f17 [.sl 29 gF (ls.map bo),.sl 29 gF (ls.map bo)]=some (.bool true):=by
 have hl:=P4 ls hp A 10000010 ls.length 0;simp only[f17,sub,Option.getD_some,Js] at hl;simp only[ak,ai,f17];simp only[go_sem,Js,beq_self_eq_true];rw[aY (hl _ (by simp) (by simp only[go_sem])) (by omega)];simp only[go_sem,Js];try rfl
noncomputable def c17:=bk (α:=(List ct)) (fun ls=>ls.length≤10000000) (fun ls=>[.sl 29 gF (ls.map bo),.sl 29 gF (ls.map bo)]) (fun ls=> .bool true)
theorem abi (ls:List ct) (hp:ls.length≤10000000):c17 [.sl 29 gF (ls.map bo),.sl 29 gF (ls.map bo)]=some (.bool true):=aJ (fun _ _ _ _ _=>rfl) (ls) hp
theorem aiF:cI 17 c17:=aE im rfl rfl fun ls hp=>rc im (fun A=>aiE ls hp A) (fun i=>match i with | 6=>[0,0,3,7,0,0,48,112,255] | _=>[]) rfl rfl rfl (by kernel_rfl) trivial trivial
theorem h4:Q 4=some f4:=by kernel_rfl
noncomputable def c4:=bk (α:=(List bp) × (List Int) × (List ByteArray) × (List aP)) (fun (N,V,I,U)=>(∀ o ∈ N,bM o.n)∧(∀ n ∈ V,bM n)∧(∀ s ∈ I,s.size≤9223372036854775807)∧(LS U)) (fun (N,V,I,U)=>[(cd N V I U)]) (fun (N,V,I,U)=> .bool true)
theorem h3:Q 3=some f3:=by kernel_rfl
noncomputable def c3:=bk (α:=(List bp) × (List Int) × (List ByteArray) × (List aP) × Int × Int) (fun (N,V,I,U,p,q)=>(∀ o ∈ N,bM o.n)∧(∀ n ∈ V,bM n)∧(∀ s ∈ I,s.size≤9223372036854775807)∧(LS U)∧bM q) (fun (N,V,I,U,p,q)=>[(cd N V I U),.st 29 [J p,J q]]) (fun (N,V,I,U,p,q)=> .bool true)
end Go.Proofs.Tryz
end
