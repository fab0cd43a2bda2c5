/- Part of the proof of one statement of this seat: an abstract machine for the program, its contracts, and the statement (no condition of our own). -/
import Derived.Deep.Slices
import Derived.Test.YtbdbjpdlcemeaaaGreatDoorRows
import Derived.Carry
import Derived.ProofKit
import Derived.Test.YtbdbjpdlcemeaaaGreatDoorKn09
set_option linter.unusedSimpArgs false
set_option linter.unusedVariables false
section
namespace Go.Abs
open Go Go.RowKit Go.Deep Go.ChangeShapes Go.WideShapes
instance:Inhabited AV:=⟨.undef⟩
inductive Pln (ty:Tys):TypeId→Prop
 | int {t:TypeId} {k:IntKind} {s b:Nat} {z:AV}:ty t=some ⟨.int k,s,b,z⟩→Pln ty t
 | bool {t:TypeId} {s b:Nat} {z:AV}:ty t=some ⟨.bool,s,b,z⟩→Pln ty t
 | str {t:TypeId} {s b:Nat} {z:AV}:ty t=some ⟨.str,s,b,z⟩→Pln ty t
 | st {t:TypeId} {ts:List TypeId} {s b:Nat} {z:AV}:ty t=some ⟨.struct ts,s,b,z⟩→s=(ts.map (szOf ty)).sum→(∀ u ∈ ts,Pln ty u)→Pln ty t
inductive Tv (ty:Tys):TypeId→AV→Prop
 | int {t:TypeId} {k:IntKind} {s b:Nat} {z:AV} {n:Int}:ty t=some ⟨.int k,s,b,z⟩→(Lit.int k n).wf=true→Tv ty t (.int k n)
 | bool {t:TypeId} {s b:Nat} {z:AV} {n:Bool}:ty t=some ⟨.bool,s,b,z⟩→Tv ty t (.bool n)
 | str {t:TypeId} {s b:Nat} {z:AV} {n:ByteArray}:ty t=some ⟨.str,s,b,z⟩→n.size≤maxLen→Tv ty t (.str n)
 | st {t:TypeId} {ts:List TypeId} {s b:Nat} {z:AV} {fs:List AV}:ty t=some ⟨.struct ts,s,b,z⟩→fs.length=ts.length→(∀ (i:Nat) (x:AV) (u:TypeId),fs[i]? = some x→ts[i]? = some u→Tv ty u x)→Tv ty t (.st t fs)
def AnyL (ty:Tys):AV→Value→Prop:=fun x u=>∀ (w:World) (okb:Nat→Prop),LR ty w okb x u
theorem F2_append {R:AV→Value→Prop} {xs ys:List AV} {us vs:List Value} (h1:F2 R xs us) (h2:F2 R ys vs):F2 R (xs++ys) (us++vs):=by
 refine⟨by simp[h1.1,h2.1],fun i x v hx hv=>?_⟩
 by_cases hi:i < xs.length
 ·rw[List.getElem?_append_left hi] at hx
  rw[List.getElem?_append_left (by rw[← h1.1];exact hi)] at hv
  exact h1.2 i x v hx hv
 ·rw[List.getElem?_append_right (by omega)] at hx
  rw[List.getElem?_append_right (by rw[← h1.1];omega)] at hv
  rw[← h1.1] at hv
  exact h2.2 _ x v hx hv
theorem F2_fields {ty:Tys} (R:AV→Value→Prop):∀ (ts:List TypeId) (fs:List AV) (cs:List Value),fs.length=ts.length→cs.length=(ts.map (szOf ty)).sum→
 (∀ (i:Nat) (x:AV) (u:TypeId),fs[i]? = some x→ts[i]? = some u→F2 R (leaves x) ((cs.drop ((ts.take i).map (szOf ty)).sum).take (szOf ty u)))→F2 R (leavesL fs) cs
 | [],[],cs,_,hc,_=>by
   have:cs=[]:=List.eq_nil_of_length_eq_zero (by simpa using hc)
   subst this;exact⟨rfl,fun i x v hx=>by simp[leavesL] at hx⟩
 | u::ts,x::fs,cs,hl,hc,h=>by
   have h0:=h 0 x u rfl rfl
   simp only[List.take_zero,List.map_nil,List.sum_nil,List.drop_zero] at h0
   have hr:=F2_fields (ty:=ty) R ts fs (cs.drop (szOf ty u)) (by simpa using hl) (by simp only[List.map_cons,List.sum_cons] at hc;simp only[List.length_drop];omega) (fun i y v hy hv=>by
    have:=h (i+1) y v (by simpa using hy) (by simpa using hv)
    simp only[List.take_succ_cons,List.map_cons,List.sum_cons] at this
    rw[List.drop_drop]
    exact this)
   have:=F2_append h0 hr
   rw[List.take_append_drop] at this
   simpa[leavesL] using this
 | [],_::_,_,hl,_,_=>by simp at hl
 | _::_,[],_,hl,_,_=>by simp at hl
section
variable {H:Type} {enc:TypeId × Value→H} {P:Program} {w:World} {ty:Tys} {spare:Nat→Bool} {held:Bool}
theorem cellsOf_ty (hT:TyOk P ty) {t:TypeId} {d:TyD} (h:ty t=some d):P.cellsOf t=d.size:=by
 obtain⟨i,z,h1,h2,_⟩:=(hT t d h).info
 simp[Program.cellsOf,h1,h2]
theorem leaf_size (hT:TyOk P ty) {t:TypeId} {d:TyD} (h:ty t=some d) (hl:isLeaf d.k=true):d.size=1:=by
 have hc:=(hT t _ h).conf
 generalize d.zero=z at hc
 cases hc with
 | leaf h1 _ h3 _=>rw[h] at h1;injection h1 with h1;subst h1;exact h3
 | st h1=>rw[h] at h1;injection h1 with h1;subst h1;cases hl
 | ar h1=>rw[h] at h1;injection h1 with h1;subst h1;cases hl
theorem F2_one {R:AV→Value→Prop} {x:AV} {v:Value} (h:R x v):F2 R [x] [v]:=F2_cons h ⟨rfl,fun i x v hx=>by simp at hx⟩
theorem read_plain (hT:TyOk P ty) {t:TypeId} (hp:Pln ty t):∀ (fuel:Nat) (cs:List Value) (x:DataW H × List MemPlace),DataW.trod enc P w 0 spare held fuel t cs=some x→
 ∃ a,Tv ty t a∧Conf ty t a∧F2 (AnyL ty) (leaves a) cs:=by
 induction hp with
 | @int t k s b z ht=>
   intro fuel cs x h
   obtain⟨n,rfl,_,hw⟩:=DataW.trod_int (show P.underlying t=some (.int k) from (hT t _ ht).kind) h
   exact⟨.int k n,.int ht hw,.leaf ht rfl (leaf_size hT ht rfl) rfl,F2_one fun w okb=> .int k n⟩
 | @bool t s b z ht=>
   intro fuel cs x h
   obtain⟨n,rfl,_⟩:=DataW.trod_bool (show P.underlying t=some .bool from (hT t _ ht).kind) h
   exact⟨.bool n,.bool ht,.leaf ht rfl (leaf_size hT ht rfl) rfl,F2_one fun w okb=> .bool n⟩
 | @str t s b z ht=>
   intro fuel cs x h
   obtain⟨n,rfl,_,hw⟩:=DataW.trod_string (show P.underlying t=some .string from (hT t _ ht).kind) h
   exact⟨.str n,.str ht hw,.leaf ht rfl (leaf_size hT ht rfl) rfl,F2_one fun w okb=> .str n⟩
 | @st t ts s b z ht hs hu ih=>
   intro fuel cs x h
   obtain⟨fds,hk,hsz,hfd⟩:=(hT t _ ht).kind
   obtain⟨xs,n,_,_,hcl,hxl,hx⟩:=DataW.trod_struct hk h
   have hcs:cs.length=(ts.map (szOf ty)).sum:=by rw[hcl,cellsOf_ty hT ht];exact hs
   have hp:∀ i,i < ts.length→∃ a:AV,∀ u,ts[i]? = some u→Tv ty u a∧Conf ty u a∧F2 (AnyL ty) (leaves a) ((cs.drop ((ts.take i).map (szOf ty)).sum).take (szOf ty u)):=fun i hi=>by
    have hif:i < fds.size:=by omega
    obtain⟨e1,e2⟩:=hfd i fds[i] (Array.getElem?_eq_getElem hif)
    have e3:=hx i fds[i] (Array.getElem?_eq_getElem hif)
    rw[List.getElem?_eq_getElem (show i < xs.length by omega),e2] at e3
    have hmem:fds[i].type ∈ ts:=List.mem_of_getElem? e1
    have hsz:szOf ty fds[i].type=P.cellsOf fds[i].type:=by
     have:=hu _ hmem
     cases this with
     | int h=>rw[cellsOf_ty hT h];simp[szOf,h]
     | bool h=>rw[cellsOf_ty hT h];simp[szOf,h]
     | str h=>rw[cellsOf_ty hT h];simp[szOf,h]
     | st h=>rw[cellsOf_ty hT h];simp[szOf,h]
    obtain⟨a,h1,h2,h3⟩:=ih _ hmem n _ _ e3
    refine⟨a,fun u hu=>?_⟩
    rw[e1] at hu;injection hu with hu;subst hu
    rw[hsz]
    exact⟨h1,h2,h3⟩
   obtain⟨f,hf⟩:=choose_lt hp
   have hg:∀ (i:Nat) (y:AV) (u:TypeId),((List.range ts.length).map f)[i]? = some y→ts[i]? = some u→y=f i∧i < ts.length:=fun i y u hy hu=>by
    have hi:=(List.getElem?_eq_some_iff.1 hu).1
    rw[List.getElem?_map,List.getElem?_range hi] at hy
    injection hy with hy
    exact⟨hy.symm,hi⟩
   refine⟨.st t ((List.range ts.length).map f),.st ht (by simp) (fun i y u hy hu=>?_),.st ht (by simp) hs (fun i y u hy hu=>?_),?_⟩
   ·obtain⟨rfl,hi⟩:=hg i y u hy hu
    exact (hf i hi u hu).1
   ·obtain⟨rfl,hi⟩:=hg i y u hy hu
    exact (hf i hi u hu).2.1
   ·simp only[leaves]
    exact F2_fields (ty:=ty) _ ts _ cs (by simp) hcs fun i y u hy hu=>by
     obtain⟨rfl,hi⟩:=hg i y u hy hu
     exact (hf i hi u hu).2.2
theorem read_slice (hT:TyOk P ty) {t e:TypeId} {s b:Nat} {z:AV} (ht:ty t=some ⟨.slice e,s,b,z⟩) (he:Pln ty e) {fuel:Nat} {v:Value} {x:DataW H × List MemPlace}
 (h:DataW.trod enc P w 0 (fun _=>true) held fuel t [v]=some x) (hs:∀ a len cap,v = .slice (some a) len cap→a.spot=none∧a.block < w.heap.size) :
 ∃ es,LR ty w (fun _=>True) (.sl e ⟨false,none,false⟩ es) v∧(∀ y ∈ es,Tv ty e y):=by
 obtain⟨hk,hpos⟩:=(hT t _ ht).kind
 rcases open_slice hk h with ⟨h1,_⟩ | ⟨a,len,cap,m,n,D,Pl,h1,_,hlc,hcm,hm,_,hel⟩
 ·injection h1 with h1 _;subst h1
  exact⟨[],.slN e _ _ (by simp) rfl,fun y hy=>by cases hy⟩
 ·injection h1 with h1 _;subst h1
  obtain⟨hsp,hblk⟩:=hs a len cap rfl
  obtain⟨blk,off,spot⟩:=a
  simp only at hsp hblk
  subst hsp
  have hm':m=cap:=by simpa using hm
  subst hm'
  have hsz:szOf ty e=P.cellsOf e:=by
   cases he with
   | int h=>rw[cellsOf_ty hT h];simp[szOf,h]
   | bool h=>rw[cellsOf_ty hT h];simp[szOf,h]
   | str h=>rw[cellsOf_ty hT h];simp[szOf,h]
   | st h=>rw[cellsOf_ty hT h];simp[szOf,h]
  have hp:∀ i,i < len→∃ a:AV,Tv ty e a∧Conf ty e a∧F2 (fun y u=>AnyL ty y u) (leaves a) ((List.range (szOf ty e)).map fun r=>(w.cell? ⟨blk,off+(i * szOf ty e+r),none⟩).getD undef)∧∀ r,r < szOf ty e→∃ v,w.cell? ⟨blk,off+(i * szOf ty e+r),none⟩=some v:=fun i hi=>by
   obtain⟨cs',q1,q2⟩:=hel i (by omega)
   obtain⟨_,q3,q4⟩:=World.cells?_some q1
   obtain⟨a,g1,g2,g3⟩:=read_plain hT he _ _ _ q2
   have hq:∀ r,r < szOf ty e→w.cell? ⟨blk,off+(i * szOf ty e+r),none⟩=cs'[r]?:=fun r hr=>by
    have:=q4 r (by omega)
    rw[add_plain,add_plain,← hsz,Nat.add_assoc] at this
    exact this
   have hcs:cs'=(List.range (szOf ty e)).map fun r=>(w.cell? ⟨blk,off+(i * szOf ty e+r),none⟩).getD undef:=by
    apply List.ext_getElem?
    intro r
    by_cases hr:r < szOf ty e
    ·rw[List.getElem?_map,List.getElem?_range hr,Option.map_some,hq r hr,List.getElem?_eq_getElem (by omega)];rfl
    ·rw[List.getElem?_eq_none (by omega),List.getElem?_eq_none (by simp;omega)]
   refine⟨a,g1,g2,by rw[← hcs];exact g3,fun r hr=>?_⟩
   rw[hq r hr,List.getElem?_eq_getElem (by omega)]
   exact⟨_,rfl⟩
  obtain⟨f,hf⟩:=choose_lt hp
  have hmem:∀ y ∈ (List.range len).map f,∃ i,i < len∧y=f i:=fun y hy=>by
   obtain⟨i,hi,rfl⟩:=List.mem_map.1 hy
   exact⟨i,by simpa using hi,rfl⟩
  have hlv:∀ y ∈ (List.range len).map f,(leaves y).length=szOf ty e:=fun y hy=>by
   obtain⟨i,hi,rfl⟩:=hmem y hy
   exact (hf i hi).2.1.len
  have hcell:∀ (j:Nat) (y:AV),(leavesL ((List.range len).map f))[j]? = some y→∃ v,w.cell? ⟨blk,off+j,none⟩=some v∧∀ okb,LR ty w okb y v:=fun j y hy=>by
   have hj:=(List.getElem?_eq_some_iff.1 hy).1
   rw[leavesL_len_const _ _ hlv] at hj
   simp only[List.length_map,List.length_range] at hj
   have hi:j / szOf ty e < len:=Nat.div_lt_of_lt_mul (by rw[Nat.mul_comm];exact hj)
   have hr:j % szOf ty e < szOf ty e:=Nat.mod_lt _ hpos
   have hdm:j / szOf ty e * szOf ty e+j % szOf ty e=j:=by rw[Nat.mul_comm];exact Nat.div_add_mod j _
   have:=leavesL_at (szOf ty e) _ hlv (j / szOf ty e) (f (j / szOf ty e)) (by rw[List.getElem?_map,List.getElem?_range hi];rfl) (j % szOf ty e) hr
   rw[hdm,hy] at this
   obtain⟨_,_,g3,g4⟩:=hf _ hi
   obtain⟨v,hv⟩:=g4 _ hr
   rw[hdm] at hv
   refine⟨v,hv,fun okb=>?_⟩
   have:=g3.2 (j % szOf ty e) y v this.symm (by rw[List.getElem?_map,List.getElem?_range hr,Option.map_some,hdm,hv];rfl)
   exact this w okb
  have hLR:LR ty w (fun _=>True) (.sl e ⟨false,none,false⟩ ((List.range len).map f)) (.slice (some ⟨blk,off,none⟩) ((List.range len).map f).length m):=
   .sl e _ _ blk off m (fun j=>(w.cell? ⟨blk,off+j,none⟩).getD undef) (by simpa using hlc) (by simp) (by simp) (fun _=>⟨trivial,hblk⟩) (fun y hy=>by
    obtain⟨i,hi,rfl⟩:=hmem y hy
    exact (hf i hi).2.1) (fun j y hy=>by
     obtain⟨v,hv,_⟩:=hcell j y hy
     rw[hv];rfl) (fun j y hy=>by
     obtain⟨v,hv,h2⟩:=hcell j y hy
     rw[hv];exact h2 _)
  refine⟨(List.range len).map f,?_,fun y hy=>?_⟩
  ·simpa using hLR
  ·obtain⟨i,hi,rfl⟩:=hmem y hy
   exact (hf i hi).1
mutual
def leafsD {H:Type}:DataW H→List AV
 | .lit (.string b)=>[.str ⟨b.toArray⟩]
 | .lit (.bool b)=>[.bool b]
 | .lit (.int k n)=>[.int k n]
 | .agg ps=>leafsDL ps
 | _=>[]
def leafsDL {H:Type}:List (DataW H)→List AV
 | []=>[]
 | d::r=>leafsD d++leafsDL r
end
theorem leafsDL_flat {H:Type}:∀ l:List (DataW H),leafsDL l=(l.map leafsD).flatten
 | []=>by simp[leafsDL]
 | d::r=>by simp[leafsDL,leafsDL_flat r]
inductive Plt (ty:Tys):TypeId→Prop
 | int {t:TypeId} {k:IntKind} {s b:Nat} {z:AV}:ty t=some ⟨.int k,s,b,z⟩→Plt ty t
 | bool {t:TypeId} {s b:Nat} {z:AV}:ty t=some ⟨.bool,s,b,z⟩→Plt ty t
 | str {t:TypeId} {s b:Nat} {z:AV}:ty t=some ⟨.str,s,b,z⟩→Plt ty t
 | st {t:TypeId} {ts:List TypeId} {s b:Nat} {z:AV}:ty t=some ⟨.struct ts,s,b,z⟩→s=(ts.map (szOf ty)).sum→(∀ u ∈ ts,Plt ty u)→Plt ty t
 | ar {t e:TypeId} {n s b:Nat} {z:AV}:ty t=some ⟨.array n e,s,b,z⟩→s=n * szOf ty e→Plt ty e→Plt ty t
theorem F2_parts (R:AV→Value→Prop):∀ (ss:List Nat) (ps:List (List AV)) (cs:List Value),ps.length=ss.length→cs.length=ss.sum→
 (∀ (i:Nat) (p:List AV) (s:Nat),ps[i]? = some p→ss[i]? = some s→F2 R p ((cs.drop (ss.take i).sum).take s))→F2 R ps.flatten cs
 | [],[],cs,_,hc,_=>by
   have:cs=[]:=List.eq_nil_of_length_eq_zero (by simpa using hc)
   subst this;exact⟨rfl,fun i x v hx=>by simp at hx⟩
 | s::ss,p::ps,cs,hl,hc,h=>by
   have h0:=h 0 p s rfl rfl
   simp only[List.take_zero,List.sum_nil,List.drop_zero] at h0
   have hr:=F2_parts R ss ps (cs.drop s) (by simpa using hl) (by simp only[List.sum_cons] at hc;simp only[List.length_drop];omega) (fun i y v hy hv=>by
    have:=h (i+1) y v (by simpa using hy) (by simpa using hv)
    simp only[List.take_succ_cons,List.sum_cons] at this
    rw[List.drop_drop]
    exact this)
   have:=F2_append h0 hr
   rw[List.take_append_drop] at this
   simpa using this
 | [],_::_,_,hl,_,_=>by simp at hl
 | _::_,[],_,hl,_,_=>by simp at hl
theorem Plt.size (hT:TyOk P ty) {t:TypeId} (h:Plt ty t):szOf ty t=P.cellsOf t:=by
 cases h with
 | int h=>rw[cellsOf_ty hT h];simp[szOf,h]
 | bool h=>rw[cellsOf_ty hT h];simp[szOf,h]
 | str h=>rw[cellsOf_ty hT h];simp[szOf,h]
 | st h=>rw[cellsOf_ty hT h];simp[szOf,h]
 | ar h=>rw[cellsOf_ty hT h];simp[szOf,h]
theorem read_lit (hT:TyOk P ty) {t:TypeId} (hp:Plt ty t):∀ (fuel:Nat) (cs:List Value) (x:DataW H × List MemPlace),DataW.trod enc P w 0 spare held fuel t cs=some x→F2 (AnyL ty) (leafsD x.1) cs:=by
 induction hp with
 | @int t k s b z ht=>
   intro fuel cs x h
   obtain⟨n,rfl,rfl,hw⟩:=DataW.trod_int (show P.underlying t=some (.int k) from (hT t _ ht).kind) h
   exact F2_one fun w okb=> .int k n
 | @bool t s b z ht=>
   intro fuel cs x h
   obtain⟨n,rfl,rfl⟩:=DataW.trod_bool (show P.underlying t=some .bool from (hT t _ ht).kind) h
   exact F2_one fun w okb=> .bool n
 | @str t s b z ht=>
   intro fuel cs x h
   obtain⟨n,rfl,rfl,hw⟩:=DataW.trod_string (show P.underlying t=some .string from (hT t _ ht).kind) h
   refine F2_one fun w okb=>?_
   have:(⟨n.data.toList.toArray⟩:ByteArray)=n:=by simp
   rw[this];exact .str n
 | @st t ts s b z ht hs hu ih=>
   intro fuel cs x h
   obtain⟨fds,hk,hsz,hfd⟩:=(hT t _ ht).kind
   obtain⟨xs,n,_,rfl,hcl,hxl,hx⟩:=DataW.trod_struct hk h
   have hcs:cs.length=(ts.map (szOf ty)).sum:=by rw[hcl,cellsOf_ty hT ht];exact hs
   simp only[leafsD,leafsDL_flat,List.map_map]
   refine F2_parts _ (ts.map (szOf ty)) _ cs (by simp;omega) hcs fun i p sz hp hs2=>?_
   rw[List.getElem?_map] at hp hs2
   cases hxi:xs[i]? with
   | none=>rw[hxi] at hp;cases hp
   | some y=>
     rw[hxi] at hp;injection hp with hp;subst hp
     cases hti:ts[i]? with
     | none=>rw[hti] at hs2;cases hs2
     | some u=>
       rw[hti] at hs2;injection hs2 with hs2;subst hs2
       have hif:i < fds.size:=by have:=(List.getElem?_eq_some_iff.1 hti).1;omega
       obtain⟨e1,e2⟩:=hfd i fds[i] (Array.getElem?_eq_getElem hif)
       have e3:=hx i fds[i] (Array.getElem?_eq_getElem hif)
       rw[hti] at e1;injection e1 with e1
       have hmem:u ∈ ts:=List.mem_of_getElem? hti
       rw[hxi,e2,← e1,← (hu u hmem).size hT] at e3
       rw[← List.map_take]
       exact ih u hmem n _ _ e3
 | @ar t e m s b z ht hs he ih=>
   intro fuel cs x h
   have hk:P.underlying t=some (.array m e):=(hT t _ ht).kind
   cases fuel with
   | zero=>simp[DataW.trod] at h
   | succ n=>
     simp only[DataW.trod,hk] at h
     split at h
     ·rename_i hl
      obtain⟨xs,hm,rfl⟩:=Option.map_eq_some_iff.1 h
      have hsz:=he.size hT
      have hcs:cs.length=m * szOf ty e:=by rw[hl,cellsOf_ty hT ht];exact hs
      have hxl:xs.length=m:=by simpa using mapM_some_length hm
      simp only[leafsD,leafsDL_flat,List.map_map]
      refine F2_parts _ (List.replicate m (szOf ty e)) _ cs (by simp;omega) (by simp[hcs]) fun i p sz hp hs2=>?_
      rw[List.getElem?_map] at hp
      cases hxi:xs[i]? with
      | none=>rw[hxi] at hp;cases hp
      | some y=>
        rw[hxi] at hp;injection hp with hp;subst hp
        have hi:i < m:=by have:=(List.getElem?_eq_some_iff.1 hxi).1;omega
        rw[List.getElem?_replicate,if_pos hi] at hs2
        injection hs2 with hs2;subst hs2
        have e3:=mapM_some_get hm i i (by simp[hi])
        rw[hxi,← hsz] at e3
        rw[List.take_replicate,List.sum_replicate_nat,Nat.min_eq_left (Nat.le_of_lt hi)]
        exact ih n _ _ e3
     ·cases h
end
end Go.Abs
end
section
set_option maxRecDepth 100000
namespace Go.Proofs.Tryz
open Go Go.Abs Go.RowKit Go.WideShapes Go.ChangeShapes
theorem pln80:Pln ty 80:= .st ty_80 rfl fun u hu=>by
 have:u=3∨u=2:=by simp at hu;omega
 rcases this with rfl | rfl
 ·exact .int ty_3
 ·exact .int ty_2
theorem pln90:Pln ty 90:= .st ty_90 rfl fun u hu=>by
 have:u=3∨u=9:=by simp at hu;omega
 rcases this with rfl | rfl
 ·exact .int ty_3
 ·exact .str ty_9
theorem wf_inr {n:Int} (h:(Lit.int .i64 n).wf=true):InR n:=by
 simp only[Lit.wf,Bool.and_eq_true,decide_eq_true_eq] at h
 exact h
theorem tv_i64 {t:TypeId} {s b:Nat} {z:AV} (ht:ty t=some ⟨.int .i64,s,b,z⟩) {x:AV} (h:Tv ty t x):∃ n,x = .int .i64 n∧InR n:=by
 cases h with
 | int h1 h2=>rw[ht] at h1;injection h1 with h1;injection h1 with h1;injection h1 with h1;subst h1;exact⟨_,rfl,wf_inr h2⟩
 | bool h1=>rw[ht] at h1;injection h1 with h1;injection h1 with h1;cases h1
 | str h1=>rw[ht] at h1;injection h1 with h1;injection h1 with h1;cases h1
 | st h1=>rw[ht] at h1;injection h1 with h1;injection h1 with h1;cases h1
theorem tv_str {t:TypeId} {s b:Nat} {z:AV} (ht:ty t=some ⟨.str,s,b,z⟩) {x:AV} (h:Tv ty t x):∃ n,x = .str n∧n.size≤9223372036854775807:=by
 cases h with
 | int h1=>rw[ht] at h1;injection h1 with h1;injection h1 with h1;cases h1
 | bool h1=>rw[ht] at h1;injection h1 with h1;injection h1 with h1;cases h1
 | str h1 h2=>exact⟨_,rfl,h2⟩
 | st h1=>rw[ht] at h1;injection h1 with h1;injection h1 with h1;cases h1
theorem tv_st {t:TypeId} {us:List TypeId} {s b:Nat} {z:AV} (ht:ty t=some ⟨.struct us,s,b,z⟩) {x:AV} (h:Tv ty t x):∃ fs,x = .st t fs∧fs.length=us.length∧∀ (i:Nat) (x:AV) (u:TypeId),fs[i]? = some x→us[i]? = some u→Tv ty u x:=by
 cases h with
 | int h1=>rw[ht] at h1;injection h1 with h1;injection h1 with h1;cases h1
 | bool h1=>rw[ht] at h1;injection h1 with h1;injection h1 with h1;cases h1
 | str h1=>rw[ht] at h1;injection h1 with h1;injection h1 with h1;cases h1
 | st h1 h2 h3=>rw[ht] at h1;injection h1 with h1;injection h1 with h1;injection h1 with h1;subst h1;exact⟨_,rfl,h2,h3⟩
structure OpR (o:XOp):Prop where
 op:InR o.op
 d:InR o.d
 a:InR o.a
 b:InR o.b
 n:InR o.n
structure RelR (r:XRel):Prop where
 kind:InR r.kind
 at_:InR r.at_
 str:r.str.size≤9223372036854775807
 mem:r.mem.size≤9223372036854775807
theorem tv_op {x:AV} (h:Tv ty 80 x):∃ o:XOp,x=eOp o∧OpR o:=by
 obtain⟨fs,rfl,hl,hf⟩:=tv_st ty_80 h
 match fs,hl with
 | [x0,x1,x2,x3,x4],_=>
   obtain⟨n0,rfl,h0⟩:=tv_i64 ty_3 (hf 0 _ 3 rfl rfl)
   obtain⟨n1,rfl,h1⟩:=tv_i64 ty_3 (hf 1 _ 3 rfl rfl)
   obtain⟨n2,rfl,h2⟩:=tv_i64 ty_3 (hf 2 _ 3 rfl rfl)
   obtain⟨n3,rfl,h3⟩:=tv_i64 ty_3 (hf 3 _ 3 rfl rfl)
   obtain⟨n4,rfl,h4⟩:=tv_i64 ty_2 (hf 4 _ 2 rfl rfl)
   exact⟨⟨n0,n1,n2,n3,n4⟩,rfl,h0,h1,h2,h3,h4⟩
theorem tv_rel {x:AV} (h:Tv ty 90 x):∃ o:XRel,x=eRel o∧RelR o:=by
 obtain⟨fs,rfl,hl,hf⟩:=tv_st ty_90 h
 match fs,hl with
 | [x0,x1,x2,x3],_=>
   obtain⟨n0,rfl,h0⟩:=tv_i64 ty_3 (hf 0 _ 3 rfl rfl)
   obtain⟨n1,rfl,h1⟩:=tv_i64 ty_3 (hf 1 _ 3 rfl rfl)
   obtain⟨n2,rfl,h2⟩:=tv_str ty_9 (hf 2 _ 9 rfl rfl)
   obtain⟨n3,rfl,h3⟩:=tv_str ty_9 (hf 3 _ 9 rfl rfl)
   exact⟨⟨n0,n1,n2,n3⟩,rfl,h0,h1,h2,h3⟩
theorem tv_list {α:Type} {t:TypeId} {f:α→AV} {Q:α→Prop} (hx:∀ x,Tv ty t x→∃ a,x=f a∧Q a):∀ {l:List AV},(∀ y ∈ l,Tv ty t y)→∃ bs:List α,l=bs.map f∧∀ a ∈ bs,Q a
 | [],_=>⟨[],rfl,fun a h=>by cases h⟩
 | y::r,h=>by
   obtain⟨a,rfl,ha⟩:=hx y (h y (by simp))
   obtain⟨bs,rfl,hbs⟩:=tv_list hx (l:=r) fun z hz=>h z (by simp[hz])
   exact⟨a::bs,rfl,fun b hb=>by
    rcases List.mem_cons.1 hb with rfl | hb
    ·exact ha
    ·exact hbs b hb⟩
structure CR0 (c:XCode):Prop where
 ops:∀ o ∈ c.ops,OpR o
 ints:∀ n ∈ c.ints,InR n
 strs:∀ s ∈ c.strs,s.size≤9223372036854775807
 rels:∀ r ∈ c.rels,RelR r
theorem spot_of {w:World} {r:Reach} {base:Nat} {t e:TypeId} {v:Value} (ht:Tryz.prog.underlying t=some (.slice e)) (h:Cell.okWide Tryz.prog w r base t v):∀ a len cap,v = .slice (some a) len cap→a.spot=none∧a.block < w.heap.size:=by
 rintro a len cap rfl
 simp only[Cell.okWide,Cell.ok,ht] at h
 obtain⟨_,_,_,hs,row,cells,hsh,_⟩:=h
 refine⟨hs,?_⟩
 unfold World.shape? at hsh
 split at hsh
 ·rename_i hh;exact (Array.getElem?_eq_some_iff.1 hh).1
 ·cases hsh
abbrev avC (c:XCode):AV:= .st 27 [.sl 80 ⟨false,none,false⟩ (c.ops.map eOp),.sl 2 ⟨false,none,false⟩ (c.ints.map eI),.sl 9 ⟨false,none,false⟩ (c.strs.map eS),.sl 90 ⟨false,none,false⟩ (c.rels.map eRel)]
theorem types27:Tryz.prog.cellTypes Tryz.prog.depth 27=some [22,23,24,25]:=by kernel_rfl
theorem conf27 (c:XCode):Conf ty 27 (avC c):= .st ty_27 rfl rfl fun i x u hx hu=>by
 match i with
 | 0=>simp at hx hu;subst hx;subst hu;exact .leaf ty_22 rfl rfl rfl
 | 1=>simp at hx hu;subst hx;subst hu;exact .leaf ty_23 rfl rfl rfl
 | 2=>simp at hx hu;subst hx;subst hu;exact .leaf ty_24 rfl rfl rfl
 | 3=>simp at hx hu;subst hx;subst hu;exact .leaf ty_25 rfl rfl rfl
 | i+4=>simp at hx
section
variable {H:Type} {enc:TypeId × Value→H} {w:World} {held:Bool}
theorem read_code {base:Nat} {v:Value} {d:DataW H} {ps:List MemPlace} (hv:Value.okWide Tryz.prog w .any base 27 v) (h:DataW.Trod enc Tryz.prog w 0 (fun _=>true) held 27 v d ps) :
 ∃ c:XCode,CR1 ty w (fun _ _=>True) (avC c) v∧CR0 c:=by
 obtain⟨fuel,h⟩:=h
 obtain⟨fds,hk,hsz,hfd⟩:=(tabs.ok 27 _ ty_27).kind
 simp only[Value.okWide,hk] at hv
 obtain⟨cs,rfl,hcl,hrow⟩:=hv
 obtain⟨ts,hts,_,hcell⟩:=hrow
 rw[types27] at hts
 injection hts with hts;subst hts
 obtain⟨xs,n,_,_,hl,hxl,hx⟩:=DataW.trod_struct hk h
 have hl4:cs.toList.length=4:=by rw[show Value.cells (.agg cs)=cs from rfl] at hl;rw[hl,cellsOf_ty tabs.ok ty_27]
 rw[show Value.cells (.agg cs)=cs from rfl] at hx
 obtain⟨l,rfl⟩:∃ l:List Value,cs=l.toArray:=⟨cs.toList,by simp⟩
 simp only[List.toList_toArray] at hl4 hx
 match l,hl4 with
 | [c0,c1,c2,c3],_=>
   have fd:∀ (i:Nat) (u:TypeId) (c:Value),i < 4→([22,23,24,25]:List TypeId)[i]? = some u→([c0,c1,c2,c3]:List Value)[i]? = some c→szOf ty u=1→(((([22,23,24,25]:List TypeId).take i).map (szOf ty)).sum=i)→∃ y,DataW.trod enc Tryz.prog w 0 (fun _=>true) held n u [c]=some y:=fun i u c hi hu hc hs ho=>by
    have hif:i < fds.size:=by rw[hsz];exact hi
    obtain⟨e1,e2⟩:=hfd i fds[i] (Array.getElem?_eq_getElem hif)
    have e3:=hx i fds[i] (Array.getElem?_eq_getElem hif)
    rw[hu] at e1;injection e1 with e1
    rw[ho] at e2
    rw[List.getElem?_eq_getElem (show i < xs.length by omega),← e1,e2] at e3
    have hc1:Tryz.prog.cellsOf u=1:=by
     match i,hi with
     | 0,_=>simp at hu;subst hu;rw[cellsOf_ty tabs.ok ty_22]
     | 1,_=>simp at hu;subst hu;rw[cellsOf_ty tabs.ok ty_23]
     | 2,_=>simp at hu;subst hu;rw[cellsOf_ty tabs.ok ty_24]
     | 3,_=>simp at hu;subst hu;rw[cellsOf_ty tabs.ok ty_25]
    have:(([c0,c1,c2,c3]:List Value).drop i).take (Tryz.prog.cellsOf u)=[c]:=by
     rw[hc1]
     match i,hi with
     | 0,_=>simp at hc;subst hc;rfl
     | 1,_=>simp at hc;subst hc;rfl
     | 2,_=>simp at hc;subst hc;rfl
     | 3,_=>simp at hc;subst hc;rfl
    rw[this] at e3
    exact⟨_,e3⟩
   have ok:∀ (i:Nat) (u e:TypeId) (c:Value),([22,23,24,25]:List TypeId)[i % 4]? = some u→([c0,c1,c2,c3]:List Value)[i]? = some c→Tryz.prog.underlying u=some (.slice e)→∀ a len cap,c = .slice (some a) len cap→a.spot=none∧a.block < w.heap.size:=fun i u e c hu hc ht=>by
    obtain⟨u',h1,h2⟩:=hcell i c (by simpa using hc)
    rw[show ([22,23,24,25]:List TypeId).length=4 from rfl,hu] at h1
    injection h1 with h1;subst h1
    exact spot_of ht h2
   have k22:=((tabs.ok 22 _ ty_22).kind).1
   have k23:=((tabs.ok 23 _ ty_23).kind).1
   have k24:=((tabs.ok 24 _ ty_24).kind).1
   have k25:=((tabs.ok 25 _ ty_25).kind).1
   obtain⟨y0,t0⟩:=fd 0 22 c0 (by omega) rfl rfl rfl rfl
   obtain⟨y1,t1⟩:=fd 1 23 c1 (by omega) rfl rfl rfl rfl
   obtain⟨y2,t2⟩:=fd 2 24 c2 (by omega) rfl rfl rfl rfl
   obtain⟨y3,t3⟩:=fd 3 25 c3 (by omega) rfl rfl rfl rfl
   obtain⟨es0,l0,v0⟩:=read_slice tabs.ok ty_22 pln80 t0 (ok 0 22 80 c0 rfl rfl k22)
   obtain⟨es1,l1,v1⟩:=read_slice tabs.ok ty_23 (.int ty_2) t1 (ok 1 23 2 c1 rfl rfl k23)
   obtain⟨es2,l2,v2⟩:=read_slice tabs.ok ty_24 (.str ty_9) t2 (ok 2 24 9 c2 rfl rfl k24)
   obtain⟨es3,l3,v3⟩:=read_slice tabs.ok ty_25 pln90 t3 (ok 3 25 90 c3 rfl rfl k25)
   obtain⟨ops,rfl,q0⟩:=tv_list (f:=eOp) (fun x h=>tv_op h) v0
   obtain⟨ints,rfl,q1⟩:=tv_list (f:=eI) (fun x h=>tv_i64 ty_2 h) v1
   obtain⟨strs,rfl,q2⟩:=tv_list (f:=eS) (fun x h=>tv_str ty_9 h) v2
   obtain⟨rels,rfl,q3⟩:=tv_list (f:=eRel) (fun x h=>tv_rel h) v3
   refine⟨⟨ops,ints,strs,rels⟩,⟨_,rfl,conf27 ⟨ops,ints,strs,rels⟩,?_⟩,⟨q0,q1,q2,q3⟩⟩
   simp only[leaves,leavesL,List.append_nil,List.cons_append,List.nil_append]
   exact F2_cons l0 (F2_cons l1 (F2_cons l2 (F2_cons l3 ⟨rfl,fun i x v hx=>by simp at hx⟩)))
end
theorem plt142:Plt ty 142:= .st ty_142 rfl fun u hu=>by
 have:u=9∨u=4:=by simp at hu;omega
 rcases this with rfl | rfl
 ·exact .str ty_9
 ·exact .bool ty_4
theorem plt158:Plt ty 158:= .ar ty_158 rfl plt142
theorem forms_leaves:leaves formsV=leafsD (YtbdbjpdlcemeaaaGreatDoor.Rows.laid_tapline_code_forms (H:=Unit)):=by kernel_rfl
theorem conf142 (f:XForm):Conf ty 142 (eForm f):= .st ty_142 rfl rfl fun i x u hx hu=>by
 match i with
 | 0=>simp at hx hu;subst hx;subst hu;exact .leaf ty_9 rfl rfl rfl
 | 1=>simp at hx hu;subst hx;subst hu;exact .leaf ty_4 rfl rfl rfl
 | 2=>simp at hx hu;subst hx;subst hu;exact .leaf ty_4 rfl rfl rfl
 | 3=>simp at hx hu;subst hx;subst hu;exact .leaf ty_4 rfl rfl rfl
 | 4=>simp at hx hu;subst hx;subst hu;exact .leaf ty_4 rfl rfl rfl
 | i+5=>simp at hx
theorem conf158:Conf ty 158 formsV:= .ar ty_158 (by simp[formsL]) rfl (fun x hx=>by obtain⟨f,_,rfl⟩:=List.mem_map.1 hx;exact conf142 f) (fun x hx=>by obtain⟨f,_,rfl⟩:=List.mem_map.1 hx;rfl)
theorem glob_forms {w:World} {rest:List (String × DataW Unit)} (h:laidMet Tryz.prog (("tapline/code.forms",YtbdbjpdlcemeaaaGreatDoor.Rows.laid_tapline_code_forms)::rest) w):LR ty w (fun _=>True) (.ro false 158 formsV) (.pointer (some ⟨0,0,none⟩)):=by
 obtain⟨ps,⟨g,t,cs,fuel,p,q,hg,ht,hvar,hd,_,_⟩,_⟩:=h
 have hg0:Tryz.prog.globalNamed "tapline/code.forms" = some 0:=by kernel_rfl
 have ht0:(Tryz.prog.globals[0]?).map (·.type)=some 158:=by kernel_rfl
 obtain rfl:=Option.some.inj (hg0.symm.trans hg)
 obtain rfl:=Option.some.inj (ht0.symm.trans ht)
 have hf:=read_lit tabs.ok plt158 _ _ _ hd
 simp only[← forms_leaves] at hf
 have hc:∀ i,w.cell? ⟨0,i,none⟩=cs[i]?:=World.var?_cell hg hvar
 have hb:0 < w.heap.size:=by
  have:=hc 0
  rcases Nat.lt_or_ge 0 w.heap.size with h | h
  ·exact h
  ·exfalso
   have e:w.heap[0]? = none:=Array.getElem?_eq_none h
   simp only[World.cell?,e] at this
   have hl:cs.toList.length=205:=by rw[← hf.1];kernel_rfl
   have h0:=this.symm
   simp at h0
   rw[h0] at hl
   cases hl
 refine .ro false 158 formsV 0 0 (fun j=>cs.getD j undef) trivial hb conf158 (fun j y hy=>?_) (fun j y hy=>?_)
 all_goals
  obtain⟨v,hv,hl⟩:=hf.get hy
  have hv':cs[j]? = some v:=by simpa using hv
  have hg:cs.getD j undef=v:=by simp[Array.getD_eq_getD_getElem?,hv']
 ·rw[Nat.zero_add,hc,hv'];exact congrArg some hg.symm
 ·show LR ty w (fun _=>True) y (cs.getD j undef)
  rw[hg];exact hl w _
theorem globs {w:World} (h:LR ty w (fun _=>True) (.ro false 158 formsV) (.pointer (some ⟨0,0,none⟩))):∀ g t x,G0 g=some (t,x)→LR ty w (fun _=>True) (.ro false t x) (.pointer (some ⟨g,0,none⟩)):=fun g t x hg=>by
 unfold G0 at hg
 split at hg
 ·rename_i e;subst e;injection hg with hg;injection hg with h1 h2;subst h1;subst h2;exact h
 ·cases hg
end Go.Proofs.Tryz
end
