/- Part of the proof of one statement of this seat: an abstract machine for the program, its contracts, and the statement (no condition of our own). -/
import Derived.Test.YtbdbjpdlcemeaaaDoorRows
import Derived.Carry
import Derived.ProofKit
import Derived.Test.YtbdbjpdlcemeaaaDoorDp04
import Derived.Test.YtbdbjpdlcemeaaaDoorDp14
set_option linter.unusedSimpArgs false
set_option linter.unusedVariables false
section
set_option maxRecDepth 100000
namespace Go.Proofs.Tryd
open Go Go.Abs Go.RowKit Go.WideShapes Go.ChangeShapes
theorem pln36:Pln ty 36:= .st ty_36 rfl fun u hu=>by
 have:u=3∨u=2:=by simp at hu;omega
 rcases this with rfl | rfl
 ·exact .int ty_3
 ·exact .int ty_2
theorem pln38:Pln ty 38:= .st ty_38 rfl fun u hu=>by
 have:u=3∨u=9:=by simp at hu;omega
 rcases this with rfl | rfl
 ·exact .int ty_3
 ·exact .str ty_9
theorem wf_inr {n:Int} (h:(Lit.int .i64 n).wf=true):InR n:=by
 simp only[Lit.wf,Bool.and_eq_true,decide_eq_true_eq] at h;exact h
theorem tv_i64 {t:TypeId} {s b:Nat} {z:AV} (ht:ty t=some ⟨.int .i64,s,b,z⟩) {x:AV} (h:Tv ty t x):∃ n,x = .int .i64 n∧InR n:=by
 cases h with
 | int h1 h2=>rw[ht] at h1;injection h1 with h1;injection h1 with h1;injection h1 with h1;subst h1;exact⟨_,rfl,wf_inr h2⟩
 | bool h1=>rw[ht] at h1;injection h1 with h1;injection h1 with h1;cases h1
 | str h1=>rw[ht] at h1;injection h1 with h1;injection h1 with h1;cases h1
 | st h1=>rw[ht] at h1;injection h1 with h1;injection h1 with h1;cases h1
theorem tv_str {t:TypeId} {s b:Nat} {z:AV} (ht:ty t=some ⟨.str,s,b,z⟩) {x:AV} (h:Tv ty t x):∃ n,x = .str n∧n.size≤9223372036854775807:=by
 cases h with
 | int h1=>rw[ht] at h1;injection h1 with h1;injection h1 with h1;cases h1
 | bool h1=>rw[ht] at h1;injection h1 with h1;injection h1 with h1;cases h1
 | str h1 h2=>exact⟨_,rfl,h2⟩
 | st h1=>rw[ht] at h1;injection h1 with h1;injection h1 with h1;cases h1
theorem tv_st {t:TypeId} {us:List TypeId} {s b:Nat} {z:AV} (ht:ty t=some ⟨.struct us,s,b,z⟩) {x:AV} (h:Tv ty t x):∃ fs,x = .st t fs∧fs.length=us.length∧∀ (i:Nat) (x:AV) (u:TypeId),fs[i]? = some x→us[i]? = some u→Tv ty u x:=by
 cases h with
 | int h1=>rw[ht] at h1;injection h1 with h1;injection h1 with h1;cases h1
 | bool h1=>rw[ht] at h1;injection h1 with h1;injection h1 with h1;cases h1
 | str h1=>rw[ht] at h1;injection h1 with h1;injection h1 with h1;cases h1
 | st h1 h2 h3=>rw[ht] at h1;injection h1 with h1;injection h1 with h1;injection h1 with h1;subst h1;exact⟨_,rfl,h2,h3⟩
structure OpR (o:XOp):Prop where
 op:InR o.op
 d:InR o.d
 a:InR o.a
 b:InR o.b
 n:InR o.n
structure RelR (r:XRel):Prop where
 kind:InR r.kind
 at_:InR r.at_
 str:r.str.size≤9223372036854775807
 mem:r.mem.size≤9223372036854775807
theorem tv_op {x:AV} (h:Tv ty 36 x):∃ o:XOp,x=eOp o∧OpR o:=by
 obtain⟨fs,rfl,hl,hf⟩:=tv_st ty_36 h
 match fs,hl with
 | [x0,x1,x2,x3,x4],_=>
   obtain⟨n0,rfl,h0⟩:=tv_i64 ty_3 (hf 0 _ 3 rfl rfl);obtain⟨n1,rfl,h1⟩:=tv_i64 ty_3 (hf 1 _ 3 rfl rfl);obtain⟨n2,rfl,h2⟩:=tv_i64 ty_3 (hf 2 _ 3 rfl rfl);obtain⟨n3,rfl,h3⟩:=tv_i64 ty_3 (hf 3 _ 3 rfl rfl);obtain⟨n4,rfl,h4⟩:=tv_i64 ty_2 (hf 4 _ 2 rfl rfl);exact⟨⟨n0,n1,n2,n3,n4⟩,rfl,h0,h1,h2,h3,h4⟩
theorem tv_rel {x:AV} (h:Tv ty 38 x):∃ o:XRel,x=eRel o∧RelR o:=by
 obtain⟨fs,rfl,hl,hf⟩:=tv_st ty_38 h
 match fs,hl with
 | [x0,x1,x2,x3],_=>
   obtain⟨n0,rfl,h0⟩:=tv_i64 ty_3 (hf 0 _ 3 rfl rfl);obtain⟨n1,rfl,h1⟩:=tv_i64 ty_3 (hf 1 _ 3 rfl rfl);obtain⟨n2,rfl,h2⟩:=tv_str ty_9 (hf 2 _ 9 rfl rfl);obtain⟨n3,rfl,h3⟩:=tv_str ty_9 (hf 3 _ 9 rfl rfl);exact⟨⟨n0,n1,n2,n3⟩,rfl,h0,h1,h2,h3⟩
theorem tv_list {α:Type} {t:TypeId} {f:α→AV} {Q:α→Prop} (hx:∀ x,Tv ty t x→∃ a,x=f a∧Q a):∀ {l:List AV},(∀ y ∈ l,Tv ty t y)→∃ bs:List α,l=bs.map f∧∀ a ∈ bs,Q a
 | [],_=>⟨[],rfl,fun a h=>by cases h⟩
 | y::r,h=>by
   obtain⟨a,rfl,ha⟩:=hx y (h y (by simp));obtain⟨bs,rfl,hbs⟩:=tv_list hx (l:=r) fun z hz=>h z (by simp[hz])
   exact⟨a::bs,rfl,fun b hb=>by
    rcases List.mem_cons.1 hb with rfl | hb
    ·exact ha
    ·exact hbs b hb⟩
structure CR0 (c:XCode):Prop where
 ops:∀ o ∈ c.ops,OpR o
 ints:∀ n ∈ c.ints,InR n
 strs:∀ s ∈ c.strs,s.size≤9223372036854775807
 rels:∀ r ∈ c.rels,RelR r
theorem spot_of {w:World} {r:Reach} {base:Nat} {t e:TypeId} {v:Value} (ht:Tryd.prog.underlying t=some (.slice e)) (h:Cell.okWide Tryd.prog w r base t v):∀ a len cap,v = .slice (some a) len cap→a.spot=none∧a.block < w.heap.size:=by
 rintro a len cap rfl;simp only[Cell.okWide,Cell.ok,ht] at h;obtain⟨_,_,_,hs,row,cells,hsh,_⟩:=h;refine⟨hs,?_⟩;unfold World.shape? at hsh;split at hsh
 ·rename_i hh;exact (Array.getElem?_eq_some_iff.1 hh).1
 ·cases hsh
abbrev avC (c:XCode):AV:= .st 27 [.sl 36 ⟨false,none,false⟩ (c.ops.map eOp),.sl 2 ⟨false,none,false⟩ (c.ints.map eI),.sl 9 ⟨false,none,false⟩ (c.strs.map eS),.sl 38 ⟨false,none,false⟩ (c.rels.map eRel)]
theorem types27:Tryd.prog.cellTypes Tryd.prog.depth 27=some [22,23,24,25]:=by kernel_rfl
theorem conf27 (c:XCode):Conf ty 27 (avC c):= .st ty_27 rfl rfl fun i x u hx hu=>by
 match i with
 | 0=>simp at hx hu;subst hx;subst hu;exact .leaf ty_22 rfl rfl rfl
 | 1=>simp at hx hu;subst hx;subst hu;exact .leaf ty_23 rfl rfl rfl
 | 2=>simp at hx hu;subst hx;subst hu;exact .leaf ty_24 rfl rfl rfl
 | 3=>simp at hx hu;subst hx;subst hu;exact .leaf ty_25 rfl rfl rfl
 | i+4=>simp at hx
section
variable {H:Type} {enc:TypeId × Value→H} {w:World} {held:Bool}
theorem read_code {base:Nat} {v:Value} {d:DataW H} {ps:List MemPlace} (hv:Value.okWide Tryd.prog w .any base 27 v) (h:DataW.Trod enc Tryd.prog w 0 (fun _=>true) held 27 v d ps) :
 ∃ c:XCode,CR1 ty w (fun _ _=>True) (avC c) v∧CR0 c:=by
 obtain⟨fuel,h⟩:=h;obtain⟨fds,hk,hsz,hfd⟩:=(tabs.ok 27 _ ty_27).kind;simp only[Value.okWide,hk] at hv;obtain⟨cs,rfl,hcl,hrow⟩:=hv;obtain⟨ts,hts,_,hcell⟩:=hrow;rw[types27] at hts;injection hts with hts;subst hts
 obtain⟨xs,n,_,_,hl,hxl,hx⟩:=DataW.trod_struct hk h;have hl4:cs.toList.length=4:=by rw[show Value.cells (.agg cs)=cs from rfl] at hl;rw[hl,cellsOf_ty tabs.ok ty_27]
 rw[show Value.cells (.agg cs)=cs from rfl] at hx;obtain⟨l,rfl⟩:∃ l:List Value,cs=l.toArray:=⟨cs.toList,by simp⟩
 simp only[List.toList_toArray] at hl4 hx
 match l,hl4 with
 | [c0,c1,c2,c3],_=>
   have fd:∀ (i:Nat) (u:TypeId) (c:Value),i < 4→([22,23,24,25]:List TypeId)[i]? = some u→([c0,c1,c2,c3]:List Value)[i]? = some c→szOf ty u=1→(((([22,23,24,25]:List TypeId).take i).map (szOf ty)).sum=i)→∃ y,DataW.trod enc Tryd.prog w 0 (fun _=>true) held n u [c]=some y:=fun i u c hi hu hc hs ho=>by
    have hif:i < fds.size:=by rw[hsz];exact hi
    obtain⟨e1,e2⟩:=hfd i fds[i] (Array.getElem?_eq_getElem hif);have e3:=hx i fds[i] (Array.getElem?_eq_getElem hif);rw[hu] at e1;injection e1 with e1
    rw[ho] at e2;rw[List.getElem?_eq_getElem (show i < xs.length by omega),← e1,e2] at e3;have hc1:Tryd.prog.cellsOf u=1:=by
     match i,hi with
     | 0,_=>simp at hu;subst hu;rw[cellsOf_ty tabs.ok ty_22]
     | 1,_=>simp at hu;subst hu;rw[cellsOf_ty tabs.ok ty_23]
     | 2,_=>simp at hu;subst hu;rw[cellsOf_ty tabs.ok ty_24]
     | 3,_=>simp at hu;subst hu;rw[cellsOf_ty tabs.ok ty_25]
    have:(([c0,c1,c2,c3]:List Value).drop i).take (Tryd.prog.cellsOf u)=[c]:=by
     rw[hc1]
     match i,hi with
     | 0,_=>simp at hc;subst hc;rfl
     | 1,_=>simp at hc;subst hc;rfl
     | 2,_=>simp at hc;subst hc;rfl
     | 3,_=>simp at hc;subst hc;rfl
    rw[this] at e3;exact⟨_,e3⟩
   have ok:∀ (i:Nat) (u e:TypeId) (c:Value),([22,23,24,25]:List TypeId)[i % 4]? = some u→([c0,c1,c2,c3]:List Value)[i]? = some c→Tryd.prog.underlying u=some (.slice e)→∀ a len cap,c = .slice (some a) len cap→a.spot=none∧a.block < w.heap.size:=fun i u e c hu hc ht=>by
    obtain⟨u',h1,h2⟩:=hcell i c (by simpa using hc);rw[show ([22,23,24,25]:List TypeId).length=4 from rfl,hu] at h1;injection h1 with h1;subst h1
    exact spot_of ht h2
   have k22:=((tabs.ok 22 _ ty_22).kind).1;have k23:=((tabs.ok 23 _ ty_23).kind).1;have k24:=((tabs.ok 24 _ ty_24).kind).1;have k25:=((tabs.ok 25 _ ty_25).kind).1;obtain⟨y0,t0⟩:=fd 0 22 c0 (by omega) rfl rfl rfl rfl;obtain⟨y1,t1⟩:=fd 1 23 c1 (by omega) rfl rfl rfl rfl;obtain⟨y2,t2⟩:=fd 2 24 c2 (by omega) rfl rfl rfl rfl;obtain⟨y3,t3⟩:=fd 3 25 c3 (by omega) rfl rfl rfl rfl;obtain⟨es0,l0,v0⟩:=read_slice tabs.ok ty_22 pln36 t0 (ok 0 22 36 c0 rfl rfl k22);obtain⟨es1,l1,v1⟩:=read_slice tabs.ok ty_23 (.int ty_2) t1 (ok 1 23 2 c1 rfl rfl k23);obtain⟨es2,l2,v2⟩:=read_slice tabs.ok ty_24 (.str ty_9) t2 (ok 2 24 9 c2 rfl rfl k24);obtain⟨es3,l3,v3⟩:=read_slice tabs.ok ty_25 pln38 t3 (ok 3 25 38 c3 rfl rfl k25);obtain⟨ops,rfl,q0⟩:=tv_list (f:=eOp) (fun x h=>tv_op h) v0;obtain⟨ints,rfl,q1⟩:=tv_list (f:=eI) (fun x h=>tv_i64 ty_2 h) v1;obtain⟨strs,rfl,q2⟩:=tv_list (f:=eS) (fun x h=>tv_str ty_9 h) v2
   obtain⟨rels,rfl,q3⟩:=tv_list (f:=eRel) (fun x h=>tv_rel h) v3;refine⟨⟨ops,ints,strs,rels⟩,⟨_,rfl,conf27 ⟨ops,ints,strs,rels⟩,?_⟩,⟨q0,q1,q2,q3⟩⟩;simp only[leaves,leavesL,List.append_nil,List.cons_append,List.nil_append];exact F2_cons l0 (F2_cons l1 (F2_cons l2 (F2_cons l3 ⟨rfl,fun i x v hx=>by simp at hx⟩)))
end
theorem plt94:Plt ty 94:= .st ty_94 rfl fun u hu=>by
 have:u=9∨u=4:=by simp at hu;omega
 rcases this with rfl | rfl
 ·exact .str ty_9
 ·exact .bool ty_4
theorem plt103:Plt ty 103:= .ar ty_103 rfl plt94
theorem forms_leaves:leaves formsV=leafsD (YtbdbjpdlcemeaaaDoor.Rows.laid_tapline_code_forms (H:=Unit)):=by kernel_rfl
theorem conf142 (f:XForm):Conf ty 94 (eForm f):= .st ty_94 rfl rfl fun i x u hx hu=>by
 match i with
 | 0=>simp at hx hu;subst hx;subst hu;exact .leaf ty_9 rfl rfl rfl
 | 1=>simp at hx hu;subst hx;subst hu;exact .leaf ty_4 rfl rfl rfl
 | 2=>simp at hx hu;subst hx;subst hu;exact .leaf ty_4 rfl rfl rfl
 | 3=>simp at hx hu;subst hx;subst hu;exact .leaf ty_4 rfl rfl rfl
 | 4=>simp at hx hu;subst hx;subst hu;exact .leaf ty_4 rfl rfl rfl
 | i+5=>simp at hx
theorem conf158:Conf ty 103 formsV:= .ar ty_103 (by simp[formsL]) rfl (fun x hx=>by obtain⟨f,_,rfl⟩:=List.mem_map.1 hx;exact conf142 f) (fun x hx=>by obtain⟨f,_,rfl⟩:=List.mem_map.1 hx;rfl)
theorem glob_forms {w:World} {rest:List (String × DataW Unit)} (h:laidMet Tryd.prog (("tapline/code.forms",YtbdbjpdlcemeaaaDoor.Rows.laid_tapline_code_forms)::rest) w):LR ty w (fun _=>True) (.ro false 103 formsV) (.pointer (some ⟨0,0,none⟩)):=by
 obtain⟨ps,⟨g,t,cs,fuel,p,q,hg,ht,hvar,hd,_,_⟩,_⟩:=h;have hg0:Tryd.prog.globalNamed "tapline/code.forms" = some 0:=by kernel_rfl
 have ht0:(Tryd.prog.globals[0]?).map (·.type)=some 103:=by kernel_rfl
 obtain rfl:=Option.some.inj (hg0.symm.trans hg);obtain rfl:=Option.some.inj (ht0.symm.trans ht);have hf:=read_lit tabs.ok plt103 _ _ _ hd;simp only[← forms_leaves] at hf;have hc:∀ i,w.cell? ⟨0,i,none⟩=cs[i]?:=World.var?_cell hg hvar;have hb:0 < w.heap.size:=by
  have:=hc 0;rcases Nat.lt_or_ge 0 w.heap.size with h | h
  ·exact h
  ·exfalso;have e:w.heap[0]? = none:=Array.getElem?_eq_none h;simp only[World.cell?,e] at this;have hl:cs.toList.length=205:=by rw[← hf.1];kernel_rfl
   have h0:=this.symm;simp at h0;rw[h0] at hl;cases hl
 refine .ro false 103 formsV 0 0 (fun j=>cs.getD j undef) trivial hb conf158 (fun j y hy=>?_) (fun j y hy=>?_);all_goals
  obtain⟨v,hv,hl⟩:=hf.get hy;have hv':cs[j]? = some v:=by simpa using hv
  have hg:cs.getD j undef=v:=by simp[Array.getD_eq_getD_getElem?,hv']
 ·rw[Nat.zero_add,hc,hv'];exact congrArg some hg.symm
 ·show LR ty w (fun _=>True) y (cs.getD j undef);rw[hg];exact hl w _
theorem globs {w:World} (h:LR ty w (fun _=>True) (.ro false 103 formsV) (.pointer (some ⟨0,0,none⟩))):∀ g t x,G0 g=some (t,x)→LR ty w (fun _=>True) (.ro false t x) (.pointer (some ⟨g,0,none⟩)):=fun g t x hg=>by
 unfold G0 at hg;split at hg
 ·rename_i e;subst e;injection hg with hg;injection hg with h1 h2;subst h1;subst h2;exact h
 ·cases hg
end Go.Proofs.Tryd
end
