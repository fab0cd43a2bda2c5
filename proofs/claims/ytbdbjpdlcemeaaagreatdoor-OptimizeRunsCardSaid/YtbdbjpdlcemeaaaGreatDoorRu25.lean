/- A part of a proof. -/
import Derived.Test.YtbdbjpdlcemeaaaGreatDoorRows
import Derived.Carry
import Derived.ProofKit
import Derived.Test.YtbdbjpdlcemeaaaGreatDoorRu04
import Derived.Test.YtbdbjpdlcemeaaaGreatDoorRu14
set_option linter.unusedSimpArgs false
set_option linter.unusedVariables false
section
set_option maxRecDepth 100000
namespace Go.Proofs.Tryz
open Go Go.Abs Go.RowKit Go.WideShapes Go.ChangeShapes
theorem aiH:Ro ty 80:= .st Di rfl fun u hu=>by
 have:u=3∨u=2:=by simp at hu;omega
 rcases this with rfl | rfl
 ·exact .int oS
 ·exact .int FH
theorem aiI:Ro ty 90:= .st Dj rfl fun u hu=>by
 have:u=3∨u=9:=by simp at hu;omega
 rcases this with rfl | rfl
 ·exact .int oS
 ·exact .str yY
theorem awZ:Ro ty 29:= .st TH rfl fun u hu=>by
 have:u=3:=by simp at hu;omega
 subst this;exact .int oS
theorem abj {n:Int} (h:(Lit.int .i64 n).wf=true):bM n:=by
 simp only[Lit.wf,Bool.and_eq_true,decide_eq_true_eq] at h;exact h
theorem oB {t:TypeId} {s b:Nat} {z:AV} (ht:ty t=some ⟨.int .i64,s,b,z⟩) {x:AV} (h:Tv ty t x):∃ n,x = .int .i64 n∧bM n:=by
 cases h with
 | int h1 h2=>rw[ht] at h1;injection h1 with h1;injection h1 with h1;injection h1 with h1;subst h1;exact⟨_,rfl,abj h2⟩
 | bool h1=>rw[ht] at h1;injection h1 with h1;injection h1 with h1;cases h1
 | str h1=>rw[ht] at h1;injection h1 with h1;injection h1 with h1;cases h1
 | st h1=>rw[ht] at h1;injection h1 with h1;injection h1 with h1;cases h1
theorem G7 {t:TypeId} {s b:Nat} {z:AV} (ht:ty t=some ⟨.str,s,b,z⟩) {x:AV} (h:Tv ty t x):∃ n,x = .str n∧n.size≤9223372036854775807:=by
 cases h with
 | int h1=>rw[ht] at h1;injection h1 with h1;injection h1 with h1;cases h1
 | bool h1=>rw[ht] at h1;injection h1 with h1;injection h1 with h1;cases h1
 | str h1 h2=>exact⟨_,rfl,h2⟩
 | st h1=>rw[ht] at h1;injection h1 with h1;injection h1 with h1;cases h1
theorem U0 {t:TypeId} {us:List TypeId} {s b:Nat} {z:AV} (ht:ty t=some ⟨.struct us,s,b,z⟩) {x:AV} (h:Tv ty t x):∃ fs,x = .st t fs∧fs.length=us.length∧∀ (i:Nat) (x:AV) (u:TypeId),fs[i]? = some x→us[i]? = some u→Tv ty u x:=by
 cases h with
 | int h1=>rw[ht] at h1;injection h1 with h1;injection h1 with h1;cases h1
 | bool h1=>rw[ht] at h1;injection h1 with h1;injection h1 with h1;cases h1
 | str h1=>rw[ht] at h1;injection h1 with h1;injection h1 with h1;cases h1
 | st h1 h2 h3=>rw[ht] at h1;injection h1 with h1;injection h1 with h1;injection h1 with h1;subst h1;exact⟨_,rfl,h2,h3⟩
structure OpR (o:bp):Prop where
 op:bM o.op
 d:bM o.d
 a:bM o.a
 b:bM o.b
 n:bM o.n
structure aiJ (r:aP):Prop where
 kind:bM r.kind
 at_:bM r.at_
 str:r.str.size≤9223372036854775807
 mem:r.mem.size≤9223372036854775807
theorem aiK {x:AV} (h:Tv ty 80 x):∃ o:bp,x=dD o∧OpR o:=by
 obtain⟨fs,rfl,hl,hf⟩:=U0 Di h
 match fs,hl with
 | [x0,x1,x2,x3,x4],_=>
   obtain⟨n0,rfl,h0⟩:=oB oS (hf 0 _ 3 rfl rfl);obtain⟨n1,rfl,h1⟩:=oB oS (hf 1 _ 3 rfl rfl);obtain⟨n2,rfl,h2⟩:=oB oS (hf 2 _ 3 rfl rfl);obtain⟨n3,rfl,h3⟩:=oB oS (hf 3 _ 3 rfl rfl);obtain⟨n4,rfl,h4⟩:=oB FH (hf 4 _ 2 rfl rfl);exact⟨⟨n0,n1,n2,n3,n4⟩,rfl,h0,h1,h2,h3,h4⟩
theorem abk {x:AV} (h:Tv ty 90 x):∃ o:aP,x=b_ o∧aiJ o:=by
 obtain⟨fs,rfl,hl,hf⟩:=U0 Dj h
 match fs,hl with
 | [x0,x1,x2,x3],_=>
   obtain⟨n0,rfl,h0⟩:=oB oS (hf 0 _ 3 rfl rfl);obtain⟨n1,rfl,h1⟩:=oB oS (hf 1 _ 3 rfl rfl);obtain⟨n2,rfl,h2⟩:=G7 yY (hf 2 _ 9 rfl rfl);obtain⟨n3,rfl,h3⟩:=G7 yY (hf 3 _ 9 rfl rfl);exact⟨⟨n0,n1,n2,n3⟩,rfl,h0,h1,h2,h3⟩
theorem auE {x:AV} (h:Tv ty 29 x):∃ o:ct,x=bo o∧bM o.rule∧bM o.at_:=by
 obtain⟨fs,rfl,hl,hf⟩:=U0 TH h
 match fs,hl with
 | [x0,x1],_=>
   obtain⟨n0,rfl,h0⟩:=oB oS (hf 0 _ 3 rfl rfl);obtain⟨n1,rfl,h1⟩:=oB oS (hf 1 _ 3 rfl rfl);exact⟨⟨n0,n1⟩,rfl,h0,h1⟩
theorem si {α:Type} {t:TypeId} {f:α→AV} {Q:α→Prop} (hx:∀ x,Tv ty t x→∃ a,x=f a∧Q a):∀ {l:List AV},(∀ y ∈ l,Tv ty t y)→∃ bs:List α,l=bs.map f∧∀ a ∈ bs,Q a
 | [],_=>⟨[],rfl,fun a h=>by cases h⟩
 | y::r,h=>by
   obtain⟨a,rfl,ha⟩:=hx y (h y (by simp));obtain⟨bs,rfl,hbs⟩:=si hx (l:=r) fun z hz=>h z (by simp[hz])
   exact⟨a::bs,rfl,fun b hb=>by
    rcases List.mem_cons.1 hb with rfl | hb
    ·exact ha
    ·exact hbs b hb⟩
structure CR0 (c:aL):Prop where
 ops:∀ o ∈ c.ops,OpR o
 ints:∀ n ∈ c.ints,bM n
 strs:∀ s ∈ c.strs,s.size≤9223372036854775807
 U:∀ r ∈ c.U,aiJ r
theorem Tm {w:World} {r:Reach} {base:Nat} {t e:TypeId} {v:Value} (ht:Tryz.prog.underlying t=some (.slice e)) (h:Cell.okWide Tryz.prog w r base t v):∀ a len cap,v = .slice (some a) len cap→a.spot=none∧a.block < w.heap.size:=by
 rintro a len cap rfl;simp only[Cell.okWide,Cell.ok,ht] at h;obtain⟨_,_,_,hs,row,cells,ke,_⟩:=h;refine⟨hs,?_⟩;unfold World.shape? at ke;split at ke
 ·rename_i hh;exact (Array.getElem?_eq_some_iff.1 hh).1
 ·cases ke
abbrev avC (c:aL):AV:= .st 27 [.sl 80 ⟨false,none,false⟩ (c.ops.map dD),.sl 2 ⟨false,none,false⟩ (c.ints.map eI),.sl 9 ⟨false,none,false⟩ (c.strs.map eS),.sl 90 ⟨false,none,false⟩ (c.U.map b_)]
theorem Tn:Tryz.prog.cellTypes Tryz.prog.depth 27=some [22,23,24,25]:=by kernel_rfl
theorem abl (c:aL):br ty 27 (avC c):= .st Dh rfl rfl fun i x u hx hu=>by
 match i with
 | 0=>simp at hx hu;subst hx;subst hu;exact .leaf zG rfl rfl rfl
 | 1=>simp at hx hu;subst hx;subst hu;exact .leaf zH rfl rfl rfl
 | 2=>simp at hx hu;subst hx;subst hu;exact .leaf zI rfl rfl rfl
 | 3=>simp at hx hu;subst hx;subst hu;exact .leaf zJ rfl rfl rfl
 | i+4=>simp at hx
section
variable {H:Type} {enc:TypeId × Value→H} {w:World} {held:Bool}
theorem KR {base:Nat} {v:Value} {d:DataW H} {ps:List MemPlace} (hv:Value.okWide Tryz.prog w .any base 27 v) (h:DataW.Trod enc Tryz.prog w 0 (fun _=>true) held 27 v d ps) :
 ∃ c:aL,nz ty w (fun _ _=>True) (avC c) v∧CR0 c:=by
 obtain⟨fuel,h⟩:=h;obtain⟨fds,hk,cS,hfd⟩:=(cF.ok 27 _ Dh).kind;simp only[Value.okWide,hk] at hv;obtain⟨cs,rfl,nR,wu⟩:=hv;obtain⟨ts,hts,_,ig⟩:=wu;rw[Tn] at hts;injection hts with hts;subst hts
 obtain⟨xs,n,_,_,hl,hxl,hx⟩:=DataW.trod_struct hk h;have Fa:cs.toList.length=4:=by rw[show Value.cells (.agg cs)=cs from rfl] at hl;rw[hl,bW cF.ok Dh]
 rw[show Value.cells (.agg cs)=cs from rfl] at hx;obtain⟨l,rfl⟩:∃ l:List Value,cs=l.toArray:=⟨cs.toList,by simp⟩
 simp only[List.toList_toArray] at Fa hx
 match l,Fa with
 | [c0,c1,c2,c3],_=>
   have fd:∀ (i:Nat) (u:TypeId) (c:Value),i < 4→([22,23,24,25]:List TypeId)[i]? = some u→([c0,c1,c2,c3]:List Value)[i]? = some c→aH ty u=1→(((([22,23,24,25]:List TypeId).take i).map (aH ty)).sum=i)→∃ y,DataW.trod enc Tryz.prog w 0 (fun _=>true) held n u [c]=some y:=fun i u c hi hu hc hs ho=>by
    have Uh:i < fds.size:=by rw[cS];exact hi
    obtain⟨e1,e2⟩:=hfd i fds[i] (Array.getElem?_eq_getElem Uh);have e3:=hx i fds[i] (Array.getElem?_eq_getElem Uh);rw[hu] at e1;injection e1 with e1
    rw[ho] at e2;rw[List.getElem?_eq_getElem (show i < xs.length by omega),← e1,e2] at e3;have sy:Tryz.prog.cellsOf u=1:=by
     match i,hi with
     | 0,_=>simp at hu;subst hu;rw[bW cF.ok zG]
     | 1,_=>simp at hu;subst hu;rw[bW cF.ok zH]
     | 2,_=>simp at hu;subst hu;rw[bW cF.ok zI]
     | 3,_=>simp at hu;subst hu;rw[bW cF.ok zJ]
    have:(([c0,c1,c2,c3]:List Value).drop i).take (Tryz.prog.cellsOf u)=[c]:=by
     rw[sy]
     match i,hi with
     | 0,_=>simp at hc;subst hc;rfl
     | 1,_=>simp at hc;subst hc;rfl
     | 2,_=>simp at hc;subst hc;rfl
     | 3,_=>simp at hc;subst hc;rfl
    rw[this] at e3;exact⟨_,e3⟩
   have ok:∀ (i:Nat) (u e:TypeId) (c:Value),([22,23,24,25]:List TypeId)[i % 4]? = some u→([c0,c1,c2,c3]:List Value)[i]? = some c→Tryz.prog.underlying u=some (.slice e)→∀ a len cap,c = .slice (some a) len cap→a.spot=none∧a.block < w.heap.size:=fun i u e c hu hc ht=>by
    obtain⟨u',h1,h2⟩:=ig i c (by simpa using hc);rw[show ([22,23,24,25]:List TypeId).length=4 from rfl,hu] at h1;injection h1 with h1;subst h1
    exact Tm ht h2
   have k22:=((cF.ok 22 _ zG).kind).1;have k23:=((cF.ok 23 _ zH).kind).1;have k24:=((cF.ok 24 _ zI).kind).1;have k25:=((cF.ok 25 _ zJ).kind).1;obtain⟨y0,t0⟩:=fd 0 22 c0 (by omega) rfl rfl rfl rfl;obtain⟨y1,t1⟩:=fd 1 23 c1 (by omega) rfl rfl rfl rfl;obtain⟨y2,t2⟩:=fd 2 24 c2 (by omega) rfl rfl rfl rfl;obtain⟨y3,t3⟩:=fd 3 25 c3 (by omega) rfl rfl rfl rfl;obtain⟨Fv,l0,v0⟩:=m8 cF.ok zG aiH t0 (ok 0 22 80 c0 rfl rfl k22);obtain⟨J2,l1,v1⟩:=m8 cF.ok zH (.int FH) t1 (ok 1 23 2 c1 rfl rfl k23);obtain⟨es2,l2,v2⟩:=m8 cF.ok zI (.str yY) t2 (ok 2 24 9 c2 rfl rfl k24);obtain⟨es3,l3,v3⟩:=m8 cF.ok zJ aiI t3 (ok 3 25 90 c3 rfl rfl k25);obtain⟨N,rfl,q0⟩:=si (f:=dD) (fun x h=>aiK h) v0;obtain⟨V,rfl,q1⟩:=si (f:=eI) (fun x h=>oB FH h) v1;obtain⟨I,rfl,q2⟩:=si (f:=eS) (fun x h=>G7 yY h) v2
   obtain⟨U,rfl,q3⟩:=si (f:=b_) (fun x h=>abk h) v3;refine⟨⟨N,V,I,U⟩,⟨_,rfl,abl ⟨N,V,I,U⟩,?_⟩,⟨q0,q1,q2,q3⟩⟩;simp only[leaves,ay,List.append_nil,List.cons_append,List.nil_append];exact gH l0 (gH l1 (gH l2 (gH l3 ⟨rfl,fun i x v hx=>by simp at hx⟩)))
end
theorem abm:F5 ty 142:= .st Bu rfl fun u hu=>by
 have:u=9∨u=4:=by simp at hu;omega
 rcases this with rfl | rfl
 ·exact .str yY
 ·exact .bool vh
theorem abn:F5 ty 158:= .ar Bv rfl abm
theorem CE:leaves p8=n8 (YtbdbjpdlcemeaaaGreatDoor.Rows.laid_tapline_code_forms (H:=Unit)):=by kernel_rfl
theorem To (f:Ej):br ty 142 (Nw f):= .st Bu rfl rfl fun i x u hx hu=>by
 match i with
 | 0=>simp at hx hu;subst hx;subst hu;exact .leaf yY rfl rfl rfl
 | 1=>simp at hx hu;subst hx;subst hu;exact .leaf vh rfl rfl rfl
 | 2=>simp at hx hu;subst hx;subst hu;exact .leaf vh rfl rfl rfl
 | 3=>simp at hx hu;subst hx;subst hu;exact .leaf vh rfl rfl rfl
 | 4=>simp at hx hu;subst hx;subst hu;exact .leaf vh rfl rfl rfl
 | i+5=>simp at hx
theorem Tp:br ty 158 p8:= .ar Bv (by simp[sQ]) rfl (fun x hx=>by obtain⟨f,_,rfl⟩:=List.mem_map.1 hx;exact To f) (fun x hx=>by obtain⟨f,_,rfl⟩:=List.mem_map.1 hx;rfl)
theorem abo:F5 ty 133:= .st sJ rfl fun u hu=>by
 have:u=3∨u=4:=by simp at hu;omega
 rcases this with rfl | rfl
 ·exact .int oS
 ·exact .bool vh
theorem abp:F5 ty 210:= .ar Bw rfl abo
theorem E6:leaves iP=n8 (YtbdbjpdlcemeaaaGreatDoor.Rows.laid_tapline_taplineref01_promoted (H:=Unit)):=by kernel_rfl
theorem Tq (n:Int) (g:Bool):br ty 133 (.st 133 [.int .i64 n,.bool g]):= .st sJ rfl rfl fun i x u hx hu=>by
 match i with
 | 0=>simp at hx hu;subst hx;subst hu;exact .leaf oS rfl rfl rfl
 | 1=>simp at hx hu;subst hx;subst hu;exact .leaf vh rfl rfl rfl
 | i+2=>simp at hx
theorem Tr:br ty 210 iP:= .ar Bw rfl rfl (fun x hx=>by simp at hx;rcases hx with rfl | rfl | rfl | rfl <;> exact Tq _ _) (fun x hx=>by simp at hx;rcases hx with rfl | rfl | rfl | rfl <;> rfl)
theorem E7 {w:World} {n:String} {d:DataW Unit} {rest:List (String × DataW Unit)} {ps:List MemPlace} (gi:Nat) (t:TypeId) (x:AV) (h:DataW.LaidVars Tryz.prog w ((n,d)::rest) ps) (hg0:Tryz.prog.globalNamed n=some gi) (ht0:(Tryz.prog.globals[gi]?).map (·.type)=some t)
 (hp:F5 ty t) (hx:leaves x=n8 d) (sj:br ty t x) (hn:(leaves x)[0]? ≠ none):LR ty w (fun _=>True) (.ro false t x) (.pointer (some ⟨gi,0,none⟩))∧∃ q,DataW.LaidVars Tryz.prog w rest q:=by
 obtain⟨g,t',cs,fuel,p,q,hg,ht,alM,hd,hr,_⟩:=h;obtain rfl:=Option.some.inj (hg0.symm.trans hg);obtain rfl:=Option.some.inj (ht0.symm.trans ht);refine⟨?_,q,hr⟩;have hf:=Nr cF.ok hp _ _ _ hd;simp only[← hx] at hf;have hc:∀ i,w.cell? ⟨gi,i,none⟩=cs[i]?:=World.var?_cell hg alM;have hb:gi < w.heap.size:=by
  have:=hc 0;rcases Nat.lt_or_ge gi w.heap.size with h | h
  ·exact h
  ·exfalso;have e:w.heap[gi]? = none:=Array.getElem?_eq_none h;simp only[World.cell?,e] at this;obtain⟨y,hy⟩:=Option.ne_none_iff_exists'.1 hn;obtain⟨v,hv,_⟩:=hf.get hy;have h0:=this.symm;simp at hv h0;rw[h0] at hv;simp at hv
 refine .ro false t x gi 0 (fun j=>cs.getD j undef) trivial hb sj (fun j y hy=>?_) (fun j y hy=>?_);all_goals
  obtain⟨v,hv,hl⟩:=hf.get hy;have hv':cs[j]? = some v:=by simpa using hv
  have hg:cs.getD j undef=v:=by simp[Array.getD_eq_getD_getElem?,hv']
 ·rw[Nat.zero_add,hc,hv'];exact congrArg some hg.symm
 ·show LR ty w (fun _=>True) y (cs.getD j undef);rw[hg];exact hl w _
theorem aiL {w:World} (h:laidMet Tryz.prog [("tapline/taplineref01.promoted",YtbdbjpdlcemeaaaGreatDoor.Rows.laid_tapline_taplineref01_promoted),("tapline/code.forms",YtbdbjpdlcemeaaaGreatDoor.Rows.laid_tapline_code_forms)] w):∀ g t x,G0 g=some (t,x)→LR ty w (fun _=>True) (.ro false t x) (.pointer (some ⟨g,0,none⟩)):=fun g t x hg=>by
 obtain⟨ps,h1,_⟩:=h;obtain⟨k2,q,h2⟩:=E7 2 210 iP h1 (by kernel_rfl) (by kernel_rfl) abp E6 Tr (by decide);obtain⟨k0,_,_⟩:=E7 0 158 p8 h2 (by kernel_rfl) (by kernel_rfl) abn CE Tp (by rw[show (leaves p8)[0]? = some (.str ⟨#[]⟩) by kernel_rfl];simp);unfold G0 at hg;split at hg
 ·rename_i e;subst e;injection hg with hg;injection hg with h1 h2;subst h1;subst h2;exact k0
 ·split at hg
  ·rename_i e;subst e;injection hg with hg;injection hg with h1 h2;subst h1;subst h2;exact k2
  ·cases hg
end Go.Proofs.Tryz
end
