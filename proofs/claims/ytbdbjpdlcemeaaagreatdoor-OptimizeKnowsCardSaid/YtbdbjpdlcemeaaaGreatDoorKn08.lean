/- Part of the proof of one statement of this seat: an abstract machine for the program, its contracts, and the statement (no condition of our own). -/
import Derived.LoopNIn
import Derived.Scope
import Derived.Test.YtbdbjpdlcemeaaaGreatDoorKn07
set_option linter.unusedSimpArgs false
set_option linter.unusedVariables false
section
namespace Go.Proofs.Tryz
open Go Go.Abs Go.RowKit
variable (ops : List XOp) (ints : List Int) (strs : List ByteArray) (rels : List XRel)
def stepsQ (ap:Int→Option XCode) (r:Int):Nat→Int→List (Int × Int × XCode)
 | 0,_=>[]
 | m+1,q=>(match ap q with | some c=>[(r,q,c)] | none=>[])++stepsQ ap r m (q+1)
def stepsR (ap:Int→Int→Option XCode) (pl:Int→Int):Nat→Int→List (Int × Int × XCode)
 | 0,_=>[]
 | m+1,r=>stepsQ (ap r) r (pl r).toNat 0++stepsR ap pl m (r+1)
def encS (s:Int × Int × XCode):List AV:=[.st 29 [.int .i64 s.1,.int .i64 s.2.1],eCode s.2.2]
abbrev wv72 (ops:List XOp) (ints:List Int) (strs:List ByteArray) (rels:List XRel) (before:List (List XFact)) (reached:List Bool) (alive:List Int):AV:=
 .ro false 106 (.st 106 [.st 27 [.sl 80 ⟨false,none,false⟩ (ops.map eOp),.sl 2 ⟨false,none,false⟩ (ints.map eI),.sl 9 ⟨false,none,false⟩ (strs.map eS),.sl 90 ⟨false,none,false⟩ (rels.map eRel)],.sl 119 ⟨true,none,false⟩ (before.map eFacts),.sl 4 ⟨true,none,false⟩ (reached.map eB),.sl 109 ⟨true,none,false⟩ (alive.map eU)])
noncomputable abbrev E72 (A:Nat→Prop):Env:=env 36 17179984635 D0 [(35,c35),(63,c63)] [] A
noncomputable abbrev P72 (p:List Nat):Code:=sub (f72.body.getD .skip) p
theorem cs72 (A:Nat→Prop):CSound Tryz.prog (E72 A):=csnd (C:=[(35,c35),(63,c63)]) (M:=[]) ⟨snd35,snd63,trivial⟩ trivial
theorem body8:∃ id,P72 [1,0,0,1,0,0,1,0,0,1,1,0,0] = .seq (P72 [1,0,0,1,0,0,1,0,0,1,1,0,0,0]) (.seq (P72 [1,0,0,1,0,0,1,0,0,1,1,0,0,1,0]) (.seq (P72 [1,0,0,1,0,0,1,0,0,1,1,0,0,1,1,0])
 (.seq (.region id ops8 false) (.cond (.tmp 34) .ret .skip)))):=⟨_,rfl⟩
theorem body72:f72.body=some (.seq (P72 [0]) (.block 0 (.loop (.seq (P72 [1,0,0,0]) (.seq (.block 1 (.seq (P72 [1,0,0,1,0,0,0]) (.block 2 (.loop (.seq (P72 [1,0,0,1,0,0,1,0,0,0]) (.seq (.cond (.tmp 16) .skip (.exit 2))
 (.seq (.block 3 (P72 [1,0,0,1,0,0,1,0,0,1,1,0,0])) (P72 [1,0,0,1,0,0,1,0,0,1,1,1])))))))) (P72 [1,0,0,1,1])))))):=by kernel_rfl
theorem st72:(straight [0,1] (P72 [0])&&straight [0,1] (P72 [1,0,0,0])&&straight [0,1] (P72 [1,0,0,1,0,0,0])&&straight [0,1] (P72 [1,0,0,1,0,0,1,0,0,0])&&straight [0,1] (P72 [1,0,0,1,0,0,1,0,0,1,1,0,0])&&
 straight [0,1] (P72 [1,0,0,1,0,0,1,0,0,1,1,0,0,0])&&straight [0,1] (P72 [1,0,0,1,0,0,1,0,0,1,1,0,0,1,0])&&straight [0,1] (P72 [1,0,0,1,0,0,1,0,0,1,1,0,0,1,1,0])&&straight [0,1] (P72 [1,0,0,1,0,0,1,0,0,1,1,1])&&straight [0,1] (P72 [1,0,0,1,1]))=true:=by kernel_rfl
theorem ops8_0:List.range ops8.size=List.range' 0 ((ops8.toList.drop 0).take 2).length++[2,3,4,5,6,7]:=by kernel_rfl
theorem ops8_1:[3,4,5,6,7]=List.range' 3 ((ops8.toList.drop 3).take 2).length++[5,6,7]:=by kernel_rfl
theorem ops8_2:[6,7]=List.range' 6 ((ops8.toList.drop 6).take 2).length++[]:=by kernel_rfl
theorem ops8_3:(ops8.toList.drop 6).take 2=ops8.toList.drop 6:=by kernel_rfl
def quiet (S:List Nat) (l:List Oper):Bool:=l.all fun o=>noDefer o.op&&(match o.dst with | some t=> !S.contains t | none=>true)
theorem ops8_q:(quiet [0,1] ((ops8.toList.drop 0).take 2)&&quiet [0,1,29] ((ops8.toList.drop 3).take 2)&&quiet [0,1] ((ops8.toList.drop 6).take 2))=true:=by kernel_rfl
theorem ops8_o2:∃ o,ops8[2]? = some o∧o.op = .move (.tmp 0)∧o.dst=some 29∧o.guard=some (1,true):=⟨_,rfl,rfl,rfl,rfl⟩
theorem ops8_o5:∃ o c,ops8[5]? = some o∧o.op = .call c∧o.dst=some 32∧o.guard=some (1,true)∧c.callee = .value (.tmp 29)∧c.args.toList=[.tmp 30,.tmp 31]:=⟨_,_,rfl,rfl,rfl,rfl,rfl,rfl⟩
theorem ops8_d1:(ops8[1]?).bind (·.dst)=some 28:=rfl
structure It72 (ops:List XOp) (ints:List Int) (strs:List ByteArray) (rels:List XRel) (before:List (List XFact)) (reached:List Bool) (alive:List Int) (okA T0:Nat→Prop) (B l:Nat) (J:Nat→(Nat→Prop)→World→Prop) (Jx:World→Prop) (ys:List (List AV)):Prop where
 hp:XA ops ints strs rels before reached alive
 hT0:∀ k,okA k→¬ T0 k
 hJ:∀ i T W W',J i T W→Below W.heap.size W W'→J i T W'
 hJx:∀ W W',Jx W→Below W.heap.size W W'→Jx W'
 hY:∀ i y T W ws,ys[i]? = some y→J i T W→F2 (CR1 ty W fun _ b=>(okA b∨B≤b)∧¬ T b) y ws→
    YieldAt Fence.wide 0 Tryz.prog l ws.toArray W fun e W'=>
     (e = .returned (.bool true)∧∃ T',J (i+1) T' W'∧(∀ k,T' k→(T k∨W.heap.size≤k)∧k < W'.heap.size)∧Abs.Alike T W W')∨(e = .returned (.bool false)∧Jx W'∧Abs.Alike T W W')
section
variable {ops:List XOp} {ints:List Int} {strs:List ByteArray} {rels:List XRel} {before:List (List XFact)} {reached:List Bool} {alive:List Int} {okA T0:Nat→Prop} {B l:Nat} {J:Nat→(Nat→Prop)→World→Prop} {Jx:World→Prop} {ys:List (List AV)} {u:Value} {i:Nat} {a:Act} {W:World}
abbrev Wk72 (ops:List XOp) (ints:List Int) (strs:List ByteArray) (rels:List XRel) (before:List (List XFact)) (reached:List Bool) (alive:List Int) (okA T0:Nat→Prop) (B l:Nat) (J:Nat→(Nat→Prop)→World→Prop) (u:Value) (i:Nat) (a:Act) (W:World):Prop:=
 Wk 36 ty G0 (fun b=>okA b∧b < B) B J T0 (.ro false 83 (wv72 ops ints strs rels before reached alive)) (.func (.yield l) #[] #[]) u i a W
theorem piece72 (hI:It72 ops ints strs rels before reached alive okA T0 B l J Jx ys) (hw:Wk72 ops ints strs rels before reached alive okA T0 B l J u i a W) {tms:List (Nat × AV)} (hl:∀ p ∈ tms,p.1 < 36∧Holds a p) {c:Code} {σ':St} {e:AX} (hs:straight [0,1] c=true)
 (hev:arun (E72 fun b=>okA b∧b < B) H72 5 c ⟨(0,.undef)::(1,.ro false 83 (wv72 ops ints strs rels before reached alive))::tms,[]⟩=some (e,σ')) :
 c.wpIn Fence.wide 0 Tryz.prog (fun ex a' W'=>ex=exOf e∧Wk72 ops ints strs rels before reached alive okA T0 B l J u i a' W'∧∃ β',Sim (E72 fun b=>okA b∧b < B) W σ' a' W' β') a W:=
 wpIn_mono (Wk.piece (E:=E72 fun b=>okA b∧b < B) hw hI.hJ rfl (Nat.le_of_ble_eq_true rfl) (fun _=>rfl) tabs (cs72 _) (fun _ h=>h) hl hs hev) fun ex a' W' h=>⟨h.1,h.2.1,h.2.2.2⟩
def In72 (ops:List XOp) (ints:List Int) (strs:List ByteArray) (rels:List XRel) (before:List (List XFact)) (reached:List Bool) (alive:List Int) (okA T0:Nat→Prop) (B l:Nat) (J:Nat→(Nat→Prop)→World→Prop) (Jx:World→Prop) (u:Value) (i:Nat) (r p q:Int) (ex:Exit) (a:Act) (W:World):Prop:=
 (ex = .normal∧Wk72 ops ints strs rels before reached alive okA T0 B l J u i a W∧Holds a (3,.int .i64 r)∧Holds a (14,.int .i64 p)∧Holds a (15,.int .i64 q))∨(ex = .ret∧a.defers=[]∧Jx W)
theorem some72 (hI:It72 ops ints strs rels before reached alive okA T0 B l J Jx ys) (hw:Wk72 ops ints strs rels before reached alive okA T0 B l J u i a W) {r p q:Int} {c:XCode} (h3:Holds a (3,.int .i64 r)) (h14:Holds a (14,.int .i64 p)) (h15:Holds a (15,.int .i64 q))
 (hc:applyF ops ints strs rels before reached alive r q=some c) (hy:ys[i]? = some (encS (r,q,c))) :
 (P72 [1,0,0,1,0,0,1,0,0,1,1,0,0]).wpIn Fence.wide 0 Tryz.prog (In72 ops ints strs rels before reached alive okA T0 B l J Jx u (i+1) r p q) a W:=by
 have st:=st72
 simp only[Bool.and_eq_true] at st
 have sq:=ops8_q
 simp only[Bool.and_eq_true] at sq
 obtain⟨id,hb⟩:=body8
 rw[hb]
 have hGl:∀ {W':World},(∀ g t x,G0 g=some (t,x)→LR ty W' (fun b=>okA b∧b < B) (.ro false t x) (.pointer (some ⟨g,0,none⟩)))→GlobOk (E72 fun b=>okA b∧b < B) W':=fun h g t x hg=>h g t x hg
 refine wpIn_seq (wpIn_mono (piece72 hI hw (tms:=[(3,.int .i64 r),(14,.int .i64 p),(15,.int .i64 q)]) (by simp;exact⟨h3,h14,h15⟩) st.1.1.1.1.2 (ev72f ops ints strs rels before reached alive r p q _)) fun ex a1 W1 h1=>?_)
 obtain⟨rfl,hw1,β1,S1⟩:=h1
 have T1:Sim (E72 fun b=>okA b∧b < B) W1 ⟨(0,.undef)::(1,.ro false 83 (wv72 ops ints strs rels before reached alive))::[(3,.int .i64 r),(4,.int .i64 q),(14,.int .i64 p),(15,.int .i64 q)],[]⟩ a1 W1 (fun _=>none):=
  Wk.sim (E:=E72 fun b=>okA b∧b < B) hw1 rfl (Nat.le_of_ble_eq_true rfl) (show ∀ p ∈ _,p.1 < 36∧Holds a1 p by simp;exact⟨S1.hInt rfl,S1.hInt rfl,S1.hInt rfl,S1.hInt rfl⟩)
 have hG:=hGl hw1.glob
 refine wpIn_seq (wpIn_mono (round_sound (S:=[0,1]) (fun _=>rfl) tabs (cs72 _) hG (easy_wide 0) _ _ _ _ st.1.1.1.2 (ev72g ops ints strs rels before reached alive r p q _) a1 W1 _ T1) fun ex a2 W2 h2=>?_)
 obtain⟨rfl,⟨β2,S2⟩,k2⟩:=h2
 refine wpIn_seq (wpIn_mono (round_sound (S:=[0,1]) (fun _=>rfl) tabs (cs72 _) hG (easy_wide 0) _ _ _ _ st.1.1.2 (ev72h ops ints strs rels before reached alive r p q c hI.hp hc _) a2 W2 _ S2) fun ex a3 W3 h3=>?_)
 obtain⟨rfl,⟨β3,S3⟩,k3⟩:=h3
 have k3:=k2.trans k3
 refine wpIn_seq (wpIn_region ?_)
 rw[ops8_0]
 refine round_ops (S:=[0,1]) tabs (cs72 _) hG (easy_wide 0) _ _ _ a3 W3 β3 (seg 0 2) sq.1.1 (ev72k ops ints strs rels before reached alive r p q c _) S3 k3 fun a4 W4 β4 S4 k4=>?_
 obtain⟨o2,g1,g2,g3,g4⟩:=ops8_o2
 have want:∀ {o:Oper} {a':Act} {W':World} {β':Nat→Option Nat} {σ:St},Sim (E72 fun b=>okA b∧b < B) W1 σ a' W' β'→aget 28 σ.tm=some (.bool true)→o.guard=some (1,true)→Region.wanted o (yielded ops8 a'.tmps)=true:=fun {o a' W' β' σ} hs hg ho=>by
  have hh:=hs.bool hg
  have h4:a'.tmps[28]? = some (.bool true):=by
   have:28 < a'.tmps.size:=by rw[hs.size];exact Nat.le_of_ble_eq_true rfl
   rw[Array.getD_eq_getD_getElem?] at hh
   rw[Array.getElem?_eq_getElem this] at hh ⊢
   simpa using hh
  have hy:yielded ops8 a'.tmps 1=some true:=by simp[yielded,ops8_d1,h4]
  simp[Region.wanted,ho,hy]
 refine ops_next g1 (want S4 rfl g4) ⟨fun _ _=>trivial,?_⟩
 have hsem:(o2.semAt Fence.wide.round a4.eval).run Tryz.prog W4 = .ok (.value (.func (.yield l) #[] #[])) W4:=by
  show (execOp a4.eval o2).run Tryz.prog W4=_
  have e1:a4.eval (.tmp 0) = .func (.yield l) #[] #[]:=by
   show a4.tmps.getD 0 undef=_
   rw[k4.1 0 (by simp),hw1.t0]
  simp[execOp,g2,e1]
 rw[hsem,Oper.uponIn_value,g3,ops8_1]
 have S5:=S4.put (t:=29) (x:= .undef) (v:= .func (.yield l) #[] #[]) (Nat.le_of_ble_eq_true rfl) (.undef _)
 have k5:Kept [0,1] a1 (a4.put (some 29) (.func (.yield l) #[] #[])):=k4.trans (Kept.put rfl)
 refine round_ops (S:=[0,1,29]) tabs (cs72 _) hG (easy_wide 0) _ _ _ _ W4 β4 (seg 3 2) sq.1.2 (ev72m ops ints strs rels before reached alive r p q c _) S5 (.refl _ _) fun a6 W6 β6 S6 k6=>?_
 obtain⟨o5,c5,f1,f2,f3,f4,f5,f6⟩:=ops8_o5
 refine ops_next f1 (want S6 rfl f4) ?_
 have k6':Kept [0,1] a1 a6:=k5.trans ⟨fun t ht=>k6.1 t (by simp at ht ⊢;rcases ht with h | h <;> simp[h]),k6.2⟩
 refine Wk.yields (E:=E72 fun b=>okA b∧b < B) (Jx:=Jx) (okA0:=okA) (l:=l) (d:=32) (f:=29) (y:=encS (r,q,c)) hw1 hI.hJ rfl rfl (fun _ h=>h) (fun b hb=>hb) hI.hT0 (fun T W ws=>hI.hY i _ T W ws hy) S6 k6' hG f2 f3 (Nat.le_of_ble_eq_true rfl) f5 ?_ ?_ ?_ fun b W7 hw7 hle=>?_
 ·rw[k6.1 29 (by simp)]
  have:29 < a4.tmps.size:=by rw[S4.size];exact Nat.le_of_ble_eq_true rfl
  simp[Act.put,Array.getD_eq_getD_getElem?,this]
 ·rw[f6];rfl
 ·simp[encS,eCode,closed,closed.closedL,noTup]
 have hs6:32 < a6.tmps.size:=by rw[S6.size];exact Nat.le_of_ble_eq_true rfl
 have T7:Sim (E72 fun b=>okA b∧b < B) W7 ⟨(0,.undef)::(1,.ro false 83 (wv72 ops ints strs rels before reached alive))::[(3,.int .i64 r),(14,.int .i64 p),(15,.int .i64 q),(28,.bool true),(32,.bool b)],[]⟩ (a6.put (some 32) (.bool b)) W7 (fun _=>none):=
  Wk.sim (E:=E72 fun b=>okA b∧b < B) hw7 rfl (Nat.le_of_ble_eq_true rfl) (show ∀ p ∈ _,p.1 < 36∧Holds _ p by
   simp;exact⟨(S6.hInt rfl).put (by simp) _,(S6.hInt rfl).put (by simp) _,(S6.hInt rfl).put (by simp) _,(S6.hBool rfl).put (by simp) _,Holds.bool_put hs6 b⟩)
 have hG7:=hGl hw7.glob
 rw[ops8_2]
 refine round_ops (S:=[0,1]) tabs (cs72 _) hG7 (easy_wide 0) _ _ _ _ W7 _ (seg 6 2) sq.2 (by rw[ops8_3];exact ev72l ops ints strs rels before reached alive r p q b _) T7 (.refl _ _) fun a8 W8 β8 S8 k8=>?_
 have hw8:=Wk.next (E:=E72 fun b=>okA b∧b < B) hw7 (Jb.mono hI.hJ hI.hJx b) (fun _ h=>h) S8 k8
 show (Code.cond (.tmp 34) .ret .skip).wpIn Fence.wide 0 Tryz.prog _ a8 W8
 refine wpIn_cond (t:= !b) (S8.bool rfl) ?_
 cases b with
 | true=>exact wpIn_skip (.inl ⟨rfl,hw8,S8.hInt rfl,S8.hInt rfl,S8.hInt rfl⟩)
 | false=>
   obtain⟨T,h1,_⟩:=hw8.j
   exact wpIn_ret (.inr ⟨rfl,hw8.defers,h1⟩)
theorem none72 (hI:It72 ops ints strs rels before reached alive okA T0 B l J Jx ys) (hw:Wk72 ops ints strs rels before reached alive okA T0 B l J u i a W) {r p q:Int} (h3:Holds a (3,.int .i64 r)) (h14:Holds a (14,.int .i64 p)) (h15:Holds a (15,.int .i64 q))
 (hc:applyF ops ints strs rels before reached alive r q=none) :
 (P72 [1,0,0,1,0,0,1,0,0,1,1,0,0]).wpIn Fence.wide 0 Tryz.prog (In72 ops ints strs rels before reached alive okA T0 B l J Jx u i r p q) a W:=by
 have st:=st72
 simp only[Bool.and_eq_true] at st
 refine wpIn_mono (piece72 hI hw (tms:=[(3,.int .i64 r),(14,.int .i64 p),(15,.int .i64 q)]) (by simp;exact⟨h3,h14,h15⟩) st.1.1.1.1.1.2 (ev72e ops ints strs rels before reached alive r p q hI.hp hc _)) fun ex a1 W1 h1=>?_
 obtain⟨rfl,hw1,β1,S1⟩:=h1
 exact .inl ⟨rfl,hw1,S1.hInt rfl,S1.hInt rfl,S1.hInt rfl⟩
def Q72 (ops:List XOp) (ints:List Int) (strs:List ByteArray) (rels:List XRel) (before:List (List XFact)) (reached:List Bool) (alive:List Int) (okA T0:Nat→Prop) (B l:Nat) (J:Nat→(Nat→Prop)→World→Prop) (Jx:World→Prop) (ys:List (List AV)) (u:Value) (r:Int) (rest:List (List AV)) (e0:Exit) (ex:Exit) (a:Act) (W:World):Prop:=
 (ex=e0∧∃ i,i≤ys.length∧ys.drop i=rest∧Wk72 ops ints strs rels before reached alive okA T0 B l J u i a W∧Holds a (3,.int .i64 r))∨(ex = .ret∧a.defers=[]∧Jx W)
theorem inner72 (hI:It72 ops ints strs rels before reached alive okA T0 B l J Jx ys) {r p:Int} (hp:p < 999999) (rest:List (List AV)):∀ (m:Nat) (q:Int) (i:Nat) (a:Act) (W:World),0≤q→q+m=p→i≤ys.length→ys.drop i=(stepsQ (applyF ops ints strs rels before reached alive r) r m q).map encS++rest→
 Wk72 ops ints strs rels before reached alive okA T0 B l J u i a W→Holds a (3,.int .i64 r)→Holds a (14,.int .i64 p)→Holds a (15,.int .i64 q)→
 Code.roundsIn Fence.wide 0 Tryz.prog (.seq (P72 [1,0,0,1,0,0,1,0,0,0]) (.seq (.cond (.tmp 16) .skip (.exit 2)) (.seq (.block 3 (P72 [1,0,0,1,0,0,1,0,0,1,1,0,0])) (P72 [1,0,0,1,0,0,1,0,0,1,1,1]))))
  (Q72 ops ints strs rels before reached alive okA T0 B l J Jx ys u r rest (.exit 2)) (m+1) a W
 | m,q,i,a,W,hq,hm,hi,hd,hw,h3,h14,h15=>by
   have st:=st72
   simp only[Bool.and_eq_true] at st
   rw[roundsIn_succ]
   refine wpIn_seq (wpIn_mono (piece72 hI hw (tms:=[(3,.int .i64 r),(14,.int .i64 p),(15,.int .i64 q)]) (by simp;exact⟨h3,h14,h15⟩) st.1.1.1.1.1.1.2 (ev72d ops ints strs rels before reached alive r p q (decide (q < p)) rfl _)) fun ex a1 W1 h1=>?_)
   obtain⟨rfl,hw1,β1,S1⟩:=h1
   refine wpIn_seq (wpIn_cond (t:=decide (q < p)) (S1.bool rfl) ?_)
   have g3:Holds a1 (3,.int .i64 r):=S1.hInt rfl
   have g14:Holds a1 (14,.int .i64 p):=S1.hInt rfl
   have g15:Holds a1 (15,.int .i64 q):=S1.hInt rfl
   cases m with
   | zero=>
     have hn:decide (q < p)=false:=by simp;simp at hm;omega
     rw[hn]
     refine wpIn_exit (.inl ⟨rfl,i,hi,?_,hw1,g3⟩)
     simpa[stepsQ] using hd
   | succ m=>
     have hn:decide (q < p)=true:=by simp;omega
     rw[hn]
     refine wpIn_skip ?_
     refine wpIn_seq (wpIn_block ?_)
     have next:∀ (i':Nat) (a2:Act) (W2:World),i'≤ys.length→ys.drop i'=(stepsQ (applyF ops ints strs rels before reached alive r) r m (q+1)).map encS++rest→Wk72 ops ints strs rels before reached alive okA T0 B l J u i' a2 W2→Holds a2 (3,.int .i64 r)→Holds a2 (14,.int .i64 p)→Holds a2 (15,.int .i64 q)→
      (P72 [1,0,0,1,0,0,1,0,0,1,1,1]).wpIn Fence.wide 0 Tryz.prog (Exit.then (Code.roundsIn Fence.wide 0 Tryz.prog (.seq (P72 [1,0,0,1,0,0,1,0,0,0]) (.seq (.cond (.tmp 16) .skip (.exit 2)) (.seq (.block 3 (P72 [1,0,0,1,0,0,1,0,0,1,1,0,0])) (P72 [1,0,0,1,0,0,1,0,0,1,1,1]))))
        (Q72 ops ints strs rels before reached alive okA T0 B l J Jx ys u r rest (.exit 2)) (m+1)) (Q72 ops ints strs rels before reached alive okA T0 B l J Jx ys u r rest (.exit 2))) a2 W2:=fun i' a2 W2 hi' hd' hw2 k3 k14 k15=>by
      refine wpIn_mono (piece72 hI hw2 (tms:=[(3,.int .i64 r),(14,.int .i64 p),(15,.int .i64 q)]) (by simp;exact⟨k3,k14,k15⟩) st.1.2 (ev72i ops ints strs rels before reached alive r p q (by omega) hq _)) fun ex a3 W3 h3=>?_
      obtain⟨rfl,hw3,β3,S3⟩:=h3
      exact inner72 hI hp rest m (q+1) i' a3 W3 (by omega) (by omega) hi' hd' hw3 (S3.hInt rfl) (S3.hInt rfl) (S3.hInt rfl)
     rw[stepsQ] at hd
     cases hc:applyF ops ints strs rels before reached alive r q with
     | none=>
       rw[hc] at hd
       refine wpIn_mono (none72 hI hw1 g3 g14 g15 hc) fun ex a2 W2 h2=>?_
       rcases h2 with ⟨rfl,hw2,k3,k14,k15⟩ | ⟨rfl,h4,h5⟩
       ·exact next i a2 W2 hi (by simpa using hd) hw2 k3 k14 k15
       ·exact .inr ⟨rfl,h4,h5⟩
     | some c=>
       rw[hc] at hd
       have hy:ys[i]? = some (encS (r,q,c)):=by
        have:=congrArg (fun l=>l[0]?) hd
        simpa using this
       have hi1:i < ys.length:=(List.getElem?_eq_some_iff.1 hy).1
       refine wpIn_mono (some72 hI hw1 g3 g14 g15 hc hy) fun ex a2 W2 h2=>?_
       rcases h2 with ⟨rfl,hw2,k3,k14,k15⟩ | ⟨rfl,h4,h5⟩
       ·refine next (i+1) a2 W2 hi1 ?_ hw2 k3 k14 k15
        have:=congrArg (fun l=>l.drop 1) hd
        simpa[List.drop_drop,Nat.add_comm] using this
       ·exact .inr ⟨rfl,h4,h5⟩
theorem outer72 (hI:It72 ops ints strs rels before reached alive okA T0 B l J Jx ys):∀ (m:Nat) (r:Int) (i:Nat) (a:Act) (W:World),0≤r→r+m=9→i≤ys.length→ys.drop i=(stepsR (applyF ops ints strs rels before reached alive) (placesF ops ints strs) m r).map encS→
 Wk72 ops ints strs rels before reached alive okA T0 B l J u i a W→Holds a (3,.int .i64 r)→
 Code.roundsIn Fence.wide 0 Tryz.prog (.seq (P72 [1,0,0,0]) (.seq (.block 1 (.seq (P72 [1,0,0,1,0,0,0]) (.block 2 (.loop (.seq (P72 [1,0,0,1,0,0,1,0,0,0]) (.seq (.cond (.tmp 16) .skip (.exit 2))
 (.seq (.block 3 (P72 [1,0,0,1,0,0,1,0,0,1,1,0,0])) (P72 [1,0,0,1,0,0,1,0,0,1,1,1])))))))) (P72 [1,0,0,1,1])))
   (Q72 ops ints strs rels before reached alive okA T0 B l J Jx ys u 9 [] (.exit 0)) (m+1) a W
 | m,r,i,a,W,hr,hm,hi,hd,hw,h3=>by
   have st:=st72
   simp only[Bool.and_eq_true] at st
   obtain⟨l1,l2,l3,l4⟩:=hI.hp.lim
   rw[roundsIn_succ]
   cases m with
   | zero=>
     have:r=9:=by simpa using hm
     subst this
     refine wpIn_seq (wpIn_mono (piece72 hI hw (tms:=[(3,.int .i64 9)]) (by simp;exact h3) st.1.1.1.1.1.1.1.1.2 (ev72b0 ops ints strs rels before reached alive 9 rfl _)) fun ex a1 W1 h1=>?_)
     obtain⟨rfl,hw1,β1,S1⟩:=h1
     exact .inl ⟨rfl,i,hi,by simpa[stepsR] using hd,hw1,S1.hInt rfl⟩
   | succ m=>
     refine wpIn_seq (wpIn_mono (piece72 hI hw (tms:=[(3,.int .i64 r)]) (by simp;exact h3) st.1.1.1.1.1.1.1.1.2 (ev72b ops ints strs rels before reached alive r (by simp;omega) _)) fun ex a1 W1 h1=>?_)
     obtain⟨rfl,hw1,β1,S1⟩:=h1
     refine wpIn_seq (wpIn_block (wpIn_seq (wpIn_mono (piece72 hI hw1 (tms:=[(3,.int .i64 r)]) (by simp;exact S1.hInt rfl) st.1.1.1.1.1.1.1.2 (ev72c ops ints strs rels before reached alive r ⟨by omega,by omega⟩ _)) fun ex a2 W2 h2=>?_)))
     obtain⟨rfl,hw2,β2,S2⟩:=h2
     have hpl:0≤placesF ops ints strs r∧placesF ops ints strs r < 999999:=by
      unfold placesF;split <;> omega
     rw[stepsR,List.map_append] at hd
     refine wpIn_block (wpIn_mono (wpIn_loop_rounds _ (inner72 hI hpl.2 ((stepsR (applyF ops ints strs rels before reached alive) (placesF ops ints strs) m (r+1)).map encS) (placesF ops ints strs r).toNat 0 i a2 W2 (by omega) (by omega) hi hd hw2 (S2.hInt rfl) (S2.hInt rfl) (S2.hInt rfl))) fun ex a3 W3 h3=>?_)
     rcases h3 with ⟨rfl,i',hi',hd',hw3,k3⟩ | ⟨rfl,h4,h5⟩
     ·refine wpIn_mono (piece72 hI hw3 (tms:=[(3,.int .i64 r)]) (by simp;exact k3) st.2 (ev72j ops ints strs rels before reached alive r (by omega) hr _)) fun ex a4 W4 h4=>?_
      obtain⟨rfl,hw4,β4,S4⟩:=h4
      exact outer72 hI m (r+1) i' a4 W4 (by omega) (by omega) hi' hd' hw4 (S4.hInt rfl)
     ·exact .inr ⟨rfl,h4,h5⟩
end
def stepsW (ops:List XOp) (ints:List Int) (strs:List ByteArray) (rels:List XRel) (before:List (List XFact)) (reached:List Bool) (alive:List Int):List (Int × Int × XCode):=
 stepsR (applyF ops ints strs rels before reached alive) (placesF ops ints strs) 8 1
theorem n72:f72.ntmps=36:=rfl
theorem iter72 (before:List (List XFact)) (reached:List Bool) (alive:List Int) (hp:XA ops ints strs rels before reached alive) :
 Iter Tryz.prog ty G0 72 [.ro false 83 (wv72 ops ints strs rels before reached alive)] ((stepsW ops ints strs rels before reached alive).map encS):=by
 intro okA W0 vs hvs hG l J Jx T0 hT0 hTs hJ hJx hJ0 hY
 have hvl:vs.length=1:=hvs.1.symm
 obtain⟨u,rfl⟩:∃ u,vs=[u]:=by
  cases vs with
  | nil=>simp at hvl
  | cons u r=>cases r with
    | nil=>exact⟨u,rfl⟩
    | cons _ _=>simp at hvl
 have hu:LR ty W0 okA (.ro false 83 (wv72 ops ints strs rels before reached alive)) u:=hvs.2 0 _ _ rfl rfl
 have hI:It72 ops ints strs rels before reached alive okA T0 W0.heap.size l J Jx ((stepsW ops ints strs rels before reached alive).map encS):=⟨hp,hT0,hJ,hJx,hY⟩
 have st:=st72
 simp only[Bool.and_eq_true] at st
 have hw:Wk72 ops ints strs rels before reached alive okA T0 W0.heap.size l J u 0 { tmps:=#[.func (.yield l) #[] #[]]++[u].toArray++Array.replicate (f72.ntmps - (#[Value.func (.yield l) #[] #[]]++[u].toArray).size) undef,defers:=[] } W0:={
  j:=⟨T0,hJ0,fun k hk=>⟨.inl hk,hTs k hk⟩⟩
  low:=Nat.le_refl _
  cap:=hu.mono fun b hb hl=>⟨⟨hb,hl⟩,hl,rfl⟩
  glob:=fun g t x hg=>(hG g t x hg).mono fun b hb hl=>⟨⟨hb,hl⟩,hl,rfl⟩
  size:=by rw[n72];simp
  defers:=rfl
  t0:=by simp[Array.getD_eq_getD_getElem?,Array.getElem?_append]
  t1:=by simp[Array.getD_eq_getD_getElem?,Array.getElem?_append] }
 refine callsIn_of_wp_marks h72 body72 trivial ?_ rfl
 generalize ({ tmps:=#[.func (.yield l) #[] #[]]++[u].toArray++Array.replicate (f72.ntmps - (#[Value.func (.yield l) #[] #[]]++[u].toArray).size) undef,defers:=[] }:Act)=a at hw ⊢
 refine wpIn_seq (wpIn_mono (piece72 hI hw (tms:=[]) (by simp) st.1.1.1.1.1.1.1.1.1 (ev72a ops ints strs rels before reached alive _)) fun ex a1 W1 h1=>?_)
 obtain⟨rfl,hw1,β1,S1⟩:=h1
 refine wpIn_block (wpIn_mono (wpIn_loop_rounds _ (outer72 hI 8 1 0 a1 W1 (by omega) (by omega) (Nat.zero_le _) (by simp[stepsW]) hw1 (S1.hInt rfl))) fun ex a2 W2 h2=>?_)
 have fin:∀ (a2:Act) (W2:World),a2.defers=[]→((∃ T,J ((stepsW ops ints strs rels before reached alive).map encS).length T W2)∨Jx W2)→
  LeavesInM Fence.wide 0 Tryz.prog f72 a2.tmps (fun e W'=>(∃ v,e = .returned v)∧((∃ T,J ((stepsW ops ints strs rels before reached alive).map encS).length T W')∨Jx W')) a2.defers .returning W2:=fun a2 W2 hd hj=>by
  rw[hd]
  obtain⟨v,hr⟩:∃ v,(results f72 a2.tmps).run Tryz.prog W2 = .ok v W2:=by
   have h0:f72.results = #[]:=rfl
   simp[results,h0]
  exact⟨_,hr,⟨_,rfl⟩,hj⟩
 rcases h2 with ⟨rfl,i,hi,hd,hw2,h3⟩ | ⟨rfl,h4,h5⟩
 ·refine fin a2 W2 hw2.defers (.inl ?_)
  obtain⟨T,h1,_⟩:=hw2.j
  have:i=((stepsW ops ints strs rels before reached alive).map encS).length:=by
   have:=congrArg List.length hd
   simp only[List.length_drop,List.length_nil] at this
   omega
  subst this
  exact⟨T,h1⟩
 ·exact fin a2 W2 h4 (.inr h5)
end Go.Proofs.Tryz
end
section
namespace Go.Abs
open Go Go.RowKit
def Does (P:Program) (E:Env) (w0:World) (c:Code) (σ:St) (e:AX) (σ':St):Prop:=
 ∀ (a:Act) (w:World) (β:Nat→Option Nat),Sim E w0 σ a w β→c.wpIn Fence.wide 0 P (APost E w0 e σ') a w
def DoesR (P:Program) (E:Env) (w0:World) (c:Code) (σ:St) (e:AX) (σ':St) (m:Nat):Prop:=
 ∀ (a:Act) (w:World) (β:Nat→Option Nat),Sim E w0 σ a w β→Code.roundsIn Fence.wide 0 P c (APost E w0 e σ') m a w
section
variable {P:Program} {E:Env} {w0:World} {σ σ1 σ':St} {e:AX} {a b c:Code}
theorem does_arun (hL:∀ k,¬ E.lent k) (hT:Tabs P E.ty) (hC:CSound P E) (hG:GlobOk E w0) {H:Nat→Hint} {k:Nat} (hd:Draws P E c) (hr:arun E H k c σ=some (e,σ')):Does P E w0 c σ e σ':=
 fun a w β h=>wpIn_wide.2 (arun_sound (fun _=>hL) hT hC hG c σ σ' e hd hr a w β h)
theorem does_seq (h1:Does P E w0 a σ .norm σ1) (h2:Does P E w0 b σ1 e σ'):Does P E w0 (.seq a b) σ e σ':=fun x w β h=>
 wpIn_seq (wpIn_mono (h1 x w β h) fun ex a' w' hp=>by
  obtain⟨rfl,β',hS⟩:=hp
  exact h2 a' w' β' hS)
theorem does_seq_x (h1:Does P E w0 a σ e σ1) (he:e ≠ .norm):Does P E w0 (.seq a b) σ e σ1:=fun x w β h=>
 wpIn_seq (wpIn_mono (h1 x w β h) fun ex a' w' hp=>by
  obtain⟨rfl,hS⟩:=hp
  cases e with
  | norm=>exact absurd rfl he
  | exit i=>exact⟨rfl,hS⟩
  | ret=>exact⟨rfl,hS⟩)
theorem does_block (i:Nat) (h1:Does P E w0 a σ (.exit i) σ'):Does P E w0 (.block i a) σ .norm σ':=fun x w β h=>
 wpIn_block (wpIn_mono (h1 x w β h) fun ex a' w' hp=>by
  obtain⟨rfl,hS⟩:=hp
  simp only[exOf,Exit.inBlock]
  simp only[if_true];exact⟨rfl,hS⟩)
theorem does_block_x (i:Nat) (h1:Does P E w0 a σ e σ') (he:e ≠ .exit i):Does P E w0 (.block i a) σ e σ':=fun x w β h=>
 wpIn_block (wpIn_mono (h1 x w β h) fun ex a' w' hp=>by
  obtain⟨rfl,hS⟩:=hp
  cases e with
  | norm=>exact⟨rfl,hS⟩
  | ret=>exact⟨rfl,hS⟩
  | exit j=>
    simp only[exOf,Exit.inBlock]
    rw[if_neg (fun q=>he (by rw[q]))];exact⟨rfl,hS⟩)
theorem does_scope (h1:Does P E w0 a σ e σ'):Does P E w0 (.scope a) σ e σ':=fun x w β h=>
 wpIn_wide.2 (wp_scope_straight (wpIn_wide.1 (wpIn_mono (h1 x w β h) fun ex a' w' hp=>by
  obtain⟨rfl,hS⟩:=hp
  cases e <;> exact⟨rfl,hS⟩)))
theorem does_label (l:Nat):Does P E w0 (.label l) σ .norm σ:=fun x w β h=>wpIn_label ⟨rfl,β,h⟩
theorem does_exit (i:Nat):Does P E w0 (.exit i) σ (.exit i) σ:=fun x w β h=>wpIn_exit ⟨rfl,β,h⟩
theorem doesR_last {m:Nat} (h1:Does P E w0 c σ e σ') (he:e ≠ .norm):DoesR P E w0 c σ e σ' (m+1):=fun x w β h=>by
 rw[roundsIn_succ]
 refine wpIn_mono (h1 x w β h) fun ex a' w' hp=>?_
 obtain⟨rfl,hS⟩:=hp
 cases e with
 | norm=>exact absurd rfl he
 | exit i=>exact⟨rfl,hS⟩
 | ret=>exact⟨rfl,hS⟩
theorem doesR_next {m:Nat} (h1:Does P E w0 c σ .norm σ1) (h2:DoesR P E w0 c σ1 e σ' m):DoesR P E w0 c σ e σ' (m+1):=fun x w β h=>by
 rw[roundsIn_succ]
 refine wpIn_mono (h1 x w β h) fun ex a' w' hp=>?_
 obtain⟨rfl,β',hS⟩:=hp
 exact h2 a' w' β' hS
theorem does_loop {m:Nat} (h:DoesR P E w0 c σ e σ' m):Does P E w0 (.loop c) σ e σ':=fun x w β hS=>wpIn_loop_rounds m (h x w β hS)
theorem Does.less {σ2:St} (h:Does P E w0 c σ e σ') (htm:∀ t x,aget t σ2.tm=some x→aget t σ'.tm=some x) (hob:∀ o b,aget o σ2.ob=some b→aget o σ'.ob=some b):Does P E w0 c σ e σ2:=fun x w β hS=>
 wpIn_mono (h x w β hS) fun ex a' w' hp=>by
  obtain⟨rfl,β',hS⟩:=hp
  exact⟨rfl,β',hS.less htm hob⟩
theorem Does.ren {ob2:List (Nat × Obj)} (h:Does P E w0 c σ e σ') (hr:RenOk E w0 σ'.tm σ'.ob ob2):Does P E w0 c σ e ⟨σ'.tm,ob2⟩:=fun x w β hS=>
 wpIn_mono (h x w β hS) fun ex a' w' hp=>by
  obtain⟨rfl,β',hS⟩:=hp
  obtain⟨β2,h2,_⟩:=hr a' w' β' hS
  exact⟨rfl,β2,h2⟩
theorem does_range (hZ:∀ id,E.Z id=[]) (hT:Tabs P E.ty) (hC:CSound P E) (hG:GlobOk E w0) (hlo:E.lo=none) (hL:∀ k,¬ E.lent k) {H:Nat→Hint} {k:Nat} {S:List Nat} {tm:List (Nat × AV)} (hid:keepL tm S=tm)
 {gf:Nat} {caps:List AV} {ys:List (List AV)} (hit:Iter P E.ty E.G gf caps ys) (hcl:closed.closedL caps=true) (eg:∀ args w,(callFunc gf args).run P w = .ok (.enter gf args) w)
 (htm:keepL σ.tm S=tm) {g:Operand} (hg:σ.val E.G g=some (.fn gf caps)) {ps:Array Tmp} {assign body:Code} (hps:∀ p ∈ ps.toList,p < E.n∧p ∉ S) (hsa:straight S assign=true) (hsb:straight S body=true)
 {ren:List (Nat × Obj)→List (Nat × Obj)→Prop} (hren:∀ ob ob2,ren ob ob2→RenOk E w0 tm ob ob2) {ob':List (Nat × Obj)} (hr:Rounds ren (fun c σ r=>∀ A lo L,arun { E with okA:=A,lo:=lo,lent:=L } H k c σ=some r) ps.toList assign body S tm ys σ.ob e ob') :
 Does P E w0 (.rangeFunc g ps assign body) σ e ⟨tm,ob'⟩:=fun a w β h=>
 range_law hZ hT hC hG hlo hL hid hit hcl eg h htm hg hps hsa hsb hren hr
theorem enters {f:FuncId} (hen:Entr P f):∀ args w,(callFunc f args).run P w = .ok (.enter f args) w:=fun args w=>by
 obtain⟨fn,q1,q2,q3⟩:=hen
 obtain⟨body,hb⟩:=Option.isSome_iff_exists.1 q2
 simp[callFunc,q1,q3,hb]
theorem calls_of_does (hL:∀ k,¬ E.lent k) (hT:Tabs P E.ty) {f:FuncId} {fn:Func} {args:List AV} (hf:P.funcs[f]? = some fn) (hn:fn.ntmps=E.n) (hb:fn.body=some c)
 (ha:args.length≤E.n) (ho:oldV.oldL args=true) {w:World} {vs:List Value} (hvs:F2 (CR1 E.ty w fun _=>E.okA) args vs) (hD:Does P E w c ⟨argTms 0 args,[]⟩ e σ') (he:e = .norm∨e = .ret) {xs:List AV} (hx:aresults E σ' fn.results.toList=some xs)
 {R:Ending→World→Prop} (hR:∀ a' w' β' us,Sim E w σ' a' w' β'→F2 (VR (cxOf E w σ' w' β')) xs us→R (.returned (if h:us.toArray.size=1 then us.toArray[0] else .tuple us.toArray)) w'):Calls P f vs.toArray w R:=by
 refine callsIn_wide.1 (callsIn_of_wp_marks (n:=0) hf hb trivial ?_ rfl)
 have hS:=sim_start ha ho hvs
 rw[hn]
 refine wpIn_mono (hD _ w _ hS) fun e' a' w' hp=>?_
 obtain⟨hex,β',hS'⟩:=hp
 have fin:LeavesInM Fence.wide 0 P fn a'.tmps R a'.defers .returning w':=by
  refine leaves_marks a'.defers w' hS' fun w' hS'=>?_
  obtain⟨us,r1,r2⟩:=run_results hT hS' fn.results.toList xs hx
  refine⟨if h:us.toArray.size=1 then us.toArray[0] else .tuple us.toArray,?_,hR _ _ _ us hS' r2⟩
  unfold results
  rw[Array.mapM_eq_mapM_toList]
  simp only[Sem.run_bind,Sem.run_map]
  exact congrArg (fun (z:Result (List Value))=>(z.andThen fun a w'=>Result.ok a.toArray w').andThen fun a w'=>Sem.run P (pure (if h:a.size=1 then a[0] else Value.tuple a)) w') r1
 subst hex
 rcases he with he | he <;> subst he <;> exact fin
theorem ret_of_does {Ef:(Nat→Prop)→Env} {ty:Tys} {G:Globs} (hA:∀ A,(Ef A).okA=A) (hty:∀ A,(Ef A).ty=ty) (hGl:∀ A,(Ef A).G=G) (hT:Tabs P ty) {f:FuncId} {fn:Func} {c:Code} {args:List AV} {r:AV}
 (hf:P.funcs[f]? = some fn) (hn:∀ A,fn.ntmps=(Ef A).n) (hb:fn.body=some c) (ha:args.length≤fn.ntmps) (ho:oldV.oldL args=true) (he:e = .norm∨e = .ret) (hD:∀ A w,GlobOk (Ef A) w→Does P (Ef A) w c ⟨argTms 0 args,[]⟩ e σ')
 (hr:∀ A,(obind (aresults (Ef A) σ' fn.results.toList) fun vs=>obind (hand.handL (Ef A).ty σ'.ob 30 vs) fun vs=>some (one vs))=some r) (hL:∀ A k,¬ (Ef A).lent k:=by intro _ _ h;exact h) (hlo:∀ A,(Ef A).lo=none:=by intro _;rfl):Ret P ty G f args r:=by
 intro A w vs hvs hG
 obtain⟨xs,h3,h4⟩:=obind_eq (hr A)
 obtain⟨ys,h5,h6⟩:=obind_eq h4
 injection h6 with h6;subst h6
 have hT':Tabs P (Ef A).ty:=by rw[hty];exact hT
 have hG':GlobOk (Ef A) w:=fun g t x hg=>by rw[hty,hA];exact hG g t x (by rw[← hGl A];exact hg)
 refine calls_of_does (E:=Ef A) (hL A) hT' hf (hn A) hb (by rw[← hn A];exact ha) ho (by rw[hty,hA];exact hvs) (hD A w hG') he h3 fun a' w' β' us hS' r2=>?_
 obtain⟨e1,e2⟩:=handL_get 30 xs ys h5
 have hys:F2 (CR1 (Ef A).ty w' (backOk w.heap.size (Ef A).okA)) ys us:=by
  refine⟨by rw[e1];exact r2.1,fun i y u hy hu=>?_⟩
  have hi:i < xs.length:=by rw[← e1];exact (List.getElem?_eq_some_iff.1 hy).1
  obtain⟨_,y',_,q1,q2⟩:=e2 i xs[i] (by simp[hi])
  rw[hy] at q1;injection q1 with q1;subst q1
  have:=hand_sound (hL A) hT' hS' q2 (r2.2 i xs[i] u (by simp[hi]) hu)
  rw[hlo A] at this;exact this
 refine⟨_,rfl,hS'.below.plain fun k hk=>hL A k hk.1,?_⟩
 rw[hty,hA] at hys
 have tupc:∀ (hlen:ys.length ≠ 1),CR ty w' (backOk w.heap.size A) (one ys) (.tuple us.toArray):=fun hlen=>by
  have:one ys = .tup ys:=by
   match ys,hlen with
   | [],_=>rfl
   | [_],h=>exact absurd rfl h
   | _::_::_,_=>rfl
  rw[this]
  exact⟨us.toArray,rfl,by simpa using hys⟩
 by_cases hlen:us.toArray.size=1
 ·rw[dif_pos hlen]
  have h1:us.length=1:=by simpa using hlen
  match us,ys,h1,hys with
  | [u],[y],_,hys=>exact CR_one (hys.2 0 y u rfl rfl)
  | [u],[],_,hys=>exact absurd hys.1 (by simp)
  | [u],_::_::_,_,hys=>exact absurd hys.1 (by simp)
 ·rw[dif_neg hlen]
  refine tupc ?_
  rw[hys.1];simpa using hlen
def RetF (P:Program) (ty:Tys) (G:Globs) (f:FuncId) (args:List AV) (gf:Nat) (caps:List AV):Prop:=
 ∀ (okA:Nat→Prop) (w:World) (vs:List Value),F2 (CR1 ty w fun _=>okA) args vs→(∀ g t x,G g=some (t,x)→LR ty w okA (.ro false t x) (.pointer (some ⟨g,0,none⟩)))→
   Calls P f vs.toArray w fun e w'=>∃ us:Array Value,e = .returned (.func (.func gf) #[] us)∧Below w.heap.size w w'∧us.size=caps.length∧∀ (i:Nat) (x:AV),caps[i]? = some x→CR1 ty w' (backOk w.heap.size okA) x (us.getD i undef)
theorem retF_of_does {Ef:(Nat→Prop)→Env} {ty:Tys} {G:Globs} (hA:∀ A,(Ef A).okA=A) (hty:∀ A,(Ef A).ty=ty) (hGl:∀ A,(Ef A).G=G) (hT:Tabs P ty) {f:FuncId} {fn:Func} {c:Code} {args:List AV} {gf:Nat} {cs caps:List AV}
 (hf:P.funcs[f]? = some fn) (hn:∀ A,fn.ntmps=(Ef A).n) (hb:fn.body=some c) (ha:args.length≤fn.ntmps) (ho:oldV.oldL args=true) (he:e = .norm∨e = .ret) (hD:∀ A w,GlobOk (Ef A) w→Does P (Ef A) w c ⟨argTms 0 args,[]⟩ e σ')
 (hr:∀ A,aresults (Ef A) σ' fn.results.toList=some [.fn gf cs]) (hown:∃ (i o:Nat) (r:RT) (p:List Nat),cs[i]? = some (AV.ptr o r p)) (hh:∀ A,hand.handL (Ef A).ty σ'.ob 30 cs=some caps) (hlf:∀ x ∈ cs,leafV x=true) (hL:∀ A k,¬ (Ef A).lent k:=by intro _ _ h;exact h) (hlo:∀ A,(Ef A).lo=none:=by intro _;rfl):RetF P ty G f args gf caps:=by
 intro A w vs hvs hG
 have hT':Tabs P (Ef A).ty:=by rw[hty];exact hT
 have hG':GlobOk (Ef A) w:=fun g t x hg=>by rw[hty,hA];exact hG g t x (by rw[← hGl A];exact hg)
 refine calls_of_does (E:=Ef A) (hL A) hT' hf (hn A) hb (by rw[← hn A];exact ha) ho (by rw[hty,hA];exact hvs) (hD A w hG') he (hr A) fun a' w' β' us hS' r2=>?_
 match us,r2 with
 | [],r2=>exact absurd r2.1 (by simp)
 | _::_::_,r2=>exact absurd r2.1 (by simp)
 | [u],r2=>
   have hu:OR (cxOf (Ef A) w σ' w' β') (.fn gf cs) u:=r2.2 0 _ u rfl rfl
   have hus:∃ us:Array Value,u = .func (.func gf) #[] us∧us.size=cs.length∧∀ (i:Nat) (x:AV),cs[i]? = some x→OR (cxOf (Ef A) w σ' w' β') x (us.getD i undef):=by
    cases hu with
    | cl h1=>
      exfalso
      obtain⟨i,o,r,p,hi⟩:=hown
      cases h1 with
      | fn f cs us q1 q2=>have:=q2 i _ hi;cases this
    | fn f cs us q1 q2=>exact⟨us,rfl,q1,q2⟩
   obtain⟨us,rfl,q1,q2⟩:=hus
   obtain⟨e1,e2⟩:=handL_get 30 cs caps (hh A)
   refine⟨us,rfl,hS'.below.plain fun k hk=>hL A k hk.1,q1.trans e1.symm,fun i y hy=>?_⟩
   have hi:i < cs.length:=by rw[← e1];exact (List.getElem?_eq_some_iff.1 hy).1
   obtain⟨_,y',_,p1,p2⟩:=e2 i cs[i] (by simp[hi])
   rw[hy] at p1;injection p1 with p1;subst p1
   have h3:=q2 i cs[i] (by simp[hi])
   have:=hand_sound (hL A) hT' hS' p2 (VR_one ((VR1_leaf (hlf _ (List.getElem_mem hi))).2 h3))
   rw[hlo A,hty,hA] at this;exact this
theorem goes_callF (hT:Tabs P E.ty) {w:World} {β:Nat→Option Nat} {a:Act} (h:Sim E w0 σ a w β) (hG:GlobOk E w0) {o:Oper} {c:Call} (ho:o.op = .call c) {f gf:Nat} {l caps:List AV} (hen:Entr P f) {g:Operand} (hcal:c.callee = .value g) (hg:a.eval g = .func (.func f) #[] #[])
 (hv:vals E.G σ c.args.toList=some l) (hl:∀ x ∈ l,closed x=true∧noTup x=true) (hret:RetF P E.ty E.G f l gf caps) (hcl:∀ x ∈ caps,leafV x=true) {K:Act→World→Prop} {Q:Exit→Act→World→Prop}
 (hK:∀ v w',Sim E w0 σ a w' β→VR (cxOf E w0 σ w' β) (.fn gf caps) v→K (a.put o.dst v) w'):o.wp P a w K Q:=by
 have hvs:=vals_sound h hG c.args.toList l hv
 have hrun:(execOp a.eval o).run P w = .ok (.enter f (c.args.toList.map a.eval).toArray) w:=by
  obtain⟨fn,q1,q2,q3⟩:=hen
  obtain⟨body,hb⟩:=Option.isSome_iff_exists.1 q2
  have e2:c.args.map a.eval=(c.args.toList.map a.eval).toArray:=by apply Array.ext';simp
  simp[execOp,ho,resolve,hcal,hg,Deferred.ofValue,invoke,callFunc,q1,q3,hb,e2]
 have hargs:F2 (CR1 E.ty w fun _ b=>¬ (cxOf E w0 σ w β).mu b) l (c.args.toList.map a.eval):=⟨hvs.1,fun j x v hx hv=>by
  obtain⟨h1,h2⟩:=hl x (List.mem_of_getElem? hx)
  exact vr_cr1 (hvs.2 j x v hx hv) h1 h2 fun b hb _=>hb⟩
 unfold Oper.wp
 rw[hrun]
 refine Calls.mono (hret _ w _ hargs fun g t x hg=>(h.old (hG g t x hg)).mono fun b hb hl=>⟨hb.1,hl,rfl⟩) fun e w' he=>?_
 obtain⟨us,rfl,e4,e5,e6⟩:=he
 refine hK _ w' (h.grow e4) (VR_one ((VR1_leaf (x:= .fn gf caps) rfl).2 (.fn gf caps us e5 fun i x hx=>?_)))
 exact (VR1_leaf (hcl x (List.mem_of_getElem? hx))).1 (CR1.vr h e4 (.inl fun b hb=>hb) (e6 i x hx))
theorem does_callF (hZ:∀ id,E.Z id=[]) (hT:Tabs P E.ty) (hC:CSound P E) (hG:GlobOk E w0) {id:Nat} {ops:Array Oper} {m d:Nat} {o:Oper} {c:Call} {f gf:Nat} {l caps:List AV} (hsz:ops.size=m+1) (hq:((ops.toList.take m).all fun o=>noDefer o.op&&(match o.dst with | some t=> !([]:List Nat).contains t | none=>true))=true)
 (hev:aopsM E ops.toList (ops.toList.take m) σ=some σ1) (hlast:ops[m]? = some o) (hgu:o.guard=none) (ho:o.op = .call c) (hd:o.dst=some d) (hdn:d < E.n) (hen:Entr P f) {g:Operand} (hcal:c.callee = .value g) (hg:∀ a:Act,a.eval g = .func (.func f) #[] #[])
 (hv:vals E.G σ1 c.args.toList=some l) (hl:∀ x ∈ l,closed x=true∧noTup x=true) (hret:RetF P E.ty E.G f l gf caps) (hcl:∀ x ∈ caps,leafV x=true):Does P E w0 (.region id ops false) σ .norm (endRegion E ⟨aput d (.fn gf caps) σ1.tm,σ1.ob⟩):=fun a w β h=>by
 refine wpIn_region ?_
 have hr:List.range ops.size=List.range' 0 ((ops.toList.drop 0).take m).length++[m]:=by
  rw[hsz,List.range_succ,List.range_eq_range']
  congr 2
  simp[hsz]
 rw[hr]
 refine round_ops (S:=[]) (a0:=a) hT hC hG (easy_wide 0) _ _ _ a w β (seg 0 m) hq hev h (.refl _ _) fun a1 w1 β1 S1 _=>?_
 refine ops_next hlast (by simp[Region.wanted,hgu]) ((easy_wide 0).2 _ _ _ _ _ (fun c' hc'=>by rw[ho] at hc';cases hc') (goes_callF hT S1 hG ho hen hcal (hg _) hv hl hret hcl fun v w' S2 hV=>?_))
 rw[hd]
 have S3:=S2.put hdn hV
 exact⟨rfl,β1,S3.less (fun t x hx=>(kept_get _ _ t x (fun _ _ _=>trivial) hx).2) (fun o b hb=>hb)⟩
end
end Go.Abs
end
section
namespace Go.Abs
open Go Go.RowKit
theorem RetM.hand {P:Program} {ty:Tys} {G:Globs} {f:FuncId} {args:List AV} {r r':AV} {ob':List (Nat × Obj)} (hT:Tabs P ty) (h:RetM P ty G f args [] r ob') (ho:∀ x ∈ args,oldV x=true) {k:Nat} (hr:hand ty ob' k r=some r'):Ret P ty G f args r':=by
 intro okA w vs hvs hG
 have hv:F2 (VR (mcx ty none okA (fun _=>False) w.heap.size [] w fun _=>none)) args vs:=⟨hvs.1,fun i x v hx hv=>old_vr (c:=mcx ty none okA (fun _=>False) w.heap.size [] w fun _=>none) (hvs.2 i x v hx hv) (ho x (List.mem_of_getElem? hx)) fun b hb _ hmu=>by
  rcases hmu with ⟨_,q⟩ | ⟨_,_,q,_⟩
  ·exact q hb
  ·simp[aget] at q⟩
 refine Calls.mono (h none okA (fun _=>False) w (fun _=>none) vs (fun o b hb=>by simp[aget] at hb) (fun o o' b b' k h1=>by simp[aget] at h1) hv hG) fun e w' he=>?_
 obtain⟨v,β',e1,e2,e3,e4,e5⟩:=he
 let E:Env:={ ty:=ty,G:=G,n:=0,K:=0,C:=fun _ _=>none,D:=fun _=>none,okA:=okA }
 have hS:Sim E w ⟨[],ob'⟩ { tmps:=#[],defers:=[] } w' β':=⟨e2,rfl,Marks.nil _ _,fun t x hx=>by simp[aget] at hx,e3,e4⟩
 exact⟨v,e1,e2.plain fun k hk=>hk.1,CR_one (hand_sound (E:=E) (fun _ h=>h) hT hS hr e5)⟩
end Go.Abs
end
section
set_option maxHeartbeats 4000000
set_option maxRecDepth 20000
namespace Go.Proofs.Tryz
open Go Go.Abs
variable (ops : List XOp) (ints : List Int) (strs : List ByteArray) (rels : List XRel)
def subR:Code→List Nat→Code
 | c,[]=>c
 | .seq a _,0::p=>subR a p
 | .seq _ b,1::p=>subR b p
 | .cond _ a _,0::p=>subR a p
 | .cond _ _ b,1::p=>subR b p
 | .block _ c,_::p=>subR c p
 | .loop c,_::p=>subR c p
 | .scope c,_::p=>subR c p
 | .rangeFunc _ _ a _,0::p=>subR a p
 | .rangeFunc _ _ _ b,1::p=>subR b p
 | c,_=>c
abbrev wv (ops:List XOp) (ints:List Int) (strs:List ByteArray) (rels:List XRel) (before:List (List XFact)) (reached:List Bool) (alive:List Int):AV:= .ro false 106 (.st 106 [(cd ops ints strs rels),.sl 119 gT (before.map eFacts),.sl 4 gT (reached.map eB),.sl 109 gT (alive.map eU)])
theorem ret46c (hp:ops.length≤100000∧ints.length≤100000∧strs.length≤100000∧rels.length≤100000):Ret Tryz.prog ty G0 46 [(cd ops ints strs rels)] ((cd ops ints strs rels)):=
 RetM.hand (k:=30) tabs (snd46 _ _ _ _ (c46_eq ops ints strs rels hp)).2 (by simp[oldV,oldV.oldL]) (by simp[hand,hand.handL,aget,obind])
def R46c (l:List AV) (r:AV):Prop:=∃ (ops:List XOp) (ints:List Int) (strs:List ByteArray) (rels:List XRel),(ops.length≤100000∧ints.length≤100000∧strs.length≤100000∧rels.length≤100000)∧l=[(cd ops ints strs rels)]∧r=(cd ops ints strs rels)
noncomputable def c46c:=famC R46c
theorem c46c_eq (hp:ops.length≤100000∧ints.length≤100000∧strs.length≤100000∧rels.length≤100000):c46c [(cd ops ints strs rels)]=some ((cd ops ints strs rels)):=by
 refine famC_eq (fun l r r'=>?_) ⟨ops,ints,strs,rels,hp,rfl,rfl⟩
 rintro⟨ops,ints,strs,rels,hp,h,rfl⟩ ⟨ops',ints',strs',rels',hp',h',rfl⟩
 rw[h] at h'
 simp only[List.cons.injEq,AV.st.injEq,AV.sl.injEq,AV.int.injEq,AV.bool.injEq,AV.str.injEq,AV.ro.injEq,AV.fn.injEq,AV.own.injEq,Fl.mk.injEq,Prod.mk.injEq,Abs.Obj.mk.injEq,mOp_inj,mI_inj,mS_inj,mB_inj,mRel_inj,mStep_inj,mFacts_inj,mU_inj,and_true,true_and,and_assoc] at h'
 obtain⟨rfl,rfl,rfl,rfl⟩:=h'
 rfl
theorem snd46c:Snd 46 c46c:=fun l r h=>by
 obtain⟨ops,ints,strs,rels,hp,rfl,rfl⟩:=famC_R h
 exact⟨⟨f46,h46,rfl,by decide⟩,ret46c ops ints strs rels hp⟩
def H0:Nat→Hint:=fun _=>{ tm:=[],ob:=[] }
theorem h37:Tryz.prog.funcs[37]? = some f37:=by kernel_rfl
theorem ev37 (before:List (List XFact)) (reached:List Bool) (alive:List Int) (A:Nat→Prop):arun (env 4 7 D0 [] [] A) H0 5 (f37.body.getD .skip) ⟨[(0,.ro false 106 (.st 106 [(cd ops ints strs rels),.sl 119 gT (before.map eFacts),.sl 4 gT (reached.map eB),.sl 109 gT (alive.map eU)]))],[]⟩=some (.ret,⟨[(2,.fn 72 [.ptr 1 (.box 83) []]),(1,.ptr 1 (.box 83) []),(0,.ro false 106 (.st 106 [(cd ops ints strs rels),.sl 119 gT (before.map eFacts),.sl 4 gT (reached.map eB),.sl 109 gT (alive.map eU)]))],[(1,⟨.box 83,false,[.ro false 106 (.st 106 [(cd ops ints strs rels),.sl 119 gT (before.map eFacts),.sl 4 gT (reached.map eB),.sl 109 gT (alive.map eU)])]⟩)]⟩):=by
 simp only[f37,Option.getD_some]
 simp only[go_sem,simprocAttr,subR,Option.getD_some]
 try rfl
theorem h15:Tryz.prog.funcs[15]? = some f15:=by kernel_rfl
theorem ev15a  (A:Nat→Prop):arun (env 22 50303 D0 [(33,c33),(34,c34)] [] A) H0 5 (subR (f15.body.getD .skip) [0]) ⟨[(0,(cd ops ints strs rels))],[]⟩=some (.norm,⟨[(3,.int .i64 0),(2,.sl 0 ⟨true,some true,true⟩ []),(1,.ptr 1 (.box 27) []),(0,(cd ops ints strs rels))],[(1,⟨.box 27,false,[(cd ops ints strs rels)]⟩)]⟩):=by
 simp only[f15,subR,Option.getD_some]
 simp only[go_sem,simprocAttr,subR,Option.getD_some]
 try rfl
theorem ev15f (hp:XIn ops ints strs rels) (hc:checkF ops ints strs rels=false) (A:Nat→Prop):arun (env 22 50303 D0 [(33,c33),(34,c34)] [] A) H0 5 (subR (f15.body.getD .skip) [1,0]) ⟨[(3,.int .i64 0),(2,.sl 0 ⟨true,some true,true⟩ []),(1,.ptr 1 (.box 27) []),(0,(cd ops ints strs rels))],[(1,⟨.box 27,false,[(cd ops ints strs rels)]⟩)]⟩=some (.ret,⟨[(3,.int .i64 150),(2,.sl 0 ⟨true,some true,true⟩ []),(10,.bool true),(4,.int .i64 150),(1,.ptr 1 (.box 27) []),(0,(cd ops ints strs rels))],[(1,⟨.box 27,false,[(cd ops ints strs rels)]⟩)]⟩):=by
 simp only[f15,subR,Option.getD_some]
 have e33:=c33_eq ops ints strs rels ⟨hp.lim,hp.str⟩
 rw[hc] at e33
 simp only[errF,BL] at e33
 simp only[go_sem,simprocAttr,subR,Option.getD_some,e33]
 try rfl
theorem ev15b (hp:XIn ops ints strs rels) (hc:checkF ops ints strs rels=true) (A:Nat→Prop):arun (env 22 50303 D0 [(33,c33),(34,c34)] [] A) H0 5 (subR (f15.body.getD .skip) [1,0]) ⟨[(3,.int .i64 0),(2,.sl 0 ⟨true,some true,true⟩ []),(1,.ptr 1 (.box 27) []),(0,(cd ops ints strs rels))],[(1,⟨.box 27,false,[(cd ops ints strs rels)]⟩)]⟩=some (.norm,⟨[(10,.bool false),(4,.int .i64 0),(3,.int .i64 0),(2,.sl 0 ⟨true,some true,true⟩ []),(1,.ptr 1 (.box 27) []),(0,(cd ops ints strs rels))],[(1,⟨.box 27,false,[(cd ops ints strs rels)]⟩)]⟩):=by
 simp only[f15,subR,Option.getD_some]
 have e33:=c33_eq ops ints strs rels ⟨hp.lim,hp.str⟩
 rw[hc] at e33
 simp only[errF,BL] at e33
 simp only[go_sem,simprocAttr,subR,Option.getD_some,e33]
 try rfl
theorem ev15c  (A:Nat→Prop):arun (env 22 50303 D0 [(33,c33),(34,c34)] [] A) H0 5 (subR (f15.body.getD .skip) [1,1,0]) ⟨[(10,.bool false),(4,.int .i64 0),(3,.int .i64 0),(2,.sl 0 ⟨true,some true,true⟩ []),(1,.ptr 1 (.box 27) []),(0,(cd ops ints strs rels))],[(1,⟨.box 27,false,[(cd ops ints strs rels)]⟩)]⟩=some (.norm,⟨[(5,.ptr 5 (.box 42) []),(10,.bool false),(4,.int .i64 0),(3,.int .i64 0),(2,.sl 0 ⟨true,some true,true⟩ []),(1,.ptr 1 (.box 27) []),(0,(cd ops ints strs rels))],[(5,⟨.box 42,true,[.sl 29 ⟨true,some true,true⟩ []]⟩),(1,⟨.box 27,false,[(cd ops ints strs rels)]⟩)]⟩):=by
 simp only[f15,subR,Option.getD_some]
 simp only[go_sem,simprocAttr,subR,Option.getD_some]
 try rfl
noncomputable def ops15:Array Oper:=match subR (f15.body.getD .skip) [1,1,1,0,0] with | .region _ ops _=>ops | _=>#[]
theorem ev15d (hp:XIn ops ints strs rels) (hc:checkF ops ints strs rels=true) (A:Nat→Prop):aopsM (env 22 50303 D0 [(33,c33),(34,c34)] [] A) ops15.toList (ops15.toList.take 2) ⟨[(5,.ptr 5 (.box 42) []),(10,.bool false),(4,.int .i64 0),(3,.int .i64 0),(2,.sl 0 ⟨true,some true,true⟩ []),(1,.ptr 1 (.box 27) []),(0,(cd ops ints strs rels))],[(5,⟨.box 42,true,[.sl 29 ⟨true,some true,true⟩ []]⟩),(1,⟨.box 27,false,[(cd ops ints strs rels)]⟩)]⟩=some ⟨[(13,.ro false 106 (.st 106 [(cd ops ints strs rels),.sl 119 gT ((workS ops ints rels).1.map eFacts),.sl 4 gT ((workS ops ints rels).2.map eB),.sl 109 gT ((workL ops).map eU)])),(12,(cd ops ints strs rels)),(5,.ptr 5 (.box 42) []),(10,.bool false),(4,.int .i64 0),(3,.int .i64 0),(2,.sl 0 ⟨true,some true,true⟩ []),(1,.ptr 1 (.box 27) []),(0,(cd ops ints strs rels))],[(5,⟨.box 42,true,[.sl 29 ⟨true,some true,true⟩ []]⟩),(1,⟨.box 27,false,[(cd ops ints strs rels)]⟩)]⟩:=by
 have e34:=c34_eq ops ints strs rels ⟨⟨hp.lim,hp.str⟩,hc⟩
 simp only[ops15,f15,subR,Option.getD_some,List.take_succ_cons,List.take_zero]
 simp only[go_sem,simprocAttr,subR,Option.getD_some,e34]
 try rfl
theorem ev15g (r q:Int) (c:XCode) (lo:Option Nat) (A L:Nat→Prop):arun (envM 22 50303 D0 [(33,c33),(34,c34)] [] lo A L) H0 5 (subR (f15.body.getD .skip) [1,1,1,0,1,0,0]) ⟨[(16,(cd c.ops c.ints c.strs c.rels)),(15,.st 29 [.int .i64 r,.int .i64 q]),(5,.ptr 5 (.box 42) [])],[(5,⟨.box 42,true,[.sl 29 ⟨true,some true,true⟩ []]⟩),(1,⟨.box 27,false,[(cd ops ints strs rels)]⟩)]⟩=some (.norm,⟨[(6,.ptr 6 (.box 29) []),(15,.st 29 [.int .i64 r,.int .i64 q]),(5,.ptr 5 (.box 42) [])],[(6,⟨.box 29,true,[.st 29 [.int .i64 r,.int .i64 q]]⟩),(5,⟨.box 42,true,[.sl 29 ⟨true,some true,true⟩ []]⟩),(1,⟨.box 27,false,[(cd ops ints strs rels)]⟩)]⟩):=by
 simp only[f15,subR,Option.getD_some]
 simp only[go_sem,simprocAttr,subR,Option.getD_some]
 try rfl
theorem ev15h (r q:Int) (lo:Option Nat) (A L:Nat→Prop):arun (envM 22 50303 D0 [(33,c33),(34,c34)] [] lo A L) H0 5 (subR (f15.body.getD .skip) [1,1,1,0,1,0,1]) ⟨[(6,.ptr 6 (.box 29) []),(15,.st 29 [.int .i64 r,.int .i64 q]),(5,.ptr 5 (.box 42) [])],[(6,⟨.box 29,true,[.st 29 [.int .i64 r,.int .i64 q]]⟩),(5,⟨.box 42,true,[.sl 29 ⟨true,some true,true⟩ []]⟩),(1,⟨.box 27,false,[(cd ops ints strs rels)]⟩)]⟩=some (.norm,⟨[(6,.ptr 6 (.box 29) []),(15,.st 29 [.int .i64 r,.int .i64 q]),(5,.ptr 5 (.box 42) [])],[(5,⟨.box 42,true,[.own 20 29 0 1]⟩),(20,⟨.row 29,true,[.st 29 [.int .i64 r,.int .i64 q]]⟩),(19,⟨.row 29,true,[.st 29 [.int .i64 r,.int .i64 q]]⟩),(6,⟨.box 29,true,[.st 29 [.int .i64 r,.int .i64 q]]⟩),(1,⟨.box 27,false,[(cd ops ints strs rels)]⟩)]⟩):=by
 simp only[f15,subR,Option.getD_some]
 simp only[go_sem,simprocAttr,subR,Option.getD_some]
 try rfl
theorem ev15i (xs:List XStep) (r0 q0 r q:Int) (c:XCode) (lo:Option Nat) (A L:Nat→Prop):arun (envM 22 50303 D0 [(33,c33),(34,c34)] [] lo A L) H0 5 (subR (f15.body.getD .skip) [1,1,1,0,1,0,0]) ⟨[(16,(cd c.ops c.ints c.strs c.rels)),(15,.st 29 [.int .i64 r,.int .i64 q]),(5,.ptr 5 (.box 42) [])],[(5,⟨.box 42,true,[.own 21 29 0 xs.length]⟩),(21,⟨.row 29,true,(xs.map eStep)⟩),(19,⟨.row 29,true,[.st 29 [.int .i64 r0,.int .i64 q0]]⟩),(6,⟨.box 29,true,[.st 29 [.int .i64 r0,.int .i64 q0]]⟩),(1,⟨.box 27,false,[(cd ops ints strs rels)]⟩)]⟩=some (.norm,⟨[(6,.ptr 6 (.box 29) []),(15,.st 29 [.int .i64 r,.int .i64 q]),(5,.ptr 5 (.box 42) [])],[(6,⟨.box 29,true,[.st 29 [.int .i64 r,.int .i64 q]]⟩),(5,⟨.box 42,true,[.own 21 29 0 xs.length]⟩),(21,⟨.row 29,true,(xs.map eStep)⟩),(19,⟨.row 29,true,[.st 29 [.int .i64 r0,.int .i64 q0]]⟩),(1,⟨.box 27,false,[(cd ops ints strs rels)]⟩)]⟩):=by
 simp only[f15,subR,Option.getD_some]
 simp only[go_sem,simprocAttr,subR,Option.getD_some]
 try rfl
theorem ev15j (xs:List XStep) (r0 q0 r q:Int) (hx:xs.length < 10000000) (lo:Option Nat) (A L:Nat→Prop):arun (envM 22 50303 D0 [(33,c33),(34,c34)] [] lo A L) H0 5 (subR (f15.body.getD .skip) [1,1,1,0,1,0,1]) ⟨[(6,.ptr 6 (.box 29) []),(15,.st 29 [.int .i64 r,.int .i64 q]),(5,.ptr 5 (.box 42) [])],[(6,⟨.box 29,true,[.st 29 [.int .i64 r,.int .i64 q]]⟩),(5,⟨.box 42,true,[.own 21 29 0 xs.length]⟩),(21,⟨.row 29,true,(xs.map eStep)⟩),(19,⟨.row 29,true,[.st 29 [.int .i64 r0,.int .i64 q0]]⟩),(1,⟨.box 27,false,[(cd ops ints strs rels)]⟩)]⟩=some (.norm,⟨[(6,.ptr 6 (.box 29) []),(15,.st 29 [.int .i64 r,.int .i64 q]),(5,.ptr 5 (.box 42) [])],[(5,⟨.box 42,true,[.own 20 29 0 (xs.length+1)]⟩),(20,⟨.row 29,true,(xs.map eStep++[.st 29 [.int .i64 r,.int .i64 q]])⟩),(19,⟨.row 29,true,[.st 29 [.int .i64 r,.int .i64 q]]⟩),(6,⟨.box 29,true,[.st 29 [.int .i64 r,.int .i64 q]]⟩),(1,⟨.box 27,false,[(cd ops ints strs rels)]⟩)]⟩):=by
 simp only[f15,subR,Option.getD_some]
 have hroom:((xs.length+1) * 16≤140737488355328)=True:=by simp;omega
 have hlen:(xs.length≤140737488355327)=True:=by simp;omega
 simp only[go_sem,simprocAttr,subR,Option.getD_some,hroom,hlen]
 try rfl
theorem ev15k  (A:Nat→Prop):arun (env 22 50303 D0 [(33,c33),(34,c34)] [] A) H0 5 (subR (f15.body.getD .skip) [1,1,1,1]) ⟨[(5,.ptr 5 (.box 42) [])],[(5,⟨.box 42,true,[.sl 29 ⟨true,some true,true⟩ []]⟩),(1,⟨.box 27,false,[(cd ops ints strs rels)]⟩)]⟩=some (.ret,⟨[(3,.int .i64 0),(2,.sl 29 ⟨true,some true,true⟩ []),(5,.ptr 5 (.box 42) [])],[(5,⟨.box 42,true,[.sl 29 ⟨true,some true,true⟩ []]⟩),(1,⟨.box 27,false,[(cd ops ints strs rels)]⟩)]⟩):=by
 simp only[f15,subR,Option.getD_some]
 simp only[go_sem,simprocAttr,subR,Option.getD_some]
 try rfl
theorem ev15l (xs:List XStep) (r0 q0:Int) (A:Nat→Prop):arun (env 22 50303 D0 [(33,c33),(34,c34)] [] A) H0 5 (subR (f15.body.getD .skip) [1,1,1,1]) ⟨[(5,.ptr 5 (.box 42) [])],[(5,⟨.box 42,true,[.own 21 29 0 xs.length]⟩),(21,⟨.row 29,true,(xs.map eStep)⟩),(19,⟨.row 29,true,[.st 29 [.int .i64 r0,.int .i64 q0]]⟩),(6,⟨.box 29,true,[.st 29 [.int .i64 r0,.int .i64 q0]]⟩),(1,⟨.box 27,false,[(cd ops ints strs rels)]⟩)]⟩=some (.ret,⟨[(3,.int .i64 0),(2,.own 21 29 0 xs.length),(5,.ptr 5 (.box 42) [])],[(5,⟨.box 42,true,[.own 21 29 0 xs.length]⟩),(21,⟨.row 29,true,(xs.map eStep)⟩),(19,⟨.row 29,true,[.st 29 [.int .i64 r0,.int .i64 q0]]⟩),(6,⟨.box 29,true,[.st 29 [.int .i64 r0,.int .i64 q0]]⟩),(1,⟨.box 27,false,[(cd ops ints strs rels)]⟩)]⟩):=by
 simp only[f15,subR,Option.getD_some]
 simp only[go_sem,simprocAttr,subR,Option.getD_some]
 try rfl
noncomputable abbrev E15 (A:Nat→Prop):Env:=env 22 50303 D0 [(33,c33),(34,c34)] [] A
noncomputable abbrev P15 (p:List Nat):Code:=subR (f15.body.getD .skip) p
def ob15 (code:AV) (k:Nat) (xs:List XStep) (s:XStep):List (Nat × Abs.Obj):=[(5,⟨.box 42,true,[.own k 29 0 xs.length]⟩),(k,⟨.row 29,true,xs.map eStep⟩),(19,⟨.row 29,true,[eStep s]⟩),(6,⟨.box 29,true,[eStep s]⟩),(1,⟨.box 27,false,[code]⟩)]
def ren15 (code:AV) (ob ob2:List (Nat × Abs.Obj)):Prop:=∃ xs s,ob=ob15 code 20 xs s∧ob2=ob15 code 21 xs s
theorem ren15_ok (E:Env) (w0:World) {ob ob2:List (Nat × Abs.Obj)} (h:ren15 ((cd ops ints strs rels)) ob ob2):RenOk E w0 [(5,.ptr 5 (.box 42) [])] ob ob2:=by
 obtain⟨xs,s,rfl,rfl⟩:=h
 intro a w β hS
 exact hS.boxmove (p:=5) (o:=20) (c:=21) (t:=29) (n:=xs.length) rfl rfl (by simp[St.free,St.free.freeT,St.free.freeO,ob15,ment,ment.mentL,eStep]) (by decide) (by decide) (by decide)
def stepOf (s:Int × Int × XCode):XStep:=⟨s.1,s.2.1⟩
theorem stepsQ_len (ap:Int→Option XCode) (r:Int):∀ (m:Nat) (q:Int),(stepsQ ap r m q).length≤m
 | 0,q=>by simp[stepsQ]
 | m+1,q=>by
   have:=stepsQ_len ap r m (q+1)
   simp only[stepsQ,List.length_append]
   split <;> simp <;> omega
theorem stepsR_len (ap:Int→Int→Option XCode) (pl:Int→Int) {M:Nat} (hM:∀ r,pl r≤M):∀ (m:Nat) (r:Int),(stepsR ap pl m r).length≤m * M
 | 0,r=>by simp[stepsR]
 | m+1,r=>by
   have h1:=stepsR_len ap pl hM m (r+1)
   have h2:=stepsQ_len (ap r) r (pl r).toNat 0
   have h3:=hM r
   simp only[stepsR,List.length_append,Nat.add_mul]
   omega
theorem rounds15:∀ (l:List (Int × Int × XCode)) (xs:List XStep) (s:XStep),xs.length+l.length < 10000000→∃ s',
 Rounds (ren15 ((cd ops ints strs rels))) (fun c σ r=>∀ A lo L,arun { E15 A with okA:=A,lo:=lo,lent:=L } H0 5 c σ=some r) [15,16] (P15 [1,1,1,0,1,0,0]) (P15 [1,1,1,0,1,0,1]) [5] [(5,.ptr 5 (.box 42) [])] (l.map encS) (ob15 ((cd ops ints strs rels)) 21 xs s) .norm (ob15 ((cd ops ints strs rels)) 21 (xs++l.map stepOf) s')
 | [],xs,s,_=>⟨s,by simpa using Rounds.done _⟩
 | y::l,xs,s,hl=>by
   obtain⟨s',h⟩:=rounds15 l (xs++[stepOf y]) (stepOf y) (by simp at hl ⊢;omega)
   refine⟨s',.goes (σ2:=⟨[(6,.ptr 6 (.box 29) []),(15,.st 29 [.int .i64 y.1,.int .i64 y.2.1]),(5,.ptr 5 (.box 42) [])],(6,⟨.box 29,true,[.st 29 [.int .i64 y.1,.int .i64 y.2.1]]⟩)::(5,⟨.box 42,true,[.own 21 29 0 xs.length]⟩)::(21,⟨.row 29,true,xs.map eStep⟩)::(19,⟨.row 29,true,[eStep s]⟩)::(1,⟨.box 27,false,[(cd ops ints strs rels)]⟩)::[]⟩) (σ3:=⟨[(6,.ptr 6 (.box 29) []),(15,.st 29 [.int .i64 y.1,.int .i64 y.2.1]),(5,.ptr 5 (.box 42) [])],ob15 ((cd ops ints strs rels)) 20 (xs++[stepOf y]) (stepOf y)⟩) rfl (by simp[encS,eCode,oldV,oldV.oldL]) (fun A lo L=>?_) (fun A lo L=>?_) rfl ⟨_,_,rfl,rfl⟩ (by simpa using h)⟩
   ·exact ev15i ops ints strs rels xs s.rule s.at_ y.1 y.2.1 y.2.2 lo A L
   ·refine (ev15j ops ints strs rels xs s.rule s.at_ y.1 y.2.1 (by simp at hl;omega) lo A L).trans ?_
    simp[ob15,stepOf,eStep]
theorem rounds15a (y:Int × Int × XCode) (l:List (Int × Int × XCode)) (hl:l.length < 2000000):∃ s',
 Rounds (ren15 ((cd ops ints strs rels))) (fun c σ r=>∀ A lo L,arun { E15 A with okA:=A,lo:=lo,lent:=L } H0 5 c σ=some r) [15,16] (P15 [1,1,1,0,1,0,0]) (P15 [1,1,1,0,1,0,1]) [5] [(5,.ptr 5 (.box 42) [])] ((y::l).map encS) [(5,⟨.box 42,true,[.sl 29 ⟨true,some true,true⟩ []]⟩),(1,⟨.box 27,false,[(cd ops ints strs rels)]⟩)] .norm (ob15 ((cd ops ints strs rels)) 21 ((y::l).map stepOf) s'):=by
 obtain⟨s',h⟩:=rounds15 ops ints strs rels l [stepOf y] (stepOf y) (by simp;omega)
 refine⟨s',.goes (σ2:=⟨[(6,.ptr 6 (.box 29) []),(15,.st 29 [.int .i64 y.1,.int .i64 y.2.1]),(5,.ptr 5 (.box 42) [])],(6,⟨.box 29,true,[.st 29 [.int .i64 y.1,.int .i64 y.2.1]]⟩)::[(5,⟨.box 42,true,[.sl 29 ⟨true,some true,true⟩ []]⟩),(1,⟨.box 27,false,[(cd ops ints strs rels)]⟩)]⟩) (σ3:=⟨[(6,.ptr 6 (.box 29) []),(15,.st 29 [.int .i64 y.1,.int .i64 y.2.1]),(5,.ptr 5 (.box 42) [])],ob15 ((cd ops ints strs rels)) 20 [stepOf y] (stepOf y)⟩) rfl (by simp[encS,eCode,oldV,oldV.oldL]) (fun A lo L=>?_) (fun A lo L=>?_) rfl ⟨_,_,rfl,rfl⟩ (by simpa using h)⟩
 ·exact ev15g ops ints strs rels y.1 y.2.1 y.2.2 lo A L
 ·exact (ev15h ops ints strs rels y.1 y.2.1 lo A L).trans (by simp[ob15,stepOf,eStep])
theorem does37 (before:List (List XFact)) (reached:List Bool) (alive:List Int) (ops:List XOp) (ints:List Int) (strs:List ByteArray) (rels:List XRel):RetF Tryz.prog ty G0 37 [wv ops ints strs rels before reached alive] 72 [.ro false 83 (wv ops ints strs rels before reached alive)]:=
 retF_of_does (Ef:=fun A=>env 4 7 D0 [] [] A) (cs:=[.ptr 1 (.box 83) []]) (fun _=>rfl) (fun _=>rfl) (fun _=>rfl) tabs h37 (fun _=>rfl) rfl (Nat.le_of_ble_eq_true rfl) (by simp[oldV,oldV.oldL]) (.inr rfl)
  (fun A w hG=>does_arun (H:=H0) (k:=5) (fun _ h=>h) tabs (csnd (C:=[]) (M:=[]) trivial trivial) hG (draws_of tabs (csnd (C:=[]) (M:=[]) trivial trivial) hm (fun _=>[]) _ (by kernel_rfl)) (ev37 ops ints strs rels before reached alive A))
  (fun A=>rfl) ⟨0,1,.box 83,[],rfl⟩ (fun A=>rfl) (by simp[leafV])
theorem body15:∃ id,f15.body=some (.seq (P15 [0]) (.seq (P15 [1,0]) (.seq (P15 [1,1,0]) (.seq (.seq (.region id ops15 false) (.block 0 (.rangeFunc (.tmp 14) #[15,16] (P15 [1,1,1,0,1,0,0]) (P15 [1,1,1,0,1,0,1])))) (P15 [1,1,1,1]))))):=⟨_,rfl⟩
theorem st15:(straight [5] (P15 [1,1,1,0,1,0,0])&&straight [5] (P15 [1,1,1,0,1,0,1]))=true:=by kernel_rfl
theorem ops15_q:ops15.size=2+1∧((ops15.toList.take 2).all fun o=>noDefer o.op&&(match o.dst with | some t=> !([]:List Nat).contains t | none=>true))=true:=⟨by kernel_rfl,by kernel_rfl⟩
theorem ops15_o:∃ o c,ops15[2]? = some o∧o.guard=none∧o.op = .call c∧o.dst=some 14∧(∃ g,c.callee = .value g∧∀ a:Act,a.eval g = .func (.func 37) #[] #[])∧c.args.toList=[.tmp 13]:=⟨_,_,rfl,rfl,rfl,rfl,⟨_,rfl,fun _=>rfl⟩,rfl⟩
theorem cs15 (A:Nat→Prop):CSound Tryz.prog (E15 A):=csnd (C:=[(33,c33),(34,c34)]) (M:=[]) ⟨snd33,snd34,trivial⟩ trivial
theorem dr15 (A:Nat→Prop):∀ c,certs (E15 A).Q (E15 A).D (fun _=>[]) c=true→Draws Tryz.prog (E15 A) c:=fun c h=>draws_of tabs (cs15 A) hm (fun _=>[]) c h
theorem dq15 (A:Nat→Prop):Draws Tryz.prog (E15 A) (P15 [0])∧Draws Tryz.prog (E15 A) (P15 [1,0])∧Draws Tryz.prog (E15 A) (P15 [1,1,0])∧Draws Tryz.prog (E15 A) (P15 [1,1,1,1]):=
 ⟨dr15 A _ (by kernel_rfl),dr15 A _ (by kernel_rfl),dr15 A _ (by kernel_rfl),dr15 A _ (by kernel_rfl)⟩
def stepsE (ops:List XOp) (ints:List Int) (strs:List ByteArray) (rels:List XRel):List XStep:=
 if checkF ops ints strs rels=true then (stepsW ops ints strs rels (workS ops ints rels).1 (workS ops ints rels).2 (workL ops)).map stepOf else []
theorem does15f (hp:XIn ops ints strs rels) (hc:checkF ops ints strs rels=false) (A:Nat→Prop) (w:World) (hG:GlobOk (E15 A) w) :
 ∃ c,f15.body=some c∧Does Tryz.prog (E15 A) w c ⟨argTms 0 [(cd ops ints strs rels)],[]⟩ .ret ⟨[(3,.int .i64 150),(2,.sl 0 ⟨true,some true,true⟩ []),(10,.bool true),(4,.int .i64 150),(1,.ptr 1 (.box 27) []),(0,(cd ops ints strs rels))],[(1,⟨.box 27,false,[(cd ops ints strs rels)]⟩)]⟩:=by
 obtain⟨id,hb⟩:=body15
 obtain⟨d1,d2,d3,d4⟩:=dq15 A
 exact⟨_,hb,does_seq (does_arun (fun _ h=>h) tabs (cs15 A) hG d1 (ev15a ops ints strs rels A)) (does_seq_x (does_arun (fun _ h=>h) tabs (cs15 A) hG d2 (ev15f ops ints strs rels hp hc A)) (by simp))⟩
theorem does15p (hp:XIn ops ints strs rels) (hc:checkF ops ints strs rels=true) (A:Nat→Prop) (w:World) (hG:GlobOk (E15 A) w) {ob σ'} (h1:(∃ s',ob=ob15 ((cd ops ints strs rels)) 21 ((stepsW ops ints strs rels (workS ops ints rels).1 (workS ops ints rels).2 (workL ops)).map stepOf) s')∨((stepsW ops ints strs rels (workS ops ints rels).1 (workS ops ints rels).2 (workL ops))=[]∧ob=[(5,⟨.box 42,true,[.sl 29 ⟨true,some true,true⟩ []]⟩),(1,⟨.box 27,false,[(cd ops ints strs rels)]⟩)]))
 (hr:Rounds (ren15 ((cd ops ints strs rels))) (fun c σ r=>∀ A lo L,arun { E15 A with okA:=A,lo:=lo,lent:=L } H0 5 c σ=some r) [15,16] (P15 [1,1,1,0,1,0,0]) (P15 [1,1,1,0,1,0,1]) [5] [(5,.ptr 5 (.box 42) [])] ((stepsW ops ints strs rels (workS ops ints rels).1 (workS ops ints rels).2 (workL ops)).map encS) [(5,⟨.box 42,true,[.sl 29 ⟨true,some true,true⟩ []]⟩),(1,⟨.box 27,false,[(cd ops ints strs rels)]⟩)] .norm ob)
 (h2:arun (E15 A) H0 5 (P15 [1,1,1,1]) ⟨[(5,.ptr 5 (.box 42) [])],ob⟩=some (.ret,σ')) :
 ∃ c,f15.body=some c∧Does Tryz.prog (E15 A) w c ⟨argTms 0 [(cd ops ints strs rels)],[]⟩ .ret σ':=by
 obtain⟨id,hb⟩:=body15
 obtain⟨d1,d2,d3,d4⟩:=dq15 A
 obtain⟨o,c,g1,g2,g3,g4,⟨g,g5,g6⟩,g7⟩:=ops15_o
 have hs:=st15
 simp only[Bool.and_eq_true] at hs
 refine⟨_,hb,does_seq (does_arun (fun _ h=>h) tabs (cs15 A) hG d1 (ev15a ops ints strs rels A)) (does_seq (does_arun (fun _ h=>h) tabs (cs15 A) hG d2 (ev15b ops ints strs rels hp hc A)) (does_seq (does_arun (fun _ h=>h) tabs (cs15 A) hG d3 (ev15c ops ints strs rels A)) (does_seq (does_seq
  (does_callF (fun _=>rfl) tabs (cs15 A) hG ops15_q.1 ops15_q.2 (ev15d ops ints strs rels hp hc A) g1 g2 g3 g4 (Nat.le_of_ble_eq_true rfl) ⟨f37,h37,rfl,by decide⟩ g5 g6 (by rw[g7];rfl) (by simp[closed,noTup]) (does37 _ _ _ ops ints strs rels) (by simp[leafV]))
  (does_block_x 0 (does_range (tm:=[(5,.ptr 5 (.box 42) [])]) (fun _=>rfl) tabs (cs15 A) hG rfl (fun _ h=>h) rfl (iter72 ops ints strs rels _ _ _ (work_xa hp hc)) rfl (enters ⟨f72,h72,rfl,by decide⟩) (by kernel_rfl) (by kernel_rfl) (show ∀ p ∈ _,p < 22∧_ by simp) hs.1 hs.2 (fun _ _ h=>ren15_ok ops ints strs rels _ _ h) hr) (by simp)))
  (does_arun (fun _ h=>h) tabs (cs15 A) hG d4 h2))))⟩
theorem ret15 (hp:XIn ops ints strs rels):Ret Tryz.prog ty G0 15 [(cd ops ints strs rels)] (.tup [.sl 29 gT ((stepsE ops ints strs rels).map eStep),.int .i64 (errF (checkF ops ints strs rels))]):=by
 have wrap:∀ {r:AV} {σ':St},(∀ A,aresults (E15 A) σ' f15.results.toList=some [(aget 2 σ'.tm).getD .undef,(aget 3 σ'.tm).getD .undef])→(∀ A w,GlobOk (E15 A) w→∃ c,f15.body=some c∧Does Tryz.prog (E15 A) w c ⟨argTms 0 [(cd ops ints strs rels)],[]⟩ .ret σ')→
  (∀ A:Nat→Prop,(obind (hand.handL ty σ'.ob 30 [(aget 2 σ'.tm).getD .undef,(aget 3 σ'.tm).getD .undef]) fun vs=>some (one vs))=some r)→Ret Tryz.prog ty G0 15 [(cd ops ints strs rels)] r:=fun h1 h2 h3=>by
  obtain⟨id,hb⟩:=body15
  exact ret_of_does (Ef:=E15) (e:= .ret) (fun _=>rfl) (fun _=>rfl) (fun _=>rfl) tabs h15 (fun _=>rfl) hb (Nat.le_of_ble_eq_true rfl) (by simp[oldV,oldV.oldL]) (.inr rfl) (fun A w hG=>by
   obtain⟨c,e,h⟩:=h2 A w hG
   rw[hb] at e;injection e with e;subst e;exact h) (fun A=>by rw[h1 A];exact h3 A)
 cases hc:checkF ops ints strs rels with
 | false=>
   refine Ret.weak (wrap (r:= .tup [.sl 0 ⟨true,some true,true⟩ [],.int .i64 150]) (fun _=>rfl) (fun A w hG=>does15f ops ints strs rels hp hc A w hG) (fun _=>rfl)) ?_
   simp[stepsE,hc,one,wk_tup,wkL_cons,wkL_nil,wk_sl,wk_int,errF]
 | true=>
   have hlen:=stepsR_len (applyF ops ints strs rels (workS ops ints rels).1 (workS ops ints rels).2 (workL ops)) (placesF ops ints strs) (M:=200000) (fun r=>by
    obtain⟨l1,l2,l3,l4⟩:=hp.lim
    unfold placesF;split <;> omega) 8 1
   cases hl:stepsW ops ints strs rels (workS ops ints rels).1 (workS ops ints rels).2 (workL ops) with
   | nil=>
     refine Ret.weak (wrap (r:= .tup [.sl 29 ⟨true,some true,true⟩ [],.int .i64 0]) (fun _=>rfl) (fun A w hG=>does15p ops ints strs rels hp hc A w hG (.inr ⟨hl,rfl⟩) (by rw[hl];exact .done _) (ev15k ops ints strs rels A)) (fun _=>rfl)) ?_
     simp[stepsE,hc,hl,one,wk_tup,wkL_cons,wkL_nil,wk_sl,wk_int,errF]
   | cons y l=>
     have hn:l.length < 2000000:=by
      have:(stepsW ops ints strs rels (workS ops ints rels).1 (workS ops ints rels).2 (workL ops)).length≤8 * 200000:=hlen
      rw[hl] at this;simp at this;omega
     obtain⟨s',hr⟩:=rounds15a ops ints strs rels y l hn
     refine Ret.weak (wrap (r:= .tup [.sl 29 gT (((y::l).map stepOf).map eStep),.int .i64 0]) (fun _=>rfl) (fun A w hG=>does15p ops ints strs rels hp hc A w hG (.inl ⟨s',by rw[hl];rfl⟩) (by rw[hl];exact hr) (ev15l ops ints strs rels ((y::l).map stepOf) s'.rule s'.at_ A)) (fun _=>?_)) ?_
     ·simp[hand.handL,hand,aget,obind,one]
     ·simp[stepsE,hc,hl,one,wk_tup,wkL_cons,wkL_nil,wk_sl,wk_int,errF]
noncomputable def c15:=famP (α:=(List XOp) × (List Int) × (List ByteArray) × (List XRel)) (fun (ops,ints,strs,rels)=>XIn ops ints strs rels) (fun (ops,ints,strs,rels)=>[(cd ops ints strs rels)]) (fun (ops,ints,strs,rels)=> .tup [.sl 29 gT ((stepsE ops ints strs rels).map eStep),.int .i64 (errF (checkF ops ints strs rels))])
theorem c15_eq (hp:XIn ops ints strs rels):c15 [(cd ops ints strs rels)]=some (.tup [.sl 29 gT ((stepsE ops ints strs rels).map eStep),.int .i64 (errF (checkF ops ints strs rels))]):=fam_eq (fun X Y hp hp' h'=>by
 obtain⟨ops,ints,strs,rels⟩:=X;obtain⟨ops',ints',strs',rels'⟩:=Y;simp only[INJ] at h'
 obtain⟨rfl,rfl,rfl,rfl⟩:=h'
 rfl) (ops,ints,strs,rels) hp
theorem snd15:Snd 15 c15:=fam_snd h15 rfl rfl fun (ops,ints,strs,rels) hp=>ret15 ops ints strs rels hp
theorem envZ_ty (Z:Nat→List Nat) (W:FuncId→Bool) (n K:Nat) (D:Nat→Option (List DH × List Nat)) (C:CK) (M:MK) (lo:Option Nat) (A L:Nat→Prop):(envZ Z W n K D C M lo A L).ty=ty:=rfl
theorem envZ_G (Z:Nat→List Nat) (W:FuncId→Bool) (n K:Nat) (D:Nat→Option (List DH × List Nat)) (C:CK) (M:MK) (lo:Option Nat) (A L:Nat→Prop):(envZ Z W n K D C M lo A L).G=G0:=rfl
theorem envZ_n (Z:Nat→List Nat) (W:FuncId→Bool) (n K:Nat) (D:Nat→Option (List DH × List Nat)) (C:CK) (M:MK) (lo:Option Nat) (A L:Nat→Prop):(envZ Z W n K D C M lo A L).n=n:=rfl
theorem envZ_K (Z:Nat→List Nat) (W:FuncId→Bool) (n K:Nat) (D:Nat→Option (List DH × List Nat)) (C:CK) (M:MK) (lo:Option Nat) (A L:Nat→Prop):(envZ Z W n K D C M lo A L).K=K:=rfl
theorem envZ_C (Z:Nat→List Nat) (W:FuncId→Bool) (n K:Nat) (D:Nat→Option (List DH × List Nat)) (C:CK) (M:MK) (lo:Option Nat) (A L:Nat→Prop):(envZ Z W n K D C M lo A L).C=(cOf C):=rfl
theorem envZ_D (Z:Nat→List Nat) (W:FuncId→Bool) (n K:Nat) (D:Nat→Option (List DH × List Nat)) (C:CK) (M:MK) (lo:Option Nat) (A L:Nat→Prop):(envZ Z W n K D C M lo A L).D=D:=rfl
theorem envZ_W (Z:Nat→List Nat) (W:FuncId→Bool) (n K:Nat) (D:Nat→Option (List DH × List Nat)) (C:CK) (M:MK) (lo:Option Nat) (A L:Nat→Prop):(envZ Z W n K D C M lo A L).W=W:=rfl
theorem envZ_M (Z:Nat→List Nat) (W:FuncId→Bool) (n K:Nat) (D:Nat→Option (List DH × List Nat)) (C:CK) (M:MK) (lo:Option Nat) (A L:Nat→Prop):(envZ Z W n K D C M lo A L).M=(mOf M):=rfl
theorem envZ_Q (Z:Nat→List Nat) (W:FuncId→Bool) (n K:Nat) (D:Nat→Option (List DH × List Nat)) (C:CK) (M:MK) (lo:Option Nat) (A L:Nat→Prop):(envZ Z W n K D C M lo A L).Q=freshF:=rfl
theorem envZ_Z (Z:Nat→List Nat) (W:FuncId→Bool) (n K:Nat) (D:Nat→Option (List DH × List Nat)) (C:CK) (M:MK) (lo:Option Nat) (A L:Nat→Prop):(envZ Z W n K D C M lo A L).Z=Z:=rfl
theorem h22:Tryz.prog.funcs[22]? = some f22:=by kernel_rfl
def D22:Nat→Option (List DH × List Nat):=fun i=>match i with | 11=>some ([⟨[],[],[]⟩,⟨[2],[],[]⟩,⟨[],[2],[]⟩,⟨[],[],[]⟩,⟨[],[],[]⟩],[]) | _=>none
theorem D22_11:D22 11=some ([⟨[],[],[]⟩,⟨[2],[],[]⟩,⟨[],[2],[]⟩,⟨[],[],[]⟩,⟨[],[],[]⟩],[]):=rfl
theorem ev22a (c:XCode) (A:Nat→Prop):arun (envX Z0 (fun _=>false) 29 3674623 D22 [(33,c33),(34,c34),(46,c46c)] [] A) H0 5 (subR (f22.body.getD .skip) [0]) ⟨[(0,(cd c.ops c.ints c.strs c.rels))],[]⟩=some (.norm,⟨[(4,.int .i64 0),(3,.sl 0 ⟨true,some true,true⟩ []),(2,.ptr 2 (.box 27) []),(1,.ptr 1 (.box 27) []),(0,(cd c.ops c.ints c.strs c.rels))],[(2,⟨.box 27,true,[.st 27 [.sl 80 ⟨true,some true,true⟩ [],.sl 2 ⟨true,some true,true⟩ [],.sl 9 ⟨true,some true,true⟩ [],.sl 90 ⟨true,some true,true⟩ []]]⟩),(1,⟨.box 27,false,[(cd c.ops c.ints c.strs c.rels)]⟩)]⟩):=by
 simp only[f22,subR,Option.getD_some]
 simp only[go_sem,simprocAttr,subR,Option.getD_some,D22_11]
 try rfl
theorem ev22f (c:XCode) (hp:XIn c.ops c.ints c.strs c.rels) (hc:checkF c.ops c.ints c.strs c.rels=false) (A:Nat→Prop):arun (envX Z0 (fun _=>false) 29 3674623 D22 [(33,c33),(34,c34),(46,c46c)] [] A) H0 5 (subR (f22.body.getD .skip) [1,0,0]) ⟨[(4,.int .i64 0),(3,.sl 0 ⟨true,some true,true⟩ []),(2,.ptr 2 (.box 27) []),(1,.ptr 1 (.box 27) []),(0,(cd c.ops c.ints c.strs c.rels))],[(2,⟨.box 27,true,[.st 27 [.sl 80 ⟨true,some true,true⟩ [],.sl 2 ⟨true,some true,true⟩ [],.sl 9 ⟨true,some true,true⟩ [],.sl 90 ⟨true,some true,true⟩ []]]⟩),(1,⟨.box 27,false,[(cd c.ops c.ints c.strs c.rels)]⟩)]⟩=some (.ret,⟨[(4,.int .i64 150),(3,.sl 0 ⟨true,some true,true⟩ []),(12,.bool true),(5,.int .i64 150),(2,.ptr 2 (.box 27) []),(1,.ptr 1 (.box 27) []),(0,(cd c.ops c.ints c.strs c.rels))],[(2,⟨.box 27,true,[.st 27 [.sl 80 ⟨true,some true,true⟩ [],.sl 2 ⟨true,some true,true⟩ [],.sl 9 ⟨true,some true,true⟩ [],.sl 90 ⟨true,some true,true⟩ []]]⟩),(1,⟨.box 27,false,[(cd c.ops c.ints c.strs c.rels)]⟩)]⟩):=by
 simp only[f22,subR,Option.getD_some]
 have e33:=c33_eq c.ops c.ints c.strs c.rels ⟨hp.lim,hp.str⟩
 rw[hc] at e33
 simp only[errF,BL] at e33
 simp only[go_sem,simprocAttr,subR,Option.getD_some,D22_11,e33]
 try rfl
theorem ev22b (c:XCode) (hp:XIn c.ops c.ints c.strs c.rels) (hc:checkF c.ops c.ints c.strs c.rels=true) (A:Nat→Prop):arun (envX Z0 (fun _=>false) 29 3674623 D22 [(33,c33),(34,c34),(46,c46c)] [] A) H0 5 (subR (f22.body.getD .skip) [1,0,0]) ⟨[(4,.int .i64 0),(3,.sl 0 ⟨true,some true,true⟩ []),(2,.ptr 2 (.box 27) []),(1,.ptr 1 (.box 27) []),(0,(cd c.ops c.ints c.strs c.rels))],[(2,⟨.box 27,true,[.st 27 [.sl 80 ⟨true,some true,true⟩ [],.sl 2 ⟨true,some true,true⟩ [],.sl 9 ⟨true,some true,true⟩ [],.sl 90 ⟨true,some true,true⟩ []]]⟩),(1,⟨.box 27,false,[(cd c.ops c.ints c.strs c.rels)]⟩)]⟩=some (.norm,⟨[(12,.bool false),(5,.int .i64 0),(4,.int .i64 0),(3,.sl 0 ⟨true,some true,true⟩ []),(2,.ptr 2 (.box 27) []),(1,.ptr 1 (.box 27) []),(0,(cd c.ops c.ints c.strs c.rels))],[(2,⟨.box 27,true,[.st 27 [.sl 80 ⟨true,some true,true⟩ [],.sl 2 ⟨true,some true,true⟩ [],.sl 9 ⟨true,some true,true⟩ [],.sl 90 ⟨true,some true,true⟩ []]]⟩),(1,⟨.box 27,false,[(cd c.ops c.ints c.strs c.rels)]⟩)]⟩):=by
 simp only[f22,subR,Option.getD_some]
 have e33:=c33_eq c.ops c.ints c.strs c.rels ⟨hp.lim,hp.str⟩
 rw[hc] at e33
 simp only[errF,BL] at e33
 simp only[go_sem,simprocAttr,subR,Option.getD_some,D22_11,e33]
 try rfl
theorem ev22c (c:XCode) (A:Nat→Prop):arun (envX Z0 (fun _=>false) 29 3674623 D22 [(33,c33),(34,c34),(46,c46c)] [] A) H0 5 (subR (f22.body.getD .skip) [1,0,1,0]) ⟨[(12,.bool false),(5,.int .i64 0),(4,.int .i64 0),(3,.sl 0 ⟨true,some true,true⟩ []),(2,.ptr 2 (.box 27) []),(1,.ptr 1 (.box 27) []),(0,(cd c.ops c.ints c.strs c.rels))],[(2,⟨.box 27,true,[.st 27 [.sl 80 ⟨true,some true,true⟩ [],.sl 2 ⟨true,some true,true⟩ [],.sl 9 ⟨true,some true,true⟩ [],.sl 90 ⟨true,some true,true⟩ []]]⟩),(1,⟨.box 27,false,[(cd c.ops c.ints c.strs c.rels)]⟩)]⟩=some (.norm,⟨[(6,.ptr 6 (.box 42) []),(12,.bool false),(5,.int .i64 0),(4,.int .i64 0),(3,.sl 0 ⟨true,some true,true⟩ []),(2,.ptr 2 (.box 27) []),(1,.ptr 1 (.box 27) []),(0,(cd c.ops c.ints c.strs c.rels))],[(6,⟨.box 42,true,[.sl 29 ⟨true,some true,true⟩ []]⟩),(2,⟨.box 27,true,[.st 27 [.sl 80 ⟨true,some true,true⟩ [],.sl 2 ⟨true,some true,true⟩ [],.sl 9 ⟨true,some true,true⟩ [],.sl 90 ⟨true,some true,true⟩ []]]⟩),(1,⟨.box 27,false,[(cd c.ops c.ints c.strs c.rels)]⟩)]⟩):=by
 simp only[f22,subR,Option.getD_some]
 simp only[go_sem,simprocAttr,subR,Option.getD_some,D22_11]
 try rfl
theorem ev22d (c:XCode) (hp:XIn c.ops c.ints c.strs c.rels) (A:Nat→Prop):arun (envX Z0 (fun _=>false) 29 3674623 D22 [(33,c33),(34,c34),(46,c46c)] [] A) H0 5 (subR (f22.body.getD .skip) [1,0,1,1,0]) ⟨[(6,.ptr 6 (.box 42) []),(12,.bool false),(5,.int .i64 0),(4,.int .i64 0),(3,.sl 0 ⟨true,some true,true⟩ []),(2,.ptr 2 (.box 27) []),(1,.ptr 1 (.box 27) []),(0,(cd c.ops c.ints c.strs c.rels))],[(6,⟨.box 42,true,[.sl 29 ⟨true,some true,true⟩ []]⟩),(2,⟨.box 27,true,[.st 27 [.sl 80 ⟨true,some true,true⟩ [],.sl 2 ⟨true,some true,true⟩ [],.sl 9 ⟨true,some true,true⟩ [],.sl 90 ⟨true,some true,true⟩ []]]⟩),(1,⟨.box 27,false,[(cd c.ops c.ints c.strs c.rels)]⟩)]⟩=some (.norm,⟨[(6,.ptr 6 (.box 42) []),(12,.bool false),(5,.int .i64 0),(4,.int .i64 0),(3,.sl 0 ⟨true,some true,true⟩ []),(2,.ptr 2 (.box 27) []),(1,.ptr 1 (.box 27) []),(0,(cd c.ops c.ints c.strs c.rels))],[(1,⟨.box 27,false,[(cd c.ops c.ints c.strs c.rels)]⟩),(6,⟨.box 42,true,[.sl 29 ⟨true,some true,true⟩ []]⟩),(2,⟨.box 27,true,[.st 27 [.sl 80 ⟨true,some true,true⟩ [],.sl 2 ⟨true,some true,true⟩ [],.sl 9 ⟨true,some true,true⟩ [],.sl 90 ⟨true,some true,true⟩ []]]⟩)]⟩):=by
 simp only[f22,subR,Option.getD_some]
 have e46:=c46c_eq c.ops c.ints c.strs c.rels hp.lim
 simp only[go_sem,simprocAttr,subR,Option.getD_some,D22_11,e46]
 try rfl
noncomputable def ops22:Array Oper:=match subR (f22.body.getD .skip) [1,0,1,1,1,1,0,0,0,0,0,0] with | .region _ ops _=>ops | _=>#[]
theorem ev22g (c:XCode) (hp:XIn c.ops c.ints c.strs c.rels) (hc:checkF c.ops c.ints c.strs c.rels=true)  (A:Nat→Prop):aopsM (envX Z0 (fun _=>false) 29 3674623 D22 [(33,c33),(34,c34),(46,c46c)] [] A) ops22.toList (ops22.toList.take 2) ⟨[(1,.ptr 1 (.box 27) []),(2,.ptr 2 (.box 27) []),(6,.ptr 6 (.box 42) [])],[(6,⟨.box 42,true,[.sl 29 ⟨true,some true,true⟩ []]⟩),(1,⟨.box 27,false,[(cd c.ops c.ints c.strs c.rels)]⟩),(2,⟨.box 27,true,[.st 27 [.sl 80 ⟨true,some true,true⟩ [],.sl 2 ⟨true,some true,true⟩ [],.sl 9 ⟨true,some true,true⟩ [],.sl 90 ⟨true,some true,true⟩ []]]⟩)]⟩=some ⟨[(18,.ro false 106 (.st 106 [(cd c.ops c.ints c.strs c.rels),.sl 119 gT ((workS c.ops c.ints c.rels).1.map eFacts),.sl 4 gT ((workS c.ops c.ints c.rels).2.map eB),.sl 109 gT ((workL c.ops).map eU)])),(17,(cd c.ops c.ints c.strs c.rels)),(1,.ptr 1 (.box 27) []),(2,.ptr 2 (.box 27) []),(6,.ptr 6 (.box 42) [])],[(6,⟨.box 42,true,[.sl 29 ⟨true,some true,true⟩ []]⟩),(1,⟨.box 27,false,[(cd c.ops c.ints c.strs c.rels)]⟩),(2,⟨.box 27,true,[.st 27 [.sl 80 ⟨true,some true,true⟩ [],.sl 2 ⟨true,some true,true⟩ [],.sl 9 ⟨true,some true,true⟩ [],.sl 90 ⟨true,some true,true⟩ []]]⟩)]⟩:=by
 have e34:=c34_eq c.ops c.ints c.strs c.rels ⟨⟨hp.lim,hp.str⟩,hc⟩
 simp only[ops22,f22,subR,Option.getD_some,List.take_succ_cons,List.take_zero]
 simp only[go_sem,simprocAttr,subR,Option.getD_some,D22_11,e34]
 try rfl
theorem ev22h (c:XCode) (hp:XIn c.ops c.ints c.strs c.rels) (hc:checkF c.ops c.ints c.strs c.rels=true) (xs:List XStep) (A:Nat→Prop):aopsM (envX Z0 (fun _=>false) 29 3674623 D22 [(33,c33),(34,c34),(46,c46c)] [] A) ops22.toList (ops22.toList.take 2) ⟨[(1,.ptr 1 (.box 27) []),(2,.ptr 2 (.box 27) []),(6,.ptr 6 (.box 42) [])],[(6,⟨.box 42,true,[.own 27 29 0 xs.length]⟩),(27,⟨.row 29,true,xs.map eStep⟩),(1,⟨.box 27,false,[(cd c.ops c.ints c.strs c.rels)]⟩),(2,⟨.box 27,true,[.st 27 [.sl 80 ⟨true,some true,true⟩ [],.sl 2 ⟨true,some true,true⟩ [],.sl 9 ⟨true,some true,true⟩ [],.sl 90 ⟨true,some true,true⟩ []]]⟩)]⟩=some ⟨[(18,.ro false 106 (.st 106 [(cd c.ops c.ints c.strs c.rels),.sl 119 gT ((workS c.ops c.ints c.rels).1.map eFacts),.sl 4 gT ((workS c.ops c.ints c.rels).2.map eB),.sl 109 gT ((workL c.ops).map eU)])),(17,(cd c.ops c.ints c.strs c.rels)),(1,.ptr 1 (.box 27) []),(2,.ptr 2 (.box 27) []),(6,.ptr 6 (.box 42) [])],[(6,⟨.box 42,true,[.own 27 29 0 xs.length]⟩),(27,⟨.row 29,true,xs.map eStep⟩),(1,⟨.box 27,false,[(cd c.ops c.ints c.strs c.rels)]⟩),(2,⟨.box 27,true,[.st 27 [.sl 80 ⟨true,some true,true⟩ [],.sl 2 ⟨true,some true,true⟩ [],.sl 9 ⟨true,some true,true⟩ [],.sl 90 ⟨true,some true,true⟩ []]]⟩)]⟩:=by
 have e34:=c34_eq c.ops c.ints c.strs c.rels ⟨⟨hp.lim,hp.str⟩,hc⟩
 simp only[ops22,f22,subR,Option.getD_some,List.take_succ_cons,List.take_zero]
 simp only[go_sem,simprocAttr,subR,Option.getD_some,D22_11,e34]
 try rfl
theorem ev22i (c d:XCode) (r q:Int) (lo:Option Nat) (A L:Nat→Prop):arun (envZ Z0 (fun _=>false) 29 3674623 D22 [(33,c33),(34,c34),(46,c46c)] [] lo A L) H0 5 (subR (f22.body.getD .skip) [1,0,1,1,1,1,0,0,0,0,0,1,0,0]) ⟨[(21,(cd d.ops d.ints d.strs d.rels)),(20,.st 29 [.int .i64 r,.int .i64 q]),(1,.ptr 1 (.box 27) []),(2,.ptr 2 (.box 27) []),(6,.ptr 6 (.box 42) [])],[(6,⟨.box 42,true,[.sl 29 ⟨true,some true,true⟩ []]⟩),(1,⟨.box 27,false,[(cd c.ops c.ints c.strs c.rels)]⟩),(2,⟨.box 27,true,[.st 27 [.sl 80 ⟨true,some true,true⟩ [],.sl 2 ⟨true,some true,true⟩ [],.sl 9 ⟨true,some true,true⟩ [],.sl 90 ⟨true,some true,true⟩ []]]⟩)]⟩=some (.norm,⟨[(8,.ptr 8 (.box 27) []),(7,.ptr 7 (.box 29) []),(21,(cd d.ops d.ints d.strs d.rels)),(20,.st 29 [.int .i64 r,.int .i64 q]),(1,.ptr 1 (.box 27) []),(2,.ptr 2 (.box 27) []),(6,.ptr 6 (.box 42) [])],[(8,⟨.box 27,false,[(cd d.ops d.ints d.strs d.rels)]⟩),(7,⟨.box 29,true,[.st 29 [.int .i64 r,.int .i64 q]]⟩),(6,⟨.box 42,true,[.sl 29 ⟨true,some true,true⟩ []]⟩),(1,⟨.box 27,false,[(cd c.ops c.ints c.strs c.rels)]⟩),(2,⟨.box 27,true,[.st 27 [.sl 80 ⟨true,some true,true⟩ [],.sl 2 ⟨true,some true,true⟩ [],.sl 9 ⟨true,some true,true⟩ [],.sl 90 ⟨true,some true,true⟩ []]]⟩)]⟩):=by
 simp only[f22,subR,Option.getD_some]
 simp only[go_sem,simprocAttr,subR,Option.getD_some,D22_11,envZ_ty,envZ_G,envZ_n,envZ_K,envZ_C,envZ_D,envZ_W,envZ_M,envZ_Q,envZ_Z]
 try rfl
theorem ev22j (c d:XCode) (r q:Int) (xs:List XStep) (lo:Option Nat) (A L:Nat→Prop):arun (envZ Z0 (fun _=>false) 29 3674623 D22 [(33,c33),(34,c34),(46,c46c)] [] lo A L) H0 5 (subR (f22.body.getD .skip) [1,0,1,1,1,1,0,0,0,0,0,1,0,0]) ⟨[(21,(cd d.ops d.ints d.strs d.rels)),(20,.st 29 [.int .i64 r,.int .i64 q]),(1,.ptr 1 (.box 27) []),(2,.ptr 2 (.box 27) []),(6,.ptr 6 (.box 42) [])],[(6,⟨.box 42,true,[.own 27 29 0 xs.length]⟩),(27,⟨.row 29,true,xs.map eStep⟩),(1,⟨.box 27,false,[(cd c.ops c.ints c.strs c.rels)]⟩),(2,⟨.box 27,true,[.st 27 [.sl 80 ⟨true,some true,true⟩ [],.sl 2 ⟨true,some true,true⟩ [],.sl 9 ⟨true,some true,true⟩ [],.sl 90 ⟨true,some true,true⟩ []]]⟩)]⟩=some (.norm,⟨[(8,.ptr 8 (.box 27) []),(7,.ptr 7 (.box 29) []),(21,(cd d.ops d.ints d.strs d.rels)),(20,.st 29 [.int .i64 r,.int .i64 q]),(1,.ptr 1 (.box 27) []),(2,.ptr 2 (.box 27) []),(6,.ptr 6 (.box 42) [])],[(8,⟨.box 27,false,[(cd d.ops d.ints d.strs d.rels)]⟩),(7,⟨.box 29,true,[.st 29 [.int .i64 r,.int .i64 q]]⟩),(6,⟨.box 42,true,[.own 27 29 0 xs.length]⟩),(27,⟨.row 29,true,xs.map eStep⟩),(1,⟨.box 27,false,[(cd c.ops c.ints c.strs c.rels)]⟩),(2,⟨.box 27,true,[.st 27 [.sl 80 ⟨true,some true,true⟩ [],.sl 2 ⟨true,some true,true⟩ [],.sl 9 ⟨true,some true,true⟩ [],.sl 90 ⟨true,some true,true⟩ []]]⟩)]⟩):=by
 simp only[f22,subR,Option.getD_some]
 simp only[go_sem,simprocAttr,subR,Option.getD_some,D22_11,envZ_ty,envZ_G,envZ_n,envZ_K,envZ_C,envZ_D,envZ_W,envZ_M,envZ_Q,envZ_Z]
 try rfl
theorem ev22k (c d:XCode) (r q:Int) (lo:Option Nat) (A L:Nat→Prop):arun (envZ Z0 (fun _=>false) 29 3674623 D22 [(33,c33),(34,c34),(46,c46c)] [] lo A L) H0 5 (subR (f22.body.getD .skip) [1,0,1,1,1,1,0,0,0,0,0,1,0,1]) ⟨[(8,.ptr 8 (.box 27) []),(7,.ptr 7 (.box 29) []),(21,(cd d.ops d.ints d.strs d.rels)),(20,.st 29 [.int .i64 r,.int .i64 q]),(1,.ptr 1 (.box 27) []),(2,.ptr 2 (.box 27) []),(6,.ptr 6 (.box 42) [])],[(8,⟨.box 27,false,[(cd d.ops d.ints d.strs d.rels)]⟩),(7,⟨.box 29,true,[.st 29 [.int .i64 r,.int .i64 q]]⟩),(6,⟨.box 42,true,[.sl 29 ⟨true,some true,true⟩ []]⟩),(1,⟨.box 27,false,[(cd c.ops c.ints c.strs c.rels)]⟩),(2,⟨.box 27,true,[.st 27 [.sl 80 ⟨true,some true,true⟩ [],.sl 2 ⟨true,some true,true⟩ [],.sl 9 ⟨true,some true,true⟩ [],.sl 90 ⟨true,some true,true⟩ []]]⟩)]⟩=some (.exit 1,⟨[(8,.ptr 8 (.box 27) []),(7,.ptr 7 (.box 29) []),(21,(cd d.ops d.ints d.strs d.rels)),(20,.st 29 [.int .i64 r,.int .i64 q]),(1,.ptr 1 (.box 27) []),(2,.ptr 2 (.box 27) []),(6,.ptr 6 (.box 42) [])],[(6,⟨.box 42,true,[.own 26 29 0 1]⟩),(26,⟨.row 29,true,[.st 29 [.int .i64 r,.int .i64 q]]⟩),(25,⟨.row 29,true,[.st 29 [.int .i64 r,.int .i64 q]]⟩),(1,⟨.box 27,false,[(cd d.ops d.ints d.strs d.rels)]⟩),(8,⟨.box 27,false,[(cd d.ops d.ints d.strs d.rels)]⟩),(7,⟨.box 29,true,[.st 29 [.int .i64 r,.int .i64 q]]⟩),(2,⟨.box 27,true,[.st 27 [.sl 80 ⟨true,some true,true⟩ [],.sl 2 ⟨true,some true,true⟩ [],.sl 9 ⟨true,some true,true⟩ [],.sl 90 ⟨true,some true,true⟩ []]]⟩)]⟩):=by
 simp only[f22,subR,Option.getD_some]
 simp only[go_sem,simprocAttr,subR,Option.getD_some,D22_11,envZ_ty,envZ_G,envZ_n,envZ_K,envZ_C,envZ_D,envZ_W,envZ_M,envZ_Q,envZ_Z]
 try rfl
theorem ev22l (c d:XCode) (r q:Int) (xs:List XStep) (hx:xs.length < 10000000) (lo:Option Nat) (A L:Nat→Prop):arun (envZ Z0 (fun _=>false) 29 3674623 D22 [(33,c33),(34,c34),(46,c46c)] [] lo A L) H0 5 (subR (f22.body.getD .skip) [1,0,1,1,1,1,0,0,0,0,0,1,0,1]) ⟨[(8,.ptr 8 (.box 27) []),(7,.ptr 7 (.box 29) []),(21,(cd d.ops d.ints d.strs d.rels)),(20,.st 29 [.int .i64 r,.int .i64 q]),(1,.ptr 1 (.box 27) []),(2,.ptr 2 (.box 27) []),(6,.ptr 6 (.box 42) [])],[(8,⟨.box 27,false,[(cd d.ops d.ints d.strs d.rels)]⟩),(7,⟨.box 29,true,[.st 29 [.int .i64 r,.int .i64 q]]⟩),(6,⟨.box 42,true,[.own 27 29 0 xs.length]⟩),(27,⟨.row 29,true,xs.map eStep⟩),(1,⟨.box 27,false,[(cd c.ops c.ints c.strs c.rels)]⟩),(2,⟨.box 27,true,[.st 27 [.sl 80 ⟨true,some true,true⟩ [],.sl 2 ⟨true,some true,true⟩ [],.sl 9 ⟨true,some true,true⟩ [],.sl 90 ⟨true,some true,true⟩ []]]⟩)]⟩=some (.exit 1,⟨[(8,.ptr 8 (.box 27) []),(7,.ptr 7 (.box 29) []),(21,(cd d.ops d.ints d.strs d.rels)),(20,.st 29 [.int .i64 r,.int .i64 q]),(1,.ptr 1 (.box 27) []),(2,.ptr 2 (.box 27) []),(6,.ptr 6 (.box 42) [])],[(6,⟨.box 42,true,[.own 26 29 0 (xs.length+1)]⟩),(26,⟨.row 29,true,(xs.map eStep++[.st 29 [.int .i64 r,.int .i64 q]])⟩),(25,⟨.row 29,true,[.st 29 [.int .i64 r,.int .i64 q]]⟩),(1,⟨.box 27,false,[(cd d.ops d.ints d.strs d.rels)]⟩),(8,⟨.box 27,false,[(cd d.ops d.ints d.strs d.rels)]⟩),(7,⟨.box 29,true,[.st 29 [.int .i64 r,.int .i64 q]]⟩),(2,⟨.box 27,true,[.st 27 [.sl 80 ⟨true,some true,true⟩ [],.sl 2 ⟨true,some true,true⟩ [],.sl 9 ⟨true,some true,true⟩ [],.sl 90 ⟨true,some true,true⟩ []]]⟩)]⟩):=by
 simp only[f22,subR,Option.getD_some]
 have hroom:((xs.length+1) * 16≤140737488355328)=True:=by simp;omega
 have hlen:(xs.length≤140737488355327)=True:=by simp;omega
 simp only[go_sem,simprocAttr,subR,Option.getD_some,D22_11,envZ_ty,envZ_G,envZ_n,envZ_K,envZ_C,envZ_D,envZ_W,envZ_M,envZ_Q,envZ_Z,hroom,hlen]
 try rfl
theorem ev22y (c:XCode) (A:Nat→Prop):arun (envX Z0 (fun _=>false) 29 3674623 D22 [(33,c33),(34,c34),(46,c46c)] [] A) H0 5 (subR (f22.body.getD .skip) [1,0,1,1,1,1,1]) ⟨[(1,.ptr 1 (.box 27) []),(2,.ptr 2 (.box 27) []),(6,.ptr 6 (.box 42) [])],[(6,⟨.box 42,true,[.sl 29 ⟨true,some true,true⟩ []]⟩),(1,⟨.box 27,false,[(cd c.ops c.ints c.strs c.rels)]⟩),(2,⟨.box 27,true,[.st 27 [.sl 80 ⟨true,some true,true⟩ [],.sl 2 ⟨true,some true,true⟩ [],.sl 9 ⟨true,some true,true⟩ [],.sl 90 ⟨true,some true,true⟩ []]]⟩)]⟩=some (.ret,⟨[(4,.int .i64 0),(3,.sl 29 ⟨true,some true,true⟩ []),(1,.ptr 1 (.box 27) []),(2,.ptr 2 (.box 27) []),(6,.ptr 6 (.box 42) [])],[(2,⟨.box 27,false,[(cd c.ops c.ints c.strs c.rels)]⟩),(6,⟨.box 42,true,[.sl 29 ⟨true,some true,true⟩ []]⟩),(1,⟨.box 27,false,[(cd c.ops c.ints c.strs c.rels)]⟩)]⟩):=by
 simp only[f22,subR,Option.getD_some]
 simp only[go_sem,simprocAttr,subR,Option.getD_some,D22_11]
 try rfl
theorem ev22z (c:XCode) (xs:List XStep) (A:Nat→Prop):arun (envX Z0 (fun _=>false) 29 3674623 D22 [(33,c33),(34,c34),(46,c46c)] [] A) H0 5 (subR (f22.body.getD .skip) [1,0,1,1,1,1,1]) ⟨[(1,.ptr 1 (.box 27) []),(2,.ptr 2 (.box 27) []),(6,.ptr 6 (.box 42) [])],[(6,⟨.box 42,true,[.own 27 29 0 xs.length]⟩),(27,⟨.row 29,true,xs.map eStep⟩),(1,⟨.box 27,false,[(cd c.ops c.ints c.strs c.rels)]⟩),(2,⟨.box 27,true,[.st 27 [.sl 80 ⟨true,some true,true⟩ [],.sl 2 ⟨true,some true,true⟩ [],.sl 9 ⟨true,some true,true⟩ [],.sl 90 ⟨true,some true,true⟩ []]]⟩)]⟩=some (.ret,⟨[(4,.int .i64 0),(3,.own 27 29 0 xs.length),(1,.ptr 1 (.box 27) []),(2,.ptr 2 (.box 27) []),(6,.ptr 6 (.box 42) [])],[(2,⟨.box 27,false,[(cd c.ops c.ints c.strs c.rels)]⟩),(6,⟨.box 42,true,[.own 27 29 0 xs.length]⟩),(27,⟨.row 29,true,xs.map eStep⟩),(1,⟨.box 27,false,[(cd c.ops c.ints c.strs c.rels)]⟩)]⟩):=by
 simp only[f22,subR,Option.getD_some]
 simp only[go_sem,simprocAttr,subR,Option.getD_some,D22_11]
 try rfl
noncomputable abbrev E22 (A:Nat→Prop):Env:=envX Z0 (fun _=>false) 29 3674623 D22 [(33,c33),(34,c34),(46,c46c)] [] A
noncomputable abbrev P22 (p:List Nat):Code:=subR (f22.body.getD .skip) p
def obA (c:XCode):List (Nat × Abs.Obj):=[(6,⟨.box 42,true,[.sl 29 ⟨true,some true,true⟩ []]⟩),(1,⟨.box 27,false,[(cd c.ops c.ints c.strs c.rels)]⟩),(2,⟨.box 27,true,[.st 27 [.sl 80 ⟨true,some true,true⟩ [],.sl 2 ⟨true,some true,true⟩ [],.sl 9 ⟨true,some true,true⟩ [],.sl 90 ⟨true,some true,true⟩ []]]⟩)]
def obX (c:XCode) (xs:List XStep):List (Nat × Abs.Obj):=if xs=[] then obA c else [(6,⟨.box 42,true,[.own 27 29 0 xs.length]⟩),(27,⟨.row 29,true,xs.map eStep⟩),(1,⟨.box 27,false,[(cd c.ops c.ints c.strs c.rels)]⟩),(2,⟨.box 27,true,[.st 27 [.sl 80 ⟨true,some true,true⟩ [],.sl 2 ⟨true,some true,true⟩ [],.sl 9 ⟨true,some true,true⟩ [],.sl 90 ⟨true,some true,true⟩ []]]⟩)]
def ob26 (d:XCode) (xs:List XStep) (s:XStep):List (Nat × Abs.Obj):=[(6,⟨.box 42,true,[.own 26 29 0 xs.length]⟩),(26,⟨.row 29,true,(xs.map eStep)⟩),(25,⟨.row 29,true,[eStep s]⟩),(1,⟨.box 27,false,[(cd d.ops d.ints d.strs d.rels)]⟩),(8,⟨.box 27,false,[(cd d.ops d.ints d.strs d.rels)]⟩),(7,⟨.box 29,true,[eStep s]⟩),(2,⟨.box 27,true,[.st 27 [.sl 80 ⟨true,some true,true⟩ [],.sl 2 ⟨true,some true,true⟩ [],.sl 9 ⟨true,some true,true⟩ [],.sl 90 ⟨true,some true,true⟩ []]]⟩)]
theorem ren22 (d:XCode) (xs:List XStep) (s:XStep) (hx:xs ≠ []) (E:Env) (w0:World) {P:Program} {c:Code} {σ:St} {e:AX} (h:Does P E w0 c σ e ⟨[(1,.ptr 1 (.box 27) []),(2,.ptr 2 (.box 27) []),(6,.ptr 6 (.box 42) [])],ob26 d xs s⟩):Does P E w0 c σ e ⟨[(1,.ptr 1 (.box 27) []),(2,.ptr 2 (.box 27) []),(6,.ptr 6 (.box 42) [])],obX d xs⟩:=by
 refine (h.ren (ob2:=aput 6 ⟨.box 42,true,[.own 27 29 0 xs.length]⟩ (aput 27 ⟨.row 29,true,xs.map eStep⟩ (adel 26 (ob26 d xs s)))) fun a w β hS=>hS.boxmove (p:=6) (o:=26) (c:=27) (t:=29) (n:=xs.length) rfl rfl (by simp[St.free,St.free.freeT,St.free.freeO,ob26,ment,ment.mentL,eStep]) (by decide) (by decide) (by decide)).less (fun _ _ h=>h) fun o b hb=>?_
 unfold obX at hb
 rw[if_neg hx] at hb
 rw[aget_aput,aget_aput,aget_adel]
 by_cases h6:6=o
 ·subst h6;simpa[aget] using hb
 by_cases h27:27=o
 ·subst h27;simpa[aget] using hb
 by_cases h1:1=o
 ·subst h1;simpa[aget,ob26] using hb
 by_cases h2:2=o
 ·subst h2;simpa[aget,ob26] using hb
 ·simp[aget,h6,h27,h1,h2] at hb
theorem st22:(straight [1,2,6] (P22 [1,0,1,1,1,1,0,0,0,0,0,1,0,0])&&straight [1,2,6] (P22 [1,0,1,1,1,1,0,0,0,0,0,1,0,1]))=true:=by kernel_rfl
theorem ops22_q:ops22.size=2+1∧((ops22.toList.take 2).all fun o=>noDefer o.op&&(match o.dst with | some t=> !([]:List Nat).contains t | none=>true))=true:=⟨by kernel_rfl,by kernel_rfl⟩
theorem ops22_o:∃ o c,ops22[2]? = some o∧o.guard=none∧o.op = .call c∧o.dst=some 19∧(∃ g,c.callee = .value g∧∀ a:Act,a.eval g = .func (.func 37) #[] #[])∧c.args.toList=[.tmp 18]:=⟨_,_,rfl,rfl,rfl,rfl,⟨_,rfl,fun _=>rfl⟩,rfl⟩
theorem cs22 (A:Nat→Prop):CSound Tryz.prog (E22 A):=csndX (C:=[(33,c33),(34,c34),(46,c46c)]) (M:=[]) ⟨snd33,snd34,snd46c,trivial⟩ trivial
theorem dr22 (A:Nat→Prop):∀ c,certs (E22 A).Q (E22 A).D (fun i=>match i with | 11=>[0,0,1,7,15] | _=>[]) c=true→Draws Tryz.prog (E22 A) c:=fun c h=>draws_of tabs (cs22 A) hm (fun i=>match i with | 11=>[0,0,1,7,15] | _=>[]) c h
theorem dq22 (A:Nat→Prop):Draws Tryz.prog (E22 A) (P22 [0])∧Draws Tryz.prog (E22 A) (P22 [1,0,0])∧Draws Tryz.prog (E22 A) (P22 [1,0,1,0])∧Draws Tryz.prog (E22 A) (P22 [1,0,1,1,0])∧Draws Tryz.prog (E22 A) (P22 [1,0,1,1,1,1,1]):=
 ⟨dr22 A _ (by kernel_rfl),dr22 A _ (by kernel_rfl),dr22 A _ (by kernel_rfl),dr22 A _ (by kernel_rfl),dr22 A _ (by kernel_rfl)⟩
theorem body22:∃ id,f22.body=some (.seq (P22 [0]) (.scope (.seq (P22 [1,0,0]) (.seq (P22 [1,0,1,0]) (.seq (P22 [1,0,1,1,0]) (.seq (.label 0) (.seq (.block 0 (.loop (.block 1 (.seq (.seq (.region id ops22 false) (.block 2 (.rangeFunc (.tmp 19) #[20,21] (P22 [1,0,1,1,1,1,0,0,0,0,0,1,0,0]) (P22 [1,0,1,1,1,1,0,0,0,0,0,1,0,1])))) (.exit 0))))) (P22 [1,0,1,1,1,1,1])))))))):=⟨_,rfl⟩
def stepsC (c:XCode):List (Int × Int × XCode):=stepsW c.ops c.ints c.strs c.rels (workS c.ops c.ints c.rels).1 (workS c.ops c.ints c.rels).2 (workL c.ops)
def runN:Nat→XCode→Option (XCode × List XStep)
 | 0,_=>none
 | n+1,c=>match stepsC c with
   | []=>some (c,[])
   | y::_=>(runN n y.2.2).map fun p=>(p.1,stepOf y::p.2)
theorem stepsQ_mem {ap:Int→Option XCode} {r:Int}:∀ {m:Nat} {q:Int} {y:Int × Int × XCode},y ∈ stepsQ ap r m q→y.1=r∧ap y.2.1=some y.2.2
 | 0,q,y,h=>by simp[stepsQ] at h
 | m+1,q,y,h=>by
   simp only[stepsQ,List.mem_append] at h
   rcases h with h | h
   ·split at h
    ·rename_i c hc
     simp at h;subst h;exact⟨rfl,hc⟩
    ·simp at h
   ·exact stepsQ_mem h
theorem stepsR_mem {ap:Int→Int→Option XCode} {pl:Int→Int}:∀ {m:Nat} {r:Int} {y:Int × Int × XCode},y ∈ stepsR ap pl m r→ap y.1 y.2.1=some y.2.2
 | 0,r,y,h=>by simp[stepsR] at h
 | m+1,r,y,h=>by
   simp only[stepsR,List.mem_append] at h
   rcases h with h | h
   ·obtain⟨h1,h2⟩:=stepsQ_mem h
    rw[h1];exact h2
   ·exact stepsR_mem h
theorem stepsC_in {c:XCode} (hin:XIn c.ops c.ints c.strs c.rels) (hc:checkC c=true) {y:Int × Int × XCode} {r:List (Int × Int × XCode)} (h:stepsC c=y::r):XIn y.2.2.ops y.2.2.ints y.2.2.strs y.2.2.rels∧checkC y.2.2=true:=by
 have hm:y ∈ stepsC c:=by rw[h];simp
 exact apply_in (work_xa hin hc) hin (stepsR_mem hm)
theorem does22r (c:XCode) (hp:XIn c.ops c.ints c.strs c.rels) (hc:checkC c=true) (A:Nat→Prop) (w:World) (hG:GlobOk (E22 A) w) {ob ob':List (Nat × Abs.Obj)} {e:AX} (he:e ≠ .exit 2) {id:Nat}
 (h1:aopsM (E22 A) ops22.toList (ops22.toList.take 2) ⟨[(1,.ptr 1 (.box 27) []),(2,.ptr 2 (.box 27) []),(6,.ptr 6 (.box 42) [])],ob⟩=some ⟨(18,.ro false 106 (.st 106 [(cd c.ops c.ints c.strs c.rels),.sl 119 gT ((workS c.ops c.ints c.rels).1.map eFacts),.sl 4 gT ((workS c.ops c.ints c.rels).2.map eB),.sl 109 gT ((workL c.ops).map eU)]))::(17,(cd c.ops c.ints c.strs c.rels))::[(1,.ptr 1 (.box 27) []),(2,.ptr 2 (.box 27) []),(6,.ptr 6 (.box 42) [])],ob⟩)
 (hr:Rounds (fun _ _=>False) (fun c σ r=>∀ A lo L,arun { E22 A with okA:=A,lo:=lo,lent:=L } H0 5 c σ=some r) [20,21] (P22 [1,0,1,1,1,1,0,0,0,0,0,1,0,0]) (P22 [1,0,1,1,1,1,0,0,0,0,0,1,0,1]) [1,2,6] [(1,.ptr 1 (.box 27) []),(2,.ptr 2 (.box 27) []),(6,.ptr 6 (.box 42) [])] ((stepsC c).map encS) ob e ob') :
 Does Tryz.prog (E22 A) w (.seq (.region id ops22 false) (.block 2 (.rangeFunc (.tmp 19) #[20,21] (P22 [1,0,1,1,1,1,0,0,0,0,0,1,0,0]) (P22 [1,0,1,1,1,1,0,0,0,0,0,1,0,1])))) ⟨[(1,.ptr 1 (.box 27) []),(2,.ptr 2 (.box 27) []),(6,.ptr 6 (.box 42) [])],ob⟩ e ⟨[(1,.ptr 1 (.box 27) []),(2,.ptr 2 (.box 27) []),(6,.ptr 6 (.box 42) [])],ob'⟩:=by
 obtain⟨o,cc,g1,g2,g3,g4,⟨g,g5,g6⟩,g7⟩:=ops22_o
 have hs:=st22
 simp only[Bool.and_eq_true] at hs
 exact does_seq (does_callF (fun _=>rfl) tabs (cs22 A) hG ops22_q.1 ops22_q.2 h1 g1 g2 g3 g4 (Nat.le_of_ble_eq_true rfl) ⟨f37,h37,rfl,by decide⟩ g5 g6 (by rw[g7];rfl) (by simp[closed,noTup]) (does37 _ _ _ c.ops c.ints c.strs c.rels) (by simp[leafV]))
  (does_block_x 2 (does_range (tm:=[(1,.ptr 1 (.box 27) []),(2,.ptr 2 (.box 27) []),(6,.ptr 6 (.box 42) [])]) (fun _=>rfl) tabs (cs22 A) hG rfl (fun _ h=>h) rfl (iter72 c.ops c.ints c.strs c.rels _ _ _ (work_xa hp hc)) rfl (enters ⟨f72,h72,rfl,by decide⟩) (by kernel_rfl) (by kernel_rfl) (show ∀ p ∈ _,p < 29∧_ by simp) hs.1 hs.2 (fun _ _ h=>h.elim) hr) he)
noncomputable abbrev LB22 (id:Nat):Code:= .block 1 (.seq (.seq (.region id ops22 false) (.block 2 (.rangeFunc (.tmp 19) #[20,21] (P22 [1,0,1,1,1,1,0,0,0,0,0,1,0,0]) (P22 [1,0,1,1,1,1,0,0,0,0,0,1,0,1])))) (.exit 0))
theorem ev22gh (c:XCode) (hp:XIn c.ops c.ints c.strs c.rels) (hc:checkC c=true) (xs:List XStep) (A:Nat→Prop):aopsM (E22 A) ops22.toList (ops22.toList.take 2) ⟨[(1,.ptr 1 (.box 27) []),(2,.ptr 2 (.box 27) []),(6,.ptr 6 (.box 42) [])],obX c xs⟩=some ⟨(18,.ro false 106 (.st 106 [(cd c.ops c.ints c.strs c.rels),.sl 119 gT ((workS c.ops c.ints c.rels).1.map eFacts),.sl 4 gT ((workS c.ops c.ints c.rels).2.map eB),.sl 109 gT ((workL c.ops).map eU)]))::(17,(cd c.ops c.ints c.strs c.rels))::[(1,.ptr 1 (.box 27) []),(2,.ptr 2 (.box 27) []),(6,.ptr 6 (.box 42) [])],obX c xs⟩:=by
 unfold obX
 split
 ·exact ev22g c hp hc A
 ·exact ev22h c hp hc xs A
theorem does22e (c:XCode) (hp:XIn c.ops c.ints c.strs c.rels) (hc:checkC c=true) (xs:List XStep) (hn:stepsC c=[]) (A:Nat→Prop) (w:World) (hG:GlobOk (E22 A) w) (id:Nat):Does Tryz.prog (E22 A) w (LB22 id) ⟨[(1,.ptr 1 (.box 27) []),(2,.ptr 2 (.box 27) []),(6,.ptr 6 (.box 42) [])],obX c xs⟩ (.exit 0) ⟨[(1,.ptr 1 (.box 27) []),(2,.ptr 2 (.box 27) []),(6,.ptr 6 (.box 42) [])],obX c xs⟩:=
 does_block_x 1 (does_seq (does22r c hp hc A w hG (by simp) (ev22gh c hp hc xs A) (by rw[hn];exact .done _)) (does_exit 0)) (by simp)
theorem does22s (c:XCode) (hp:XIn c.ops c.ints c.strs c.rels) (hc:checkC c=true) (xs:List XStep) (hx:xs.length < 10000000) {y:Int × Int × XCode} {l:List (Int × Int × XCode)} (hn:stepsC c=y::l) (A:Nat→Prop) (w:World) (hG:GlobOk (E22 A) w) (id:Nat):Does Tryz.prog (E22 A) w (LB22 id) ⟨[(1,.ptr 1 (.box 27) []),(2,.ptr 2 (.box 27) []),(6,.ptr 6 (.box 42) [])],obX c xs⟩ .norm ⟨[(1,.ptr 1 (.box 27) []),(2,.ptr 2 (.box 27) []),(6,.ptr 6 (.box 42) [])],obX y.2.2 (xs++[stepOf y])⟩:=by
 refine ren22 y.2.2 (xs++[stepOf y]) (stepOf y) (by simp) _ _ (does_block 1 (does_seq_x (does22r c hp hc A w hG (by simp) (ev22gh c hp hc xs A) ?_) (by simp)))
 rw[hn]
 by_cases hx0:xs=[]
 ·subst hx0
  refine .stops (i:=1) (σ2:=⟨[(8,.ptr 8 (.box 27) []),(7,.ptr 7 (.box 29) []),(21,(cd y.2.2.ops y.2.2.ints y.2.2.strs y.2.2.rels)),(20,.st 29 [.int .i64 y.1,.int .i64 y.2.1]),(1,.ptr 1 (.box 27) []),(2,.ptr 2 (.box 27) []),(6,.ptr 6 (.box 42) [])],[(8,⟨.box 27,false,[(cd y.2.2.ops y.2.2.ints y.2.2.strs y.2.2.rels)]⟩),(7,⟨.box 29,true,[.st 29 [.int .i64 y.1,.int .i64 y.2.1]]⟩),(6,⟨.box 42,true,[.sl 29 ⟨true,some true,true⟩ []]⟩),(1,⟨.box 27,false,[(cd c.ops c.ints c.strs c.rels)]⟩),(2,⟨.box 27,true,[.st 27 [.sl 80 ⟨true,some true,true⟩ [],.sl 2 ⟨true,some true,true⟩ [],.sl 9 ⟨true,some true,true⟩ [],.sl 90 ⟨true,some true,true⟩ []]]⟩)]⟩) (σ3:=⟨[(8,.ptr 8 (.box 27) []),(7,.ptr 7 (.box 29) []),(21,(cd y.2.2.ops y.2.2.ints y.2.2.strs y.2.2.rels)),(20,.st 29 [.int .i64 y.1,.int .i64 y.2.1]),(1,.ptr 1 (.box 27) []),(2,.ptr 2 (.box 27) []),(6,.ptr 6 (.box 42) [])],ob26 y.2.2 ([]++[stepOf y]) (stepOf y)⟩) rfl (by simp[encS,eCode,oldV,oldV.oldL]) (fun A lo L=>ev22i c y.2.2 y.1 y.2.1 lo A L) (fun A lo L=>(ev22k c y.2.2 y.1 y.2.1 lo A L).trans ?_) (by kernel_rfl)
  rfl
 ·have:obX c xs=[(6,⟨.box 42,true,[.own 27 29 0 xs.length]⟩),(27,⟨.row 29,true,xs.map eStep⟩),(1,⟨.box 27,false,[(cd c.ops c.ints c.strs c.rels)]⟩),(2,⟨.box 27,true,[.st 27 [.sl 80 ⟨true,some true,true⟩ [],.sl 2 ⟨true,some true,true⟩ [],.sl 9 ⟨true,some true,true⟩ [],.sl 90 ⟨true,some true,true⟩ []]]⟩)]:=if_neg hx0
  rw[this]
  refine .stops (i:=1) (σ2:=⟨[(8,.ptr 8 (.box 27) []),(7,.ptr 7 (.box 29) []),(21,(cd y.2.2.ops y.2.2.ints y.2.2.strs y.2.2.rels)),(20,.st 29 [.int .i64 y.1,.int .i64 y.2.1]),(1,.ptr 1 (.box 27) []),(2,.ptr 2 (.box 27) []),(6,.ptr 6 (.box 42) [])],[(8,⟨.box 27,false,[(cd y.2.2.ops y.2.2.ints y.2.2.strs y.2.2.rels)]⟩),(7,⟨.box 29,true,[.st 29 [.int .i64 y.1,.int .i64 y.2.1]]⟩),(6,⟨.box 42,true,[.own 27 29 0 xs.length]⟩),(27,⟨.row 29,true,xs.map eStep⟩),(1,⟨.box 27,false,[(cd c.ops c.ints c.strs c.rels)]⟩),(2,⟨.box 27,true,[.st 27 [.sl 80 ⟨true,some true,true⟩ [],.sl 2 ⟨true,some true,true⟩ [],.sl 9 ⟨true,some true,true⟩ [],.sl 90 ⟨true,some true,true⟩ []]]⟩)]⟩) (σ3:=⟨[(8,.ptr 8 (.box 27) []),(7,.ptr 7 (.box 29) []),(21,(cd y.2.2.ops y.2.2.ints y.2.2.strs y.2.2.rels)),(20,.st 29 [.int .i64 y.1,.int .i64 y.2.1]),(1,.ptr 1 (.box 27) []),(2,.ptr 2 (.box 27) []),(6,.ptr 6 (.box 42) [])],ob26 y.2.2 (xs++[stepOf y]) (stepOf y)⟩) rfl (by simp[encS,eCode,oldV,oldV.oldL]) (fun A lo L=>ev22j c y.2.2 y.1 y.2.1 xs lo A L) (fun A lo L=>(ev22l c y.2.2 y.1 y.2.1 xs hx lo A L).trans ?_) (by kernel_rfl)
  simp[ob26,stepOf,eStep]
theorem loop22 (A:Nat→Prop) (w:World) (hG:GlobOk (E22 A) w) (id:Nat):∀ (n:Nat) (c:XCode) (xs:List XStep) (out:XCode × List XStep),XIn c.ops c.ints c.strs c.rels→checkC c=true→xs.length+n < 10000000→runN n c=some out→DoesR Tryz.prog (E22 A) w (LB22 id) ⟨[(1,.ptr 1 (.box 27) []),(2,.ptr 2 (.box 27) []),(6,.ptr 6 (.box 42) [])],obX c xs⟩ (.exit 0) ⟨[(1,.ptr 1 (.box 27) []),(2,.ptr 2 (.box 27) []),(6,.ptr 6 (.box 42) [])],obX out.1 (xs++out.2)⟩ n
 | 0,c,xs,out,_,_,_,h=>by simp[runN] at h
 | n+1,c,xs,out,hp,hc,hx,h=>by
   rw[runN] at h
   split at h
   ·rename_i hn
    injection h with h;subst h
    simp only[List.append_nil]
    exact doesR_last (does22e c hp hc xs hn A w hG id) (by simp)
   ·rename_i y l hn
    cases hr:runN n y.2.2 with
    | none=>rw[hr] at h;cases h
    | some p=>
      rw[hr] at h
      injection h with h;subst h
      obtain⟨hp',hc'⟩:=stepsC_in hp hc hn
      have:=loop22 A w hG id n y.2.2 (xs++[stepOf y]) p hp' hc' (by simp;omega) hr
      refine doesR_next (does22s c hp hc xs (by omega) hn A w hG id) ?_
      simpa using this
theorem runN_det:∀ {n m:Nat} {c:XCode} {a b:XCode × List XStep},runN n c=some a→runN m c=some b→a=b
 | 0,_,_,_,_,h,_=>by simp[runN] at h
 | _+1,0,_,_,_,_,h=>by simp[runN] at h
 | n+1,m+1,c,a,b,h,k=>by
   rw[runN] at h k
   split at h
   ·rename_i hn
    rw[hn] at k
    injection h with h;injection k with k;rw[← h,← k]
   ·rename_i y l hn
    rw[hn] at k
    cases hr:runN n y.2.2 with
    | none=>rw[hr] at h;cases h
    | some p=>
      cases hs:runN m y.2.2 with
      | none=>simp only[hs] at k;cases k
      | some q=>
        have:=runN_det hr hs;subst this
        rw[hr] at h
        simp only[hs] at k
        injection h with h;injection k with k
        rw[← h,← k]
theorem less22 {P:Program} {E:Env} {w0:World} {cc:Code} {σ:St} {e:AX} {c:XCode} (h:Does P E w0 cc σ e ⟨[(6,.ptr 6 (.box 42) []),(12,.bool false),(5,.int .i64 0),(4,.int .i64 0),(3,.sl 0 ⟨true,some true,true⟩ []),(2,.ptr 2 (.box 27) []),(1,.ptr 1 (.box 27) []),(0,(cd c.ops c.ints c.strs c.rels))],[(1,⟨.box 27,false,[(cd c.ops c.ints c.strs c.rels)]⟩),(6,⟨.box 42,true,[.sl 29 ⟨true,some true,true⟩ []]⟩),(2,⟨.box 27,true,[.st 27 [.sl 80 ⟨true,some true,true⟩ [],.sl 2 ⟨true,some true,true⟩ [],.sl 9 ⟨true,some true,true⟩ [],.sl 90 ⟨true,some true,true⟩ []]]⟩)]⟩):Does P E w0 cc σ e ⟨[(1,.ptr 1 (.box 27) []),(2,.ptr 2 (.box 27) []),(6,.ptr 6 (.box 42) [])],obX c []⟩:=by
 refine h.less (fun t x hx=>?_) (fun o b hb=>?_)
 ·by_cases h1:1=t
  ·subst h1;simpa[aget] using hx
  by_cases h2:2=t
  ·subst h2;simpa[aget] using hx
  by_cases h6:6=t
  ·subst h6;simpa[aget] using hx
  ·simp[aget,h6,h1,h2] at hx
 ·have:obX c []=obA c:=if_pos rfl
  rw[this] at hb
  by_cases h1:1=o
  ·subst h1;simpa[aget,obA] using hb
  by_cases h2:2=o
  ·subst h2;simpa[aget,obA] using hb
  by_cases h6:6=o
  ·subst h6;simpa[aget,obA] using hb
  ·simp[aget,obA,h6,h1,h2] at hb
theorem does22f (c:XCode) (hp:XIn c.ops c.ints c.strs c.rels) (hc:checkC c=false) (A:Nat→Prop) (w:World) (hG:GlobOk (E22 A) w) :
 ∃ b,f22.body=some b∧Does Tryz.prog (E22 A) w b ⟨argTms 0 [(cd c.ops c.ints c.strs c.rels)],[]⟩ .ret ⟨[(4,.int .i64 150),(3,.sl 0 ⟨true,some true,true⟩ []),(12,.bool true),(5,.int .i64 150),(2,.ptr 2 (.box 27) []),(1,.ptr 1 (.box 27) []),(0,(cd c.ops c.ints c.strs c.rels))],[(2,⟨.box 27,true,[.st 27 [.sl 80 ⟨true,some true,true⟩ [],.sl 2 ⟨true,some true,true⟩ [],.sl 9 ⟨true,some true,true⟩ [],.sl 90 ⟨true,some true,true⟩ []]]⟩),(1,⟨.box 27,false,[(cd c.ops c.ints c.strs c.rels)]⟩)]⟩:=by
 obtain⟨id,hb⟩:=body22
 obtain⟨d1,d2,d3,d4,d5⟩:=dq22 A
 exact⟨_,hb,does_seq (does_arun (fun _ h=>h) tabs (cs22 A) hG d1 (ev22a c A)) (does_scope (does_seq_x (does_arun (fun _ h=>h) tabs (cs22 A) hG d2 (ev22f c hp hc A)) (by simp)))⟩
theorem does22p (c:XCode) (hp:XIn c.ops c.ints c.strs c.rels) (hc:checkC c=true) {n:Nat} {out:XCode × List XStep} (hn:n < 10000000) (hr:runN n c=some out) (A:Nat→Prop) (w:World) (hG:GlobOk (E22 A) w) {σ':St}
 (h2:arun (E22 A) H0 5 (P22 [1,0,1,1,1,1,1]) ⟨[(1,.ptr 1 (.box 27) []),(2,.ptr 2 (.box 27) []),(6,.ptr 6 (.box 42) [])],obX out.1 out.2⟩=some (.ret,σ')) :
 ∃ b,f22.body=some b∧Does Tryz.prog (E22 A) w b ⟨argTms 0 [(cd c.ops c.ints c.strs c.rels)],[]⟩ .ret σ':=by
 obtain⟨id,hb⟩:=body22
 obtain⟨d1,d2,d3,d4,d5⟩:=dq22 A
 refine⟨_,hb,does_seq (does_arun (fun _ h=>h) tabs (cs22 A) hG d1 (ev22a c A)) (does_scope (does_seq (does_arun (fun _ h=>h) tabs (cs22 A) hG d2 (ev22b c hp hc A)) (does_seq (does_arun (fun _ h=>h) tabs (cs22 A) hG d3 (ev22c c A))
  (does_seq (less22 (does_arun (fun _ h=>h) tabs (cs22 A) hG d4 (ev22d c hp A))) (does_seq (does_label 0) (does_seq (does_block 0 (does_loop (m:=n) ?_)) (does_arun (fun _ h=>h) tabs (cs22 A) hG d5 h2)))))))⟩
 exact loop22 A w hG id n c [] out hp hc (by simpa using hn) hr
theorem ret22 (c:XCode) (n:Nat) (out:XCode × List XStep) (hp:XIn c.ops c.ints c.strs c.rels∧n < 10000000∧(if checkC c=true then runN n c=some out else out=(⟨[],[],[],[]⟩,[]))):Ret Tryz.prog ty G0 22 [(cd c.ops c.ints c.strs c.rels)] (.tup [eCode out.1,.sl 29 gT (out.2.map eStep),.int .i64 (errF (checkC c))]):=by
 obtain⟨hp,hn,ho⟩:=hp
 have wrap:∀ {r:AV} {σ':St} {x y z:AV},(∀ A,aresults (E22 A) σ' f22.results.toList=some [x,y,z])→(∀ A w,GlobOk (E22 A) w→∃ b,f22.body=some b∧Does Tryz.prog (E22 A) w b ⟨argTms 0 [(cd c.ops c.ints c.strs c.rels)],[]⟩ .ret σ')→
  (∀ A:Nat→Prop,(obind (hand.handL ty σ'.ob 30 [x,y,z]) fun vs=>some (one vs))=some r)→Ret Tryz.prog ty G0 22 [(cd c.ops c.ints c.strs c.rels)] r:=fun h1 h2 h3=>by
  obtain⟨id,hb⟩:=body22
  exact ret_of_does (Ef:=E22) (e:= .ret) (fun _=>rfl) (fun _=>rfl) (fun _=>rfl) tabs h22 (fun _=>rfl) hb (Nat.le_of_ble_eq_true rfl) (by simp[oldV,oldV.oldL]) (.inr rfl) (fun A w hG=>by
   obtain⟨c,e,h⟩:=h2 A w hG
   rw[hb] at e;injection e with e;subst e;exact h) (fun A=>by rw[h1 A];exact h3 A)
 cases hc:checkC c with
 | false=>
   rw[hc] at ho
   simp only[BL] at ho
   subst ho
   refine Ret.weak (wrap (r:= .tup [.st 27 [.sl 80 ⟨true,some true,true⟩ [],.sl 2 ⟨true,some true,true⟩ [],.sl 9 ⟨true,some true,true⟩ [],.sl 90 ⟨true,some true,true⟩ []],.sl 0 ⟨true,some true,true⟩ [],.int .i64 150]) (fun _=>rfl) (fun A w hG=>does22f c hp hc A w hG) (fun _=>rfl)) ?_
   simp[one,wk_tup,wkL_cons,wkL_nil,wk_sl,wk_st,wk_int,errF,eCode]
 | true=>
   rw[hc] at ho
   simp only[BL] at ho
   obtain⟨d,l⟩:=out
   by_cases hl:l=[]
   ·subst hl
    have hX:obX d []=obA d:=if_pos rfl
    refine Ret.weak (wrap (r:= .tup [eCode d,.sl 29 ⟨true,some true,true⟩ [],.int .i64 0]) (fun _=>rfl) (fun A w hG=>does22p c hp hc hn ho A w hG (by rw[hX];exact ev22y d A)) (fun _=>rfl)) ?_
    simp[one,wk_tup,wkL_cons,wkL_nil,wk_sl,wk_st,wk_int,errF,eCode]
   ·have hX:obX d l=_:=if_neg hl
    refine Ret.weak (wrap (r:= .tup [eCode d,.sl 29 gT (l.map eStep),.int .i64 0]) (x:=eCode d) (y:= .own 27 29 0 l.length) (z:= .int .i64 0) (fun _=>rfl) (fun A w hG=>does22p c hp hc hn ho A w hG (by rw[hX];exact ev22z d l A)) (fun _=>?_)) ?_
    ·simp[hand.handL,hand,aget,obind,one,eCode]
    ·simp[one,wk_tup,wkL_cons,wkL_nil,wk_sl,wk_st,wk_int,errF,eCode]
def R22 (l:List AV) (r:AV):Prop:=∃ (c:XCode) (n:Nat) (out:XCode × List XStep),(XIn c.ops c.ints c.strs c.rels∧n < 10000000∧(if checkC c=true then runN n c=some out else out=(⟨[],[],[],[]⟩,[])))∧l=[(cd c.ops c.ints c.strs c.rels)]∧r = .tup [eCode out.1,.sl 29 gT (out.2.map eStep),.int .i64 (errF (checkC c))]
noncomputable def c22:=famC R22
theorem c22_eq (c:XCode) (n:Nat) (out:XCode × List XStep) (hp:XIn c.ops c.ints c.strs c.rels∧n < 10000000∧(if checkC c=true then runN n c=some out else out=(⟨[],[],[],[]⟩,[]))):c22 [(cd c.ops c.ints c.strs c.rels)]=some (.tup [eCode out.1,.sl 29 gT (out.2.map eStep),.int .i64 (errF (checkC c))]):=by
 refine famC_eq (fun l r r'=>?_) ⟨c,n,out,hp,rfl,rfl⟩
 rintro⟨⟨ops,ints,strs,rels⟩,n,out,hp,h,rfl⟩ ⟨⟨ops',ints',strs',rels'⟩,n',out',hp',h',rfl⟩
 rw[h] at h'
 simp only[List.cons.injEq,AV.st.injEq,AV.sl.injEq,AV.int.injEq,AV.bool.injEq,AV.str.injEq,AV.ro.injEq,AV.fn.injEq,AV.own.injEq,Fl.mk.injEq,Prod.mk.injEq,Abs.Obj.mk.injEq,mOp_inj,mI_inj,mS_inj,mB_inj,mRel_inj,mStep_inj,mFacts_inj,mU_inj,and_true,true_and,and_assoc] at h'
 obtain⟨rfl,rfl,rfl,rfl⟩:=h'
 have:out=out':=by
  have h1:=hp.2.2;have h2:=hp'.2.2
  split at h1
  ·rename_i hc;rw[if_pos hc] at h2;exact runN_det h1 h2
  ·rename_i hc;rw[if_neg hc] at h2;rw[h1,h2]
 rw[this]
theorem snd22:Snd 22 c22:=fun l r h=>by
 obtain⟨c,n,out,hp,rfl,rfl⟩:=famC_R h
 exact⟨⟨f22,h22,rfl,by decide⟩,ret22 c n out hp⟩
def formsR:List AV:=[.str ⟨#[108,100,105]⟩,.str ⟨#[108,100,115]⟩,.str ⟨#[109,111,118]⟩,.str ⟨#[97,100,100]⟩,.str ⟨#[115,117,98]⟩,.str ⟨#[109,117,108]⟩,.str ⟨#[100,105,118]⟩,.str ⟨#[100,105,118,117]⟩,.str ⟨#[109,111,100]⟩,.str ⟨#[109,111,100,117]⟩,.str ⟨#[97,110,100]⟩,.str ⟨#[111,114]⟩,.str ⟨#[120,111,114]⟩,.str ⟨#[115,104,108]⟩,.str ⟨#[115,104,114]⟩,.str ⟨#[115,97,114]⟩,.str ⟨#[110,101,103]⟩,.str ⟨#[110,111,116]⟩,.str ⟨#[119,114,97,112]⟩,.str ⟨#[108,116]⟩,.str ⟨#[108,116,117]⟩,.str ⟨#[101,113]⟩,.str ⟨#[99,109,112]⟩,.str ⟨#[106,109,112]⟩,.str ⟨#[106,122]⟩,.str ⟨#[108,111,97,100]⟩,.str ⟨#[117,108,111,97,100]⟩,.str ⟨#[98,117,105]⟩,.str ⟨#[97,114,103]⟩,.str ⟨#[103,108,111]⟩,.str ⟨#[115,101,116,103,108,111]⟩,.str ⟨#[116,104,114]⟩,.str ⟨#[115,101,116,116,104,114]⟩,.str ⟨#[108,111,99]⟩,.str ⟨#[115,101,116,108,111,99]⟩,.str ⟨#[112,117,115,104]⟩,.str ⟨#[97,115,99]⟩,.str ⟨#[115,101,116,97,115,99]⟩,.str ⟨#[99,97,108,108]⟩,.str ⟨#[114,101,116]⟩]
theorem h73:Tryz.prog.funcs[73]? = some f73:=by kernel_rfl
theorem run73  (A:Nat→Prop):acall (env 2 1 D0 [] [] A) (fun _=>{ tm:=[],ob:=[] }) (5) f73 []=some (.sl 9 gT formsR):=by
 kernel_rfl
noncomputable def c73:=famP (α:=Unit) (fun _=>True) (fun _=>[]) (fun _=> .sl 9 gT formsR)
theorem c73_eq :c73 []=some (.sl 9 gT formsR):=fam_eq (fun _ _ _ _ _=>rfl) () trivial
theorem snd73:Snd 73 c73:=fam_snd h73 rfl rfl fun _ _=>rc h73 (fun A=>run73  A) (fun _=>[]) rfl rfl rfl (by kernel_rfl) trivial trivial
theorem wrapLits:IntKind.i64.wrap 0=0∧IntKind.i64.wrap 1=1∧IntKind.i64.wrap 2=2∧IntKind.i64.wrap 3=3∧IntKind.i64.wrap 4=4∧IntKind.i64.wrap 5=5∧IntKind.i64.wrap 6=6∧IntKind.i64.wrap 7=7∧IntKind.i64.wrap 8=8∧IntKind.i64.wrap 9=9∧IntKind.i64.wrap 10=10∧IntKind.i64.wrap 11=11∧IntKind.i64.wrap 12=12∧IntKind.i64.wrap 13=13∧IntKind.i64.wrap 14=14∧IntKind.i64.wrap 15=15∧IntKind.i64.wrap 16=16∧IntKind.i64.wrap 17=17∧IntKind.i64.wrap 18=18∧IntKind.i64.wrap 19=19∧IntKind.i64.wrap 20=20∧IntKind.i64.wrap 21=21∧IntKind.i64.wrap 22=22∧IntKind.i64.wrap 23=23∧IntKind.i64.wrap 24=24∧IntKind.i64.wrap 25=25∧IntKind.i64.wrap 26=26∧IntKind.i64.wrap 27=27∧IntKind.i64.wrap 28=28∧IntKind.i64.wrap 29=29∧IntKind.i64.wrap 30=30∧IntKind.i64.wrap 31=31∧IntKind.i64.wrap 32=32∧IntKind.i64.wrap 33=33∧IntKind.i64.wrap 34=34∧IntKind.i64.wrap 35=35∧IntKind.i64.wrap 36=36∧IntKind.i64.wrap 37=37∧IntKind.i64.wrap 38=38∧IntKind.i64.wrap 39=39:=⟨rfl,rfl,rfl,rfl,rfl,rfl,rfl,rfl,rfl,rfl,rfl,rfl,rfl,rfl,rfl,rfl,rfl,rfl,rfl,rfl,rfl,rfl,rfl,rfl,rfl,rfl,rfl,rfl,rfl,rfl,rfl,rfl,rfl,rfl,rfl,rfl,rfl,rfl,rfl,rfl⟩
def eFormR (f:XForm):AV:= .st 100 [.bool f.d,.bool f.a,.bool f.b,.bool f.n,.str f.name]
theorem h42:Tryz.prog.funcs[42]? = some f42:=by kernel_rfl
theorem run42 (op:Int) (A:Nat→Prop):acall (env 62 144749065121432077 D0 [(73,c73)] [] A) (fun _=>{ tm:=[],ob:=[] }) (5) f42 [.int .i64 op]=some (eFormR (formF op)):=by
 by_cases h0:op < 1∨40 < op
 ·have hf:formF op=⟨⟨#[]⟩,false,false,false,false⟩:=by
   unfold formF
   split
   ·rfl
   ·have:op=0:=by omega
    subst this;rfl
  rw[hf]
  have g1:(decide (op < 1) || decide (40 < op))=true:=by simpa using h0
  cases h1:decide (op < 1) <;> cases h2:decide (40 < op)
  ·rw[h1,h2] at g1;cases g1
  all_goals
   simp only[acall,macall,f42]
   simp only[go_sem,simprocAttr,c73_eq,h1,h2]
   try rfl
 ·obtain⟨k,rfl⟩:=Int.eq_ofNat_of_zero_le (show 0≤op by omega)
  have hk:k=0∨k=1∨k=2∨k=3∨k=4∨k=5∨k=6∨k=7∨k=8∨k=9∨k=10∨k=11∨k=12∨k=13∨k=14∨k=15∨k=16∨k=17∨k=18∨k=19∨k=20∨k=21∨k=22∨k=23∨k=24∨k=25∨k=26∨k=27∨k=28∨k=29∨k=30∨k=31∨k=32∨k=33∨k=34∨k=35∨k=36∨k=37∨k=38∨k=39∨k=40:=by omega
  rcases hk with rfl | rfl | rfl | rfl | rfl | rfl | rfl | rfl | rfl | rfl | rfl | rfl | rfl | rfl | rfl | rfl | rfl | rfl | rfl | rfl | rfl | rfl | rfl | rfl | rfl | rfl | rfl | rfl | rfl | rfl | rfl | rfl | rfl | rfl | rfl | rfl | rfl | rfl | rfl | rfl | rfl
  all_goals first
   | (exfalso;omega)
   | (simp only[acall,macall,f42]
      simp only[go_sem,simprocAttr,c73_eq,Int.cast_ofNat_Int,wrapLits,formsR]
      try rfl)
noncomputable def c42:=famP (α:=Int) (fun _=>True) (fun op=>[.int .i64 op]) (fun op=>eFormR (formF op))
theorem c42_eq (op:Int):c42 [.int .i64 op]=some (eFormR (formF op)):=fam_eq (fun op op' hp hp' h'=>by
 simp only[INJ] at h'
 obtain rfl:=h'
 rfl) (op) trivial
theorem snd42:Snd 42 c42:=fam_snd h42 rfl rfl fun op _=>rc h42 (fun A=>run42 op A) (fun _=>[]) rfl rfl rfl (by kernel_rfl) ⟨snd73,trivial⟩ trivial
theorem h39:Tryz.prog.funcs[39]? = some f39:=by kernel_rfl
theorem run39 (o d a b n:Int) (A:Nat→Prop):acall (env 10 143 D0 [(42,c42)] [] A) (fun _=>{ tm:=[],ob:=[] }) (5) f39 [.st 80 [.int .i64 o,.int .i64 d,.int .i64 a,.int .i64 b,.int .i64 n]]=some (.tup [.int .i64 (if (formF o).d=true then d else 0),.bool (formF o).d]):=by
 simp only[acall,macall,f39]
 simp only[go_sem,simprocAttr,c42_eq,eFormR]
 cases h:(formF o).d <;> simp only[go_sem,simprocAttr,c42_eq,h]
noncomputable def c39:=famP (α:=Int × Int × Int × Int × Int) (fun _=>True) (fun (o,d,a,b,n)=>[.st 80 [.int .i64 o,.int .i64 d,.int .i64 a,.int .i64 b,.int .i64 n]]) (fun (o,d,a,b,n)=> .tup [.int .i64 (if (formF o).d=true then d else 0),.bool (formF o).d])
theorem c39_eq (o d a b n:Int):c39 [.st 80 [.int .i64 o,.int .i64 d,.int .i64 a,.int .i64 b,.int .i64 n]]=some (.tup [.int .i64 (if (formF o).d=true then d else 0),.bool (formF o).d]):=fam_eq (fun X Y hp hp' h'=>by
 obtain⟨o,d,a,b,n⟩:=X;obtain⟨o',d',a',b',n'⟩:=Y;simp only[INJ] at h'
 obtain⟨rfl,rfl,rfl,rfl,rfl⟩:=h'
 rfl) (o,d,a,b,n) trivial
theorem snd39:Snd 39 c39:=fam_snd h39 rfl rfl fun (o,d,a,b,n) _=>rc h39 (fun A=>run39 o d a b n A) (fun _=>[]) rfl rfl rfl (by kernel_rfl) ⟨snd42,trivial⟩ trivial
theorem h40:Tryz.prog.funcs[40]? = some f40:=by kernel_rfl
theorem run40 (o d a b n:Int) :∃ r,wk r (.sl 3 gT ((usesF o a b).map eI))∧∀ A,acall (env 30 8389151 D0 [(42,c42)] [] A) (fun _=>{ tm:=[],ob:=[] }) (5) f40 [.st 80 [.int .i64 o,.int .i64 d,.int .i64 a,.int .i64 b,.int .i64 n]]=some r:=by
 cases h1:(formF o).a <;> cases h2:(formF o).b <;> cases h3:(b==a)
 all_goals
  apply wkI
  ·intro A
   simp only[acall,macall,f40]
   simp only[go_sem,simprocAttr,c42_eq,h1,h2,h3,eFormR]
   try rfl
  ·simp[WK,usesF,h1,h2,h3,eI]
noncomputable def c40:=famP (α:=Int × Int × Int × Int × Int) (fun _=>True) (fun (o,d,a,b,n)=>[.st 80 [.int .i64 o,.int .i64 d,.int .i64 a,.int .i64 b,.int .i64 n]]) (fun (o,d,a,b,n)=> .sl 3 gT ((usesF o a b).map eI))
theorem c40_eq (o d a b n:Int):c40 [.st 80 [.int .i64 o,.int .i64 d,.int .i64 a,.int .i64 b,.int .i64 n]]=some (.sl 3 gT ((usesF o a b).map eI)):=fam_eq (fun X Y hp hp' h'=>by
 obtain⟨o,d,a,b,n⟩:=X;obtain⟨o',d',a',b',n'⟩:=Y;simp only[INJ] at h'
 obtain⟨rfl,rfl,rfl,rfl,rfl⟩:=h'
 rfl) (o,d,a,b,n) trivial
theorem snd40:Snd 40 c40:=fam_snd h40 rfl rfl fun (o,d,a,b,n) _=>let ⟨_,hw,hr⟩:=run40 o d a b n;(rc h40 hr (fun _=>[]) rfl rfl rfl (by kernel_rfl) ⟨snd42,trivial⟩ trivial).weak hw
theorem regF_r (has:Bool) (n:Int):regF has n=((n==0) || (has&&(decide (0 < n)&&decide (n < 8)))):=by
 unfold regF
 cases has
 ·simp
 ·by_cases h:n=0
  ·subst h;decide
  ·have e:(n==0)=false:=by simp[h]
   have e1:decide (0≤n)=decide (0 < n):=decide_eq_decide.2 (by omega)
   have e2:decide (n≤7)=decide (n < 8):=decide_eq_decide.2 (by omega)
   simp[e,e1,e2]
theorem h43:Tryz.prog.funcs[43]? = some f43:=by kernel_rfl
theorem run43 (has:Bool) (n:Int) (A:Nat→Prop):acall (env 18 19 D0 [] [] A) (fun _=>{ tm:=[],ob:=[] }) (5) f43 [.bool has,.int .i64 n]=some (.bool (regF has n)):=by
 rw[regF_r]
 cases h1:(n==0)
 ·cases has
  ·simp only[acall,macall,f43]
   simp only[go_sem,simprocAttr,h1]
   try rfl
  ·cases h2:decide (0 < n)
   ·simp only[acall,macall,f43]
    simp only[go_sem,simprocAttr,h1,h2]
    try rfl
   ·cases h3:decide (n < 8)
    ·simp only[acall,macall,f43]
     simp only[go_sem,simprocAttr,h1,h2,h3]
     try rfl
    ·simp only[acall,macall,f43]
     simp only[go_sem,simprocAttr,h1,h2,h3]
     try rfl
 ·simp only[acall,macall,f43]
  simp only[go_sem,simprocAttr,h1]
  try rfl
noncomputable def c43:=famP (α:=Bool × Int) (fun _=>True) (fun (has,n)=>[.bool has,.int .i64 n]) (fun (has,n)=> .bool (regF has n))
theorem c43_eq (has:Bool) (n:Int):c43 [.bool has,.int .i64 n]=some (.bool (regF has n)):=fam_eq (fun X Y hp hp' h'=>by
 obtain⟨has,n⟩:=X;obtain⟨has',n'⟩:=Y;simp only[INJ] at h'
 obtain⟨rfl,rfl⟩:=h'
 rfl) (has,n) trivial
theorem snd43:Snd 43 c43:=fam_snd h43 rfl rfl fun (has,n) _=>rc h43 (fun A=>run43 has n A) (fun _=>[]) rfl rfl rfl (by kernel_rfl) trivial trivial
theorem intOf_none {n:Int} (h:n ≠ 8∧n ≠ 16∧n ≠ 32∧n ≠ 64∧n ≠ -8∧n ≠ -16∧n ≠ -32∧n ≠ -64):intOfF n=none:=by
 have e1:typeV 1 false=8:=rfl
 have e2:typeV 2 false=16:=rfl
 have e4:typeV 4 false=32:=rfl
 have e8:typeV 8 false=64:=rfl
 have d1:typeV 1 true = -8:=rfl
 have d2:typeV 2 true = -16:=rfl
 have d4:typeV 4 true = -32:=rfl
 have d8:typeV 8 true = -64:=rfl
 unfold intOfF
 dsimp only
 generalize decide (n < 0)=g
 cases g
 all_goals
  simp only[e1,e2,e4,e8,d1,d2,d4,d8,beq_iff_eq]
  rw[if_neg (by omega),if_neg (by omega),if_neg (by omega),if_neg (by omega)]
theorem divLits:IntKind.i64.wrap 1=1∧IntKind.i64.wrap 2=2∧IntKind.i64.wrap 4=4∧IntKind.i64.wrap 8=8∧IntKind.i64.wrap 16=16∧IntKind.i64.wrap 32=32∧IntKind.i64.wrap 64=64:=⟨rfl,rfl,rfl,rfl,rfl,rfl,rfl⟩
theorem h74:Tryz.prog.funcs[74]? = some f74:=by kernel_rfl
theorem run74 (n:Int) (A:Nat→Prop):acall (env 23 8253 D0 [] [] A) (fun _=>{ tm:=[],ob:=[] }) (5) f74 [.int .i64 n]=some (eIntOf (intOfF n)):=by
 by_cases g0:n=8
 ·subst g0
  rw[show intOfF (8)=some (1,false) from rfl]
  simp only[acall,macall,f74,eIntOf]
  simp only[go_sem,simprocAttr,divLits,Int.tdiv]
  try rfl
 by_cases g1:n=16
 ·subst g1
  rw[show intOfF (16)=some (2,false) from rfl]
  simp only[acall,macall,f74,eIntOf]
  simp only[go_sem,simprocAttr,divLits,Int.tdiv]
  try rfl
 by_cases g2:n=32
 ·subst g2
  rw[show intOfF (32)=some (4,false) from rfl]
  simp only[acall,macall,f74,eIntOf]
  simp only[go_sem,simprocAttr,divLits,Int.tdiv]
  try rfl
 by_cases g3:n=64
 ·subst g3
  rw[show intOfF (64)=some (8,false) from rfl]
  simp only[acall,macall,f74,eIntOf]
  simp only[go_sem,simprocAttr,divLits,Int.tdiv]
  try rfl
 by_cases g4:n = -8
 ·subst g4
  rw[show intOfF (-8)=some (1,true) from rfl]
  simp only[acall,macall,f74,eIntOf]
  simp only[go_sem,simprocAttr,divLits,Int.tdiv]
  try rfl
 by_cases g5:n = -16
 ·subst g5
  rw[show intOfF (-16)=some (2,true) from rfl]
  simp only[acall,macall,f74,eIntOf]
  simp only[go_sem,simprocAttr,divLits,Int.tdiv]
  try rfl
 by_cases g6:n = -32
 ·subst g6
  rw[show intOfF (-32)=some (4,true) from rfl]
  simp only[acall,macall,f74,eIntOf]
  simp only[go_sem,simprocAttr,divLits,Int.tdiv]
  try rfl
 by_cases g7:n = -64
 ·subst g7
  rw[show intOfF (-64)=some (8,true) from rfl]
  simp only[acall,macall,f74,eIntOf]
  simp only[go_sem,simprocAttr,divLits,Int.tdiv]
  try rfl
 rw[intOf_none ⟨g0,g1,g2,g3,g4,g5,g6,g7⟩]
 have h0:(n==8)=false:=by simpa using g0
 have h1:(n==16)=false:=by simpa using g1
 have h2:(n==32)=false:=by simpa using g2
 have h3:(n==64)=false:=by simpa using g3
 have h4:(n== -8)=false:=by simpa using g4
 have h5:(n== -16)=false:=by simpa using g5
 have h6:(n== -32)=false:=by simpa using g6
 have h7:(n== -64)=false:=by simpa using g7
 simp only[acall,macall,f74,eIntOf]
 simp only[go_sem,simprocAttr,h0,h1,h2,h3,h4,h5,h6,h7]
 try rfl
noncomputable def c74:=famP (α:=Int) (fun _=>True) (fun n=>[.int .i64 n]) (fun n=>eIntOf (intOfF n))
theorem c74_eq (n:Int):c74 [.int .i64 n]=some (eIntOf (intOfF n)):=fam_eq (fun n n' hp hp' h'=>by
 simp only[INJ] at h'
 obtain rfl:=h'
 rfl) (n) trivial
theorem snd74:Snd 74 c74:=fam_snd h74 rfl rfl fun n _=>rc h74 (fun A=>run74 n A) (fun _=>[]) rfl rfl rfl (by kernel_rfl) trivial trivial
def noZ (l:List UInt8):Bool:=l.all fun b=> !(((b.toNat:Nat):Int)==0)
theorem noZ_cons (b:UInt8) (l:List UInt8):noZ (b::l)=(!(((b.toNat:Nat):Int)==0)&&noZ l):=rfl
theorem noZ_index (l:List UInt8):(!(decide (0≤Lib.indexByte l 0)))=noZ l:=by
 induction l with
 | nil=>rfl
 | cons b l ih=>
   have hg:=Lib.indexByte_ge l 0
   rw[noZ_cons,← ih]
   have e0:Lib.indexByte (b::l) 0=if (b==0)=true then 0 else if (Lib.indexByte l 0== -1)=true then -1 else Lib.indexByte l 0+1:=rfl
   rw[e0]
   have hb:(b==0)=(((b.toNat:Nat):Int)==0):=by
    rw[Bool.eq_iff_iff]
    simp only[beq_iff_eq]
    constructor
    ·intro h;subst h;rfl
    ·intro h
     have:b.toNat=0:=by omega
     exact UInt8.toNat_inj.1 this
   rw[← hb]
   cases hc:(b==0)
   ·simp only[BL]
    by_cases h1:Lib.indexByte l 0 = -1
    ·simp[h1]
    ·have h2:(Lib.indexByte l 0== -1)=false:=by simpa using h1
     rw[h2]
     simp only[BL]
     congr 1
     exact decide_eq_decide.2 (by omega)
   ·simp
theorem strOk_r (s:ByteArray):strOkF s=(noZ s.data.toList&&decide ((s.size:Int)≤64)):=by
 have e:(!(decide (0≤indexByteF s 0)))=noZ s.data.toList:=noZ_index _
 unfold strOkF
 rw[e]
 by_cases h:64 < (s.size:Int)
 ·have h2:¬ ((s.size:Int)≤64):=by omega
  simp[h,h2]
 ·have h2:(s.size:Int)≤64:=by omega
  simp only[h,h2,BL]
theorem h41:Tryz.prog.funcs[41]? = some f41:=by kernel_rfl
theorem loop41 (s:ByteArray) (hlim:s.size≤9223372036854775807) (A:Nat→Prop) (k:Nat):∀ (m i:Nat) (σ:St),i+m=s.size→
 σ.keep ({ tm:=[0,3],ob:=[],fin:=some ([0,2],[]) }:Hint)=⟨[(0,.str s),(3,.int .i64 i)],[]⟩→
 post ({ tm:=[0,3],ob:=[],fin:=some ([0,2],[]) }:Hint) (aloop ty (arun (env 17 8333 D0 [] [] A) (fun _=>({ tm:=[0,3],ob:=[],fin:=some ([0,2],[]) }:Hint)) k (sub (f41.body.getD .skip) [1,0,1,0,0])) ({ tm:=[0,3],ob:=[],fin:=some ([0,2],[]) }:Hint) (m+1) σ) =
 some (if noZ (s.data.toList.drop i)=true then (.exit 0,⟨[(0,.str s)],[]⟩) else (.ret,⟨[(0,.str s),(2,.bool false)],[]⟩)):=by
 simp only[f41,sub,Option.getD_some]
 have hsz:s.size=s.data.toList.length:=by simp
 intro m
 induction m with
 | zero=>
   intro i σ hi hσ
   have h1:¬ ((i:Int) < (s.size:Int)):=by omega
   rw[aloop,hσ]
   simp only[go_sem,simprocAttr,h1]
   rw[List.drop_of_length_le (by omega)]
   simp[post,St.fin,keepL,aget,noZ]
 | succ m ih=>
   intro i σ hi hσ
   have h1:(i:Int) < (s.size:Int):=by omega
   have hlt:i < s.size:=by omega
   have hni:(0:Int)≤(i:Int):=Int.natCast_nonneg i
   have hget:=ba_get s i hlt
   have hw:IntKind.i64.wrap ((i:Int)+1)=((i+1:Nat):Int):=by rw[wrap_i64 (by omega) (by omega)];omega
   have hd:s.data.toList.drop i=s.data.toList[i]::s.data.toList.drop (i+1):=List.drop_eq_getElem_cons (by omega)
   rw[aloop,hσ,hd]
   generalize s.data.toList[i]=y at *
   rw[noZ_cons]
   cases hz:(((y.toNat:Nat):Int)==0)
   all_goals
    simp only[go_sem,simprocAttr,h1,hni,hget,hw,hz]
    try simp only[BL]
    first
    | (simp[post,St.fin,keepL,aget];done)
    | exact ih (i+1) _ (by omega) (by simp only[go_sem,simprocAttr])
theorem run41 (s:ByteArray) (hp:s.size≤9223372036854775807) (A:Nat→Prop):acall (env 17 8333 D0 [] [] A) (fun _=>({ tm:=[0,3],ob:=[],fin:=some ([0,2],[]) }:Hint)) (s.size+1) f41 [.str s]=some (.bool (strOkF s)):=by
 have hl:=loop41 s hp A (s.size+1) s.size 0
 simp only[f41,sub,Option.getD_some,List.drop_zero] at hl
 rw[strOk_r]
 simp only[acall,macall,f41]
 simp only[go_sem,simprocAttr]
 rw[hl _ (by simp) (by simp only[go_sem,simprocAttr])]
 cases h:noZ s.data.toList
 ·simp only[go_sem,simprocAttr]
  try rfl
 ·cases h2:decide ((s.size:Int)≤64)
  all_goals
   simp only[go_sem,simprocAttr,h2]
   try rfl
noncomputable def c41:=famP (α:=ByteArray) (fun s=>s.size≤9223372036854775807) (fun s=>[.str s]) (fun s=> .bool (strOkF s))
theorem c41_eq (s:ByteArray) (hp:s.size≤9223372036854775807):c41 [.str s]=some (.bool (strOkF s)):=fam_eq (fun s s' hp hp' h'=>by
 simp only[INJ] at h'
 obtain rfl:=h'
 rfl) (s) hp
theorem snd41:Snd 41 c41:=fam_snd h41 rfl rfl fun s hp=>rc h41 (fun A=>run41 s hp A) (fun _=>[]) rfl rfl rfl (by kernel_rfl) trivial trivial
theorem letter_all:∀ k:Fin 256,letterF (k.val:Nat)=(((decide (97≤((k.val:Nat):Int))&&decide (((k.val:Nat):Int)≤122)) || (decide (65≤((k.val:Nat):Int))&&decide (((k.val:Nat):Int)≤90))) || (((k.val:Nat):Int)==95))∧digitF (k.val:Nat) = !(decide (((k.val:Nat):Int) < 48) || decide (57 < ((k.val:Nat):Int))):=by decide +kernel
theorem bad_r (i:Nat) (y:UInt8):badF i y.toNat=(!((((decide (97≤((y.toNat:Nat):Int))&&decide (((y.toNat:Nat):Int)≤122)) || (decide (65≤((y.toNat:Nat):Int))&&decide (((y.toNat:Nat):Int)≤90))) || (((y.toNat:Nat):Int)==95)))&&(decide (i=0) || (decide (((y.toNat:Nat):Int) < 48) || decide (57 < ((y.toNat:Nat):Int))))):=by
 have h:=letter_all ⟨y.toNat,y.toNat_lt⟩
 unfold badF
 rw[h.1,h.2,Bool.not_not]
theorem h75:Tryz.prog.funcs[75]? = some f75:=by kernel_rfl
theorem loop75 (s:ByteArray) (hlim:s.size≤9223372036854775807) (A:Nat→Prop) (k:Nat):∀ (m i:Nat) (σ:St),i+m=s.size→
 σ.keep ({ tm:=[0,3],ob:=[],fin:=some ([0,2],[]) }:Hint)=⟨[(0,.str s),(3,.int .i64 i)],[]⟩→
 post ({ tm:=[0,3],ob:=[],fin:=some ([0,2],[]) }:Hint) (aloop ty (arun (env 55 70368744178237 D0 [] [] A) (fun _=>({ tm:=[0,3],ob:=[],fin:=some ([0,2],[]) }:Hint)) k (sub (f75.body.getD .skip) [1,0,1,0,0])) ({ tm:=[0,3],ob:=[],fin:=some ([0,2],[]) }:Hint) (m+1) σ) =
 some (if okFrom (s.data.toList.drop i) i=true then (.exit 0,⟨[(0,.str s)],[]⟩) else (.ret,⟨[(0,.str s),(2,.bool false)],[]⟩)):=by
 simp only[f75,sub,Option.getD_some]
 have hsz:s.size=s.data.toList.length:=by simp
 intro m
 induction m with
 | zero=>
   intro i σ hi hσ
   have h1:¬ ((i:Int) < (s.size:Int)):=by omega
   rw[aloop,hσ]
   simp only[go_sem,simprocAttr,h1]
   rw[List.drop_of_length_le (by omega)]
   simp[post,St.fin,keepL,aget,okFrom]
 | succ m ih=>
   intro i σ hi hσ
   have h1:(i:Int) < (s.size:Int):=by omega
   have hlt:i < s.size:=by omega
   have hni:(0:Int)≤(i:Int):=Int.natCast_nonneg i
   have hget:=ba_get s i hlt
   have hw:IntKind.i64.wrap ((i:Int)+1)=((i+1:Nat):Int):=by rw[wrap_i64 (by omega) (by omega)];omega
   have hd:s.data.toList.drop i=s.data.toList[i]::s.data.toList.drop (i+1):=List.drop_eq_getElem_cons (by omega)
   rw[aloop,hσ,hd]
   generalize s.data.toList[i]=y at *
   have hb:=bad_r i y
   have hz:(((i:Nat):Int)==0)=decide (i=0):=by
    by_cases e:i=0
    ·subst e;rfl
    ·simp[e]
   cases b1:decide (97≤((y.toNat:Nat):Int))
   ·cases b3:decide (65≤((y.toNat:Nat):Int))
    ·cases b5:(((y.toNat:Nat):Int)==95)
     ·cases b6:decide (i=0)
      ·cases b7:decide (((y.toNat:Nat):Int) < 48)
       ·cases b8:decide (57 < ((y.toNat:Nat):Int))
        ·simp only[b1,b3,b5,b6,b7,b8,BL] at hb
         simp only[go_sem,simprocAttr,h1,hni,hget,hw,hz,b1,b3,b5,b6,b7,b8]
         simp only[okFrom,hb,BL]
         first
         | (simp[post,St.fin,keepL,aget];done)
         | exact ih (i+1) _ (by omega) (by simp only[go_sem,simprocAttr])
        ·simp only[b1,b3,b5,b6,b7,b8,BL] at hb
         simp only[go_sem,simprocAttr,h1,hni,hget,hw,hz,b1,b3,b5,b6,b7,b8]
         simp only[okFrom,hb,BL]
         first
         | (simp[post,St.fin,keepL,aget];done)
         | exact ih (i+1) _ (by omega) (by simp only[go_sem,simprocAttr])
       ·simp only[b1,b3,b5,b6,b7,BL] at hb
        simp only[go_sem,simprocAttr,h1,hni,hget,hw,hz,b1,b3,b5,b6,b7]
        simp only[okFrom,hb,BL]
        first
        | (simp[post,St.fin,keepL,aget];done)
        | exact ih (i+1) _ (by omega) (by simp only[go_sem,simprocAttr])
      ·simp only[b1,b3,b5,b6,BL] at hb
       simp only[go_sem,simprocAttr,h1,hni,hget,hw,hz,b1,b3,b5,b6]
       simp only[okFrom,hb,BL]
       first
       | (simp[post,St.fin,keepL,aget];done)
       | exact ih (i+1) _ (by omega) (by simp only[go_sem,simprocAttr])
     ·simp only[b1,b3,b5,BL] at hb
      simp only[go_sem,simprocAttr,h1,hni,hget,hw,hz,b1,b3,b5]
      simp only[okFrom,hb,BL]
      first
      | (simp[post,St.fin,keepL,aget];done)
      | exact ih (i+1) _ (by omega) (by simp only[go_sem,simprocAttr])
    ·cases b4:decide (((y.toNat:Nat):Int)≤90)
     ·cases b5:(((y.toNat:Nat):Int)==95)
      ·cases b6:decide (i=0)
       ·cases b7:decide (((y.toNat:Nat):Int) < 48)
        ·cases b8:decide (57 < ((y.toNat:Nat):Int))
         ·simp only[b1,b3,b4,b5,b6,b7,b8,BL] at hb
          simp only[go_sem,simprocAttr,h1,hni,hget,hw,hz,b1,b3,b4,b5,b6,b7,b8]
          simp only[okFrom,hb,BL]
          first
          | (simp[post,St.fin,keepL,aget];done)
          | exact ih (i+1) _ (by omega) (by simp only[go_sem,simprocAttr])
         ·simp only[b1,b3,b4,b5,b6,b7,b8,BL] at hb
          simp only[go_sem,simprocAttr,h1,hni,hget,hw,hz,b1,b3,b4,b5,b6,b7,b8]
          simp only[okFrom,hb,BL]
          first
          | (simp[post,St.fin,keepL,aget];done)
          | exact ih (i+1) _ (by omega) (by simp only[go_sem,simprocAttr])
        ·simp only[b1,b3,b4,b5,b6,b7,BL] at hb
         simp only[go_sem,simprocAttr,h1,hni,hget,hw,hz,b1,b3,b4,b5,b6,b7]
         simp only[okFrom,hb,BL]
         first
         | (simp[post,St.fin,keepL,aget];done)
         | exact ih (i+1) _ (by omega) (by simp only[go_sem,simprocAttr])
       ·simp only[b1,b3,b4,b5,b6,BL] at hb
        simp only[go_sem,simprocAttr,h1,hni,hget,hw,hz,b1,b3,b4,b5,b6]
        simp only[okFrom,hb,BL]
        first
        | (simp[post,St.fin,keepL,aget];done)
        | exact ih (i+1) _ (by omega) (by simp only[go_sem,simprocAttr])
      ·simp only[b1,b3,b4,b5,BL] at hb
       simp only[go_sem,simprocAttr,h1,hni,hget,hw,hz,b1,b3,b4,b5]
       simp only[okFrom,hb,BL]
       first
       | (simp[post,St.fin,keepL,aget];done)
       | exact ih (i+1) _ (by omega) (by simp only[go_sem,simprocAttr])
     ·simp only[b1,b3,b4,BL] at hb
      simp only[go_sem,simprocAttr,h1,hni,hget,hw,hz,b1,b3,b4]
      simp only[okFrom,hb,BL]
      first
      | (simp[post,St.fin,keepL,aget];done)
      | exact ih (i+1) _ (by omega) (by simp only[go_sem,simprocAttr])
   ·cases b2:decide (((y.toNat:Nat):Int)≤122)
    ·cases b3:decide (65≤((y.toNat:Nat):Int))
     ·cases b5:(((y.toNat:Nat):Int)==95)
      ·cases b6:decide (i=0)
       ·cases b7:decide (((y.toNat:Nat):Int) < 48)
        ·cases b8:decide (57 < ((y.toNat:Nat):Int))
         ·simp only[b1,b2,b3,b5,b6,b7,b8,BL] at hb
          simp only[go_sem,simprocAttr,h1,hni,hget,hw,hz,b1,b2,b3,b5,b6,b7,b8]
          simp only[okFrom,hb,BL]
          first
          | (simp[post,St.fin,keepL,aget];done)
          | exact ih (i+1) _ (by omega) (by simp only[go_sem,simprocAttr])
         ·simp only[b1,b2,b3,b5,b6,b7,b8,BL] at hb
          simp only[go_sem,simprocAttr,h1,hni,hget,hw,hz,b1,b2,b3,b5,b6,b7,b8]
          simp only[okFrom,hb,BL]
          first
          | (simp[post,St.fin,keepL,aget];done)
          | exact ih (i+1) _ (by omega) (by simp only[go_sem,simprocAttr])
        ·simp only[b1,b2,b3,b5,b6,b7,BL] at hb
         simp only[go_sem,simprocAttr,h1,hni,hget,hw,hz,b1,b2,b3,b5,b6,b7]
         simp only[okFrom,hb,BL]
         first
         | (simp[post,St.fin,keepL,aget];done)
         | exact ih (i+1) _ (by omega) (by simp only[go_sem,simprocAttr])
       ·simp only[b1,b2,b3,b5,b6,BL] at hb
        simp only[go_sem,simprocAttr,h1,hni,hget,hw,hz,b1,b2,b3,b5,b6]
        simp only[okFrom,hb,BL]
        first
        | (simp[post,St.fin,keepL,aget];done)
        | exact ih (i+1) _ (by omega) (by simp only[go_sem,simprocAttr])
      ·simp only[b1,b2,b3,b5,BL] at hb
       simp only[go_sem,simprocAttr,h1,hni,hget,hw,hz,b1,b2,b3,b5]
       simp only[okFrom,hb,BL]
       first
       | (simp[post,St.fin,keepL,aget];done)
       | exact ih (i+1) _ (by omega) (by simp only[go_sem,simprocAttr])
     ·cases b4:decide (((y.toNat:Nat):Int)≤90)
      ·cases b5:(((y.toNat:Nat):Int)==95)
       ·cases b6:decide (i=0)
        ·cases b7:decide (((y.toNat:Nat):Int) < 48)
         ·cases b8:decide (57 < ((y.toNat:Nat):Int))
          ·simp only[b1,b2,b3,b4,b5,b6,b7,b8,BL] at hb
           simp only[go_sem,simprocAttr,h1,hni,hget,hw,hz,b1,b2,b3,b4,b5,b6,b7,b8]
           simp only[okFrom,hb,BL]
           first
           | (simp[post,St.fin,keepL,aget];done)
           | exact ih (i+1) _ (by omega) (by simp only[go_sem,simprocAttr])
          ·simp only[b1,b2,b3,b4,b5,b6,b7,b8,BL] at hb
           simp only[go_sem,simprocAttr,h1,hni,hget,hw,hz,b1,b2,b3,b4,b5,b6,b7,b8]
           simp only[okFrom,hb,BL]
           first
           | (simp[post,St.fin,keepL,aget];done)
           | exact ih (i+1) _ (by omega) (by simp only[go_sem,simprocAttr])
         ·simp only[b1,b2,b3,b4,b5,b6,b7,BL] at hb
          simp only[go_sem,simprocAttr,h1,hni,hget,hw,hz,b1,b2,b3,b4,b5,b6,b7]
          simp only[okFrom,hb,BL]
          first
          | (simp[post,St.fin,keepL,aget];done)
          | exact ih (i+1) _ (by omega) (by simp only[go_sem,simprocAttr])
        ·simp only[b1,b2,b3,b4,b5,b6,BL] at hb
         simp only[go_sem,simprocAttr,h1,hni,hget,hw,hz,b1,b2,b3,b4,b5,b6]
         simp only[okFrom,hb,BL]
         first
         | (simp[post,St.fin,keepL,aget];done)
         | exact ih (i+1) _ (by omega) (by simp only[go_sem,simprocAttr])
       ·simp only[b1,b2,b3,b4,b5,BL] at hb
        simp only[go_sem,simprocAttr,h1,hni,hget,hw,hz,b1,b2,b3,b4,b5]
        simp only[okFrom,hb,BL]
        first
        | (simp[post,St.fin,keepL,aget];done)
        | exact ih (i+1) _ (by omega) (by simp only[go_sem,simprocAttr])
      ·simp only[b1,b2,b3,b4,BL] at hb
       simp only[go_sem,simprocAttr,h1,hni,hget,hw,hz,b1,b2,b3,b4]
       simp only[okFrom,hb,BL]
       first
       | (simp[post,St.fin,keepL,aget];done)
       | exact ih (i+1) _ (by omega) (by simp only[go_sem,simprocAttr])
    ·simp only[b1,b2,BL] at hb
     simp only[go_sem,simprocAttr,h1,hni,hget,hw,hz,b1,b2]
     simp only[okFrom,hb,BL]
     first
     | (simp[post,St.fin,keepL,aget];done)
     | exact ih (i+1) _ (by omega) (by simp only[go_sem,simprocAttr])
theorem run75 (s:ByteArray) (hp:s.size≤9223372036854775807) (A:Nat→Prop):acall (env 55 70368744178237 D0 [] [] A) (fun _=>({ tm:=[0,3],ob:=[],fin:=some ([0,2],[]) }:Hint)) (s.size+1) f75 [.str s]=some (.bool (nameF s)):=by
 have hl:=loop75 s hp A (s.size+1) s.size 0
 simp only[f75,sub,Option.getD_some,List.drop_zero] at hl
 have hq:decide ((s.size:Int)≤31)=decide (s.size≤31):=by by_cases e:s.size≤31 <;> simp[e] <;> omega
 have hq0:decide (0 < (s.size:Int)) = !(s.toList==(⟨#[]⟩:ByteArray).toList):=by
  rw[ByteArray.toList_eq,ByteArray.toList_eq]
  have hsz:s.size=s.data.toList.length:=by simp
  rw[hsz]
  cases s.data.toList <;> simp
 simp only[nameF,← hq0,← hq]
 simp only[acall,macall,f75]
 simp only[go_sem,simprocAttr]
 rw[hl _ (by simp) (by simp only[go_sem,simprocAttr])]
 cases h:okFrom s.data.toList 0
 ·simp only[go_sem,simprocAttr]
  try rfl
 ·cases h2:decide (0 < (s.size:Int)) <;> cases h3:decide ((s.size:Int)≤31)
  all_goals
   simp only[go_sem,simprocAttr,h2,h3]
   try rfl
noncomputable def c75:=famP (α:=ByteArray) (fun s=>s.size≤9223372036854775807) (fun s=>[.str s]) (fun s=> .bool (nameF s))
theorem c75_eq (s:ByteArray) (hp:s.size≤9223372036854775807):c75 [.str s]=some (.bool (nameF s)):=fam_eq (fun s s' hp hp' h'=>by
 simp only[INJ] at h'
 obtain rfl:=h'
 rfl) (s) hp
theorem snd75:Snd 75 c75:=fam_snd h75 rfl rfl fun s hp=>rc h75 (fun A=>run75 s hp A) (fun _=>[]) rfl rfl rfl (by kernel_rfl) trivial trivial
end Go.Proofs.Tryz
end
