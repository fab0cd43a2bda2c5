/- Part of the proof of one statement of this seat: an abstract machine for the program, its contracts, and the statement (no condition of our own). -/
import Derived.Test.YtbdbjpdlcemeaaaGreatDoorKp12
import Derived.Test.YtbdbjpdlcemeaaaGreatDoorKp13
import Derived.Test.YtbdbjpdlcemeaaaGreatDoorKp14
set_option linter.unusedSimpArgs false
set_option linter.unusedVariables false
section
set_option maxHeartbeats 4000000
set_option maxRecDepth 20000
namespace Go.Proofs.Tryz
open Go Go.Abs
variable (ops : List XOp) (ints : List Int) (strs : List ByteArray) (rels : List XRel)
theorem h18:Tryz.prog.funcs[18]? = some f18:=by kernel_rfl
def H18:Nat→Hint:=fun i=>if i=2 then ({ tm:=[0,3,5],ob:=[3],fin:=some ([0,3,4],[3]) }:Hint) else { tm:=[],ob:=[] }
theorem H18_2:H18 2=({ tm:=[0,3,5],ob:=[3],fin:=some ([0,3,4],[3]) }:Hint):=by simp[H18]
theorem loop18_2 (ls:List XStep) (r q:Int) (hn:ls.length≤100000) (A:Nat→Prop) (k:Nat):∀ (m i:Nat) (σ:St),i+m=ls.length→
 σ.keep (H18 2)=⟨[(0,.sl 29 gF (ls.map eStep)),(3,.ptr 3 (.box 29) []),(5,.int .i64 i)],[(3,⟨.box 29,true,[.st 29 [.int .i64 r,.int .i64 q]]⟩)]⟩→
 post (H18 2) (aloop ty (arun (env 18 131643 D0 [] [] A) H18 k (sub (f18.body.getD .skip) [1,0,1,0,0])) (H18 2) (m+1) σ)=some (if ((ls.drop i).any fun x=>x.rule==r&&x.at_==q)=true then (.ret,⟨[(0,.sl 29 gF (ls.map eStep)),(3,.ptr 3 (.box 29) []),(4,.bool true)],[(3,⟨.box 29,true,[.st 29 [.int .i64 r,.int .i64 q]]⟩)]⟩) else (.exit 0,⟨[(0,.sl 29 gF (ls.map eStep)),(3,.ptr 3 (.box 29) [])],[(3,⟨.box 29,true,[.st 29 [.int .i64 r,.int .i64 q]]⟩)]⟩)):=by
 simp only[f18,sub,Option.getD_some,H18_2]
 intro m
 induction m with
 | zero=>
   intro i σ hi hσ
   have h1:¬ ((i:Int) < ((ls.length:Nat):Int)):=by omega
   have h8:ls.drop i=[]:=List.drop_of_length_le (by omega)
   rw[aloop,hσ]
   simp only[go_sem,simprocAttr,h1]
   simp[post,St.fin,keepL,aget,h8]
 | succ m ih=>
   intro i σ hi hσ
   have h1:(i:Int) < ((ls.length:Nat):Int):=by omega
   have hlt:i < ls.length:=by omega
   have hni:(0:Int)≤(i:Int):=Int.natCast_nonneg i
   have hw:IntKind.i64.wrap ((i:Int)+1)=((i+1:Nat):Int):=wrap_nat (by omega)
   have hget:=getD_get (d:=(⟨0,0⟩:XStep)) hlt
   have hd:ls.drop i=ls[i]'hlt::ls.drop (i+1):=List.drop_eq_getElem_cons hlt
   rw[show ls.getD i ⟨0,0⟩=ls[i]'hlt by simp[List.getD,List.getElem?_eq_getElem hlt]] at hget
   rw[aloop,hσ]
   rw[hd,List.any_cons]
   generalize ls[i]=x at *
   cases hv:(x.rule==r) <;> cases hv2:(x.at_==q)
   all_goals
    simp only[go_sem,simprocAttr,h1,hni,hw,hget,hv,hv2,eStep]
    try simp only[BL]
    first
    | (simp[post,St.fin,keepL,aget];done)
    | exact ih (i+1) _ (by omega) (by simp only[go_sem,simprocAttr])
theorem run18 (ls:List XStep) (r q:Int) (hp:ls.length≤100000) (A:Nat→Prop):acall (env 18 131643 D0 [] [] A) (H18) (100010) f18 [.sl 29 gF (ls.map eStep),.st 29 [.int .i64 r,.int .i64 q]]=some (.bool (ls.any fun x=>x.rule==r&&x.at_==q)):=by
 have hl:=loop18_2 ls r q hp A 100010 ls.length 0
 simp only[f18,sub,Option.getD_some,H18_2,List.drop_zero] at hl
 simp only[acall,macall,f18]
 simp only[go_sem,simprocAttr,H18_2]
 rw[post_le (hl _ (by simp) (by simp only[go_sem,simprocAttr])) (by omega)]
 cases h:(ls.any fun x=>x.rule==r&&x.at_==q)
 all_goals
  simp only[BL]
  simp only[go_sem,simprocAttr,H18_2]
  try rfl
noncomputable def c18:=famP (α:=(List XStep) × Int × Int) (fun (ls,r,q)=>ls.length≤100000) (fun (ls,r,q)=>[.sl 29 gF (ls.map eStep),.st 29 [.int .i64 r,.int .i64 q]]) (fun (ls,r,q)=> .bool (ls.any fun x=>x.rule==r&&x.at_==q))
theorem c18_eq (ls:List XStep) (r q:Int) (hp:ls.length≤100000):c18 [.sl 29 gF (ls.map eStep),.st 29 [.int .i64 r,.int .i64 q]]=some (.bool (ls.any fun x=>x.rule==r&&x.at_==q)):=fam_eq (fun X Y hp hp' h'=>by
 obtain⟨ls,r,q⟩:=X;obtain⟨ls',r',q'⟩:=Y;simp only[INJ] at h'
 obtain⟨rfl,rfl,rfl⟩:=h'
 rfl) (ls,r,q) hp
theorem snd18:Snd 18 c18:=fam_snd h18 rfl rfl fun (ls,r,q) hp=>rc h18 (fun A=>run18 ls r q hp A) (fun i=>match i with | 4=>[0,0,3,7,0,31] | _=>[]) rfl rfl rfl (by kernel_rfl) trivial trivial
def uset (g:Nat→Bool) (us:List Int):Nat→Bool:=fun i=>g i || us.any fun u=>i==u.toNat
def dset (g:Nat→Bool) (o:XOp):Nat→Bool:=fun i=>g i || ((formF o.op).d&&i==o.d.toNat)
def oset (g:Nat→Bool) (o:XOp):Nat→Bool:=uset (dset g o) (usesF o.op o.a o.b)
def nmF (ops:List XOp):Nat→Bool:=ops.foldl oset fun _=>false
theorem uset_nil (g:Nat→Bool):uset g []=g:=by funext i;simp[uset]
theorem bits_uset (g:Nat→Bool) (u:Int) (us:List Int):(bits8 g).set u.toNat (.bool true)=bits8 (uset g [u])∧uset (uset g [u]) us=uset g (u::us):=by
 constructor
 ·rw[bits8_set];apply bits8_congr;intro i _
  by_cases h:i=u.toNat <;> simp[uset,h]
 ·funext i;simp[uset,Bool.or_assoc]
theorem bits_dset (g:Nat→Bool) (o:XOp) (h:(formF o.op).d=true):(bits8 g).set o.d.toNat (.bool true)=bits8 (dset g o):=by
 rw[bits8_set];apply bits8_congr;intro i _
 by_cases e:i=o.d.toNat <;> simp[dset,h,e]
theorem dset_no (g:Nat→Bool) (o:XOp) (h:(formF o.op).d=false):dset g o=g:=by funext i;simp[dset,h]
theorem uses_in {ops:List XOp} {li ls:Nat} {q:Int} {o:XOp} (h:OpOk ops.length li ls q o):(usesF o.op o.a o.b).length≤2∧∀ u ∈ usesF o.op o.a o.b,0≤u∧u.toNat < 8:=by
 unfold usesF
 constructor
 ·split <;> split <;> simp
 ·intro u hu
  rcases List.mem_append.1 hu with h1 | h1 <;> split at h1 <;> simp at h1
  ·subst h1;exact h.a
  ·subst h1;exact h.b
theorem h19:Tryz.prog.funcs[19]? = some f19:=by kernel_rfl
def H19:Nat→Hint:=fun i=>if i=3 then ({ tm:=[1,2,3,4],ob:=[1,2,3],fin:=some ([1,2,3],[1,2,3]) }:Hint) else if i=10 then ({ tm:=[1,2,3,4,7,8],ob:=[1,2,3],fin:=some ([1,2,3,4],[1,2,3]) }:Hint) else { tm:=[],ob:=[] }
theorem H19_3:H19 3=({ tm:=[1,2,3,4],ob:=[1,2,3],fin:=some ([1,2,3],[1,2,3]) }:Hint):=by simp[H19]
theorem H19_10:H19 10=({ tm:=[1,2,3,4,7,8],ob:=[1,2,3],fin:=some ([1,2,3,4],[1,2,3]) }:Hint):=by simp[H19]
theorem loop19_10 (o1 o2:Abs.Obj) (j:Nat) (us:List Int) (hus:us.length≤2) (hr:∀ u ∈ us,0≤u∧u.toNat < 8) (A:Nat→Prop) (k:Nat):∀ (m i:Nat) (g:Nat→Bool) (σ:St),i+m=us.length→
 σ.keep (H19 10)=⟨[(1,.ptr 1 (.box 27) []),(2,.ptr 2 (.box 50) []),(3,.ptr 3 (.box 50) []),(4,.int .i64 j),(7,.sl 3 gT (us.map eI)),(8,.int .i64 i)],[(1,o1),(2,o2),(3,⟨.box 50,true,[.ar 50 (bits8 g)]⟩)]⟩→
 post (H19 10) (aloop ty (arun (env 46 137472516607 D0 [(39,c39),(40,c40)] [] A) H19 k (sub (f19.body.getD .skip) [1,1,0,1,0,0,1,0,0,1,1,1,1,0,0])) (H19 10) (m+1) σ)=some (.exit 2,⟨[(1,.ptr 1 (.box 27) []),(2,.ptr 2 (.box 50) []),(3,.ptr 3 (.box 50) []),(4,.int .i64 j)],[(1,o1),(2,o2),(3,⟨.box 50,true,[.ar 50 (bits8 (uset g (us.drop i)))]⟩)]⟩):=by
 simp only[f19,sub,Option.getD_some,H19_10]
 intro m
 induction m with
 | zero=>
   intro i g σ hi hσ
   have h1:¬ ((i:Int) < ((us.length:Nat):Int)):=by omega
   have h8:us.drop i=[]:=List.drop_of_length_le (by omega)
   rw[aloop,hσ]
   simp only[go_sem,simprocAttr,h1]
   simp[post,St.fin,keepL,aget,h8,uset_nil]
 | succ m ih=>
   intro i g σ hi hσ
   have h1:(i:Int) < ((us.length:Nat):Int):=by omega
   have hlt:i < us.length:=by omega
   have hni:(0:Int)≤(i:Int):=Int.natCast_nonneg i
   have hw:IntKind.i64.wrap ((i:Int)+1)=((i+1:Nat):Int):=wrap_nat (by omega)
   have hget:=getD_get (d:=(0:Int)) hlt
   have hd:us.drop i=us[i]'hlt::us.drop (i+1):=List.drop_eq_getElem_cons hlt
   rw[show us.getD i 0=us[i]'hlt by simp[List.getD,List.getElem?_eq_getElem hlt]] at hget
   obtain⟨hq0,hqn⟩:=hr _ (List.getElem_mem hlt)
   have hqi:us[i]'hlt < (8:Int):=by omega
   have hb:=bits_uset g (us[i]'hlt) (us.drop (i+1))
   have hlb:=bits8_len g
   have hg1:=bits8_get g hqn
   rw[aloop,hσ]
   rw[hd]
   generalize us[i]=u at *
   obtain⟨hb1,hb2⟩:=hb
   rw[← hb2]
   simp only[go_sem,simprocAttr,h1,hni,hw,hget,hq0,hqn,hqi,hlb,hg1,hb1]
   exact ih (i+1) _ _ (by omega) (by simp only[go_sem,simprocAttr])
theorem loop19_3 (hp:(ops.length≤100000∧ints.length≤100000∧strs.length≤100000∧rels.length≤100000)∧checkF ops ints strs rels=true) (o2:Abs.Obj) (A:Nat→Prop) (k:Nat) (hk:10≤k):∀ (m i:Nat) (g:Nat→Bool) (σ:St),i+m=ops.length→
 σ.keep (H19 3)=⟨[(1,.ptr 1 (.box 27) []),(2,.ptr 2 (.box 50) []),(3,.ptr 3 (.box 50) []),(4,.int .i64 i)],[(1,⟨.box 27,false,[(cd ops ints strs rels)]⟩),(2,o2),(3,⟨.box 50,true,[.ar 50 (bits8 g)]⟩)]⟩→
 post (H19 3) (aloop ty (arun (env 46 137472516607 D0 [(39,c39),(40,c40)] [] A) H19 k (sub (f19.body.getD .skip) [1,1,0,1,0,0])) (H19 3) (m+1) σ)=some (.exit 0,⟨[(1,.ptr 1 (.box 27) []),(2,.ptr 2 (.box 50) []),(3,.ptr 3 (.box 50) [])],[(1,⟨.box 27,false,[(cd ops ints strs rels)]⟩),(2,o2),(3,⟨.box 50,true,[.ar 50 (bits8 ((ops.drop i).foldl oset g))]⟩)]⟩):=by
 simp only[f19,sub,Option.getD_some,H19_3]
 intro m
 induction m with
 | zero=>
   intro i g σ hi hσ
   have h1:¬ ((i:Int) < ((ops.length:Nat):Int)):=by omega
   have h8:ops.drop i=[]:=List.drop_of_length_le (by omega)
   rw[aloop,hσ]
   simp only[go_sem,simprocAttr,h1]
   simp[post,St.fin,keepL,aget,h8]
 | succ m ih=>
   intro i g σ hi hσ
   have h1:(i:Int) < ((ops.length:Nat):Int):=by omega
   have hlt:i < ops.length:=by omega
   have hni:(0:Int)≤(i:Int):=Int.natCast_nonneg i
   have hw:IntKind.i64.wrap ((i:Int)+1)=((i+1:Nat):Int):=wrap_nat (by omega)
   have hget:=getD_get (d:=op0) hlt
   have hd:ops.drop i=ops[i]'hlt::ops.drop (i+1):=List.drop_eq_getElem_cons hlt
   have hop:=right_ok ((check_good hp.2).right i hlt)
   rw[Int.toNat_natCast] at hop
   rw[show ops.getD i op0=ops[i]'hlt by simp[List.getD,List.getElem?_eq_getElem hlt]] at hget hop
   rw[hd,List.foldl_cons]
   generalize ops[i]=o at *
   obtain⟨hd0,hdn⟩:=hop.d
   have hdi:o.d < (8:Int):=by omega
   have hlb:=bits8_len g
   have hg1:=bits8_get g hdn
   obtain⟨u1,u2⟩:=uses_in hop
   have hl:=fun g=>loop19_10  ⟨.box 27,false,[(cd ops ints strs rels)]⟩ o2 i (usesF o.op o.a o.b) u1 u2 A k (usesF o.op o.a o.b).length 0 g
   simp only[f19,sub,Option.getD_some,H19_10,List.drop_zero] at hl
   have e39:=c39_eq o.op o.d o.a o.b o.n
   have e40:=c40_eq o.op o.d o.a o.b o.n
   rw[aloop,hσ]
   cases h:(formF o.op).d
   ·rw[h] at e39
    have hdn2:=dset_no g o h
    simp only[BL] at e39
    simp only[go_sem,simprocAttr,h1,hni,hw,hget,e39,e40,H19_10]
    rw[post_le (hl g _ (by simp) (by simp only[go_sem,simprocAttr])) (by omega)]
    simp only[go_sem,simprocAttr,hw]
    rw[show oset g o=uset g (usesF o.op o.a o.b) by unfold oset;rw[hdn2]]
    exact ih (i+1) (uset g (usesF o.op o.a o.b)) _ (by omega) (by simp only[go_sem,simprocAttr])
   ·rw[h] at e39
    have hb1:=bits_dset g o h
    simp only[BL] at e39
    simp only[go_sem,simprocAttr,h1,hni,hw,hget,e39,e40,H19_10,hd0,hdn,hdi,hlb,hg1,hb1]
    rw[post_le (hl (dset g o) _ (by simp) (by simp only[go_sem,simprocAttr])) (by omega)]
    simp only[go_sem,simprocAttr,hw]
    exact ih (i+1) (oset g o) _ (by omega) (by simp only[go_sem,simprocAttr,oset])
theorem run19 (hp:(ops.length≤100000∧ints.length≤100000∧strs.length≤100000∧rels.length≤100000)∧checkF ops ints strs rels=true) (A:Nat→Prop):acall (env 46 137472516607 D0 [(39,c39),(40,c40)] [] A) (H19) (100010) f19 [(cd ops ints strs rels)]=some (.ar 50 (bits8 (nmF ops))):=by
 have hl:=loop19_3 ops ints strs rels hp ⟨.box 50,true,[.ar 50 (bits8 fun _=>false)]⟩ A 100010 (by omega) ops.length 0 (fun _=>false)
 simp only[f19,sub,Option.getD_some,H19_3,List.drop_zero] at hl
 have hb8:bits8 (fun _=>false)=[.bool false,.bool false,.bool false,.bool false,.bool false,.bool false,.bool false,.bool false]:=rfl
 rw[hb8] at hl
 simp only[acall,macall,f19]
 simp only[go_sem,simprocAttr,c39_eq,c40_eq,H19_3]
 rw[post_le (hl _ (by simp) (by simp only[go_sem,simprocAttr])) (by omega)]
 simp only[go_sem,simprocAttr,c39_eq,c40_eq,H19_3]
 try rfl
noncomputable def c19:=famP (α:=(List XOp) × (List Int) × (List ByteArray) × (List XRel)) (fun (ops,ints,strs,rels)=>(ops.length≤100000∧ints.length≤100000∧strs.length≤100000∧rels.length≤100000)∧checkF ops ints strs rels=true) (fun (ops,ints,strs,rels)=>[(cd ops ints strs rels)]) (fun (ops,ints,strs,rels)=> .ar 50 (bits8 (nmF ops)))
theorem c19_eq (hp:(ops.length≤100000∧ints.length≤100000∧strs.length≤100000∧rels.length≤100000)∧checkF ops ints strs rels=true):c19 [(cd ops ints strs rels)]=some (.ar 50 (bits8 (nmF ops))):=fam_eq (fun X Y hp hp' h'=>by
 obtain⟨ops,ints,strs,rels⟩:=X;obtain⟨ops',ints',strs',rels'⟩:=Y;simp only[INJ] at h'
 obtain⟨rfl,rfl,rfl,rfl⟩:=h'
 rfl) (ops,ints,strs,rels) hp
theorem snd19:Snd 19 c19:=fam_snd h19 rfl rfl fun (ops,ints,strs,rels) hp=>rc h19 (fun A=>run19 ops ints strs rels hp A) (fun _=>[]) rfl rfl rfl (by kernel_rfl) ⟨snd39,snd40,trivial⟩ trivial
theorem rel_at {ops:List XOp} {ints:List Int} {strs:List ByteArray} {rels:List XRel} (hc:checkF ops ints strs rels=true) {r:XRel} (hr:r ∈ rels):0≤r.at_∧r.at_.toNat < ops.length:=by
 have hg:=check_good hc
 obtain⟨i,hi,e⟩:=List.getElem_of_mem hr
 have h1:=hg.rel i hi
 unfold relOkF at h1
 dsimp only at h1
 rw[Int.toNat_natCast,List.getD_eq_getElem?_getD,List.getElem?_eq_getElem hi,e] at h1
 simp only[Option.getD_some] at h1
 split at h1
 ·cases h1
 ·rename_i h2
  simp only[Bool.or_eq_true,Bool.not_eq_true',Bool.and_eq_false_iff,decide_eq_false_iff_not,not_or] at h2
  have:=hg.pos
  omega
theorem op_int {ops:List XOp} {ints:List Int} {strs:List ByteArray} {rels:List XRel} (hc:checkF ops ints strs rels=true) {q:Int} (h0:0≤q) (hq:q.toNat < ops.length) (h1:((ops.getD q.toNat op0).op==1)=true):0≤(ops.getD q.toNat op0).n∧(ops.getD q.toNat op0).n.toNat < ints.length:=by
 have h:=right_ok ((check_good hc).right _ hq)
 rw[Int.toNat_natCast] at h
 exact fits_int h.fit h1
def kMatch (x c:XCode) (r s:XRel):Bool:=(r.kind==s.kind)&&((r.str.toList==s.str.toList)&&((r.mem.toList==s.mem.toList)&&((x.ops.getD r.at_.toNat op0).op==(c.ops.getD s.at_.toNat op0).op)))
def kInt (x c:XCode) (r s:XRel):Bool:= !((x.ops.getD r.at_.toNat op0).op==1) || (x.ints.getD (x.ops.getD r.at_.toNat op0).n.toNat 0==c.ints.getD (c.ops.getD s.at_.toNat op0).n.toNat 0)
def kOne (x c:XCode) (r:XRel):Bool:=c.rels.any fun s=>kMatch x c r s&&kInt x c r s
def keptF (x c:XCode):Bool:=x.rels.all (kOne x c)&&decide (x.rels.length≤c.rels.length)
theorem h21:Tryz.prog.funcs[21]? = some f21:=by kernel_rfl
def H21:Nat→Hint:=fun i=>if i=2 then ({ tm:=[2,3,5],ob:=[2,3],fin:=some ([2,3,4],[2,3]) }:Hint) else if i=7 then ({ tm:=[2,3,5,6,7,8],ob:=[2,3,6],fin:=some ([2,3,5,7],[2,3]) }:Hint) else { tm:=[],ob:=[] }
theorem H21_2:H21 2=({ tm:=[2,3,5],ob:=[2,3],fin:=some ([2,3,4],[2,3]) }:Hint):=by simp[H21]
theorem H21_7:H21 7=({ tm:=[2,3,5,6,7,8],ob:=[2,3,6],fin:=some ([2,3,5,7],[2,3]) }:Hint):=by simp[H21]
theorem loop21_7 (x c:XCode) (hp:((x.ops.length≤100000∧x.ints.length≤100000∧x.strs.length≤100000∧x.rels.length≤100000)∧(c.ops.length≤100000∧c.ints.length≤100000∧c.strs.length≤100000∧c.rels.length≤100000))∧checkC x=true∧checkC c=true) (r:XRel) (hr:r ∈ x.rels) (j:Nat) (A:Nat→Prop) (k:Nat):∀ (m i:Nat) (f:Bool) (σ:St),i+m=c.rels.length→
 σ.keep (H21 7)=⟨[(2,.ptr 2 (.box 27) []),(3,.ptr 3 (.box 27) []),(5,.int .i64 j),(6,.ptr 6 (.box 90) []),(7,.bool f),(8,.int .i64 i)],[(2,⟨.box 27,false,[(cd x.ops x.ints x.strs x.rels)]⟩),(3,⟨.box 27,false,[(cd c.ops c.ints c.strs c.rels)]⟩),(6,⟨.box 90,true,[eRel r]⟩)]⟩→
 post (H21 7) (aloop ty (arun (env 115 162259276829803659201936783066111 D0 [] [] A) H21 k (sub (f21.body.getD .skip) [1,0,1,0,0,1,0,0,1,1,0,1,0,0])) (H21 7) (m+1) σ)=some (.exit 2,⟨[(2,.ptr 2 (.box 27) []),(3,.ptr 3 (.box 27) []),(5,.int .i64 j),(7,.bool (f || (c.rels.drop i).any fun s=>kMatch x c r s&&kInt x c r s))],[(2,⟨.box 27,false,[(cd x.ops x.ints x.strs x.rels)]⟩),(3,⟨.box 27,false,[(cd c.ops c.ints c.strs c.rels)]⟩)]⟩):=by
 simp only[f21,sub,Option.getD_some,H21_7]
 intro m
 induction m with
 | zero=>
   intro i f σ hi hσ
   have h1:¬ ((i:Int) < ((c.rels.length:Nat):Int)):=by omega
   have h8:c.rels.drop i=[]:=List.drop_of_length_le (by omega)
   rw[aloop,hσ]
   simp only[go_sem,simprocAttr,h1]
   simp[post,St.fin,keepL,aget,h8]
 | succ m ih=>
   intro i f σ hi hσ
   have h1:(i:Int) < ((c.rels.length:Nat):Int):=by omega
   have hlt:i < c.rels.length:=by omega
   have hni:(0:Int)≤(i:Int):=Int.natCast_nonneg i
   have hw:IntKind.i64.wrap ((i:Int)+1)=((i+1:Nat):Int):=wrap_nat (by omega)
   have hget:=getD_get (d:=(⟨0,0,⟨#[]⟩,⟨#[]⟩⟩:XRel)) hlt
   have hd:c.rels.drop i=c.rels[i]'hlt::c.rels.drop (i+1):=List.drop_eq_getElem_cons hlt
   rw[show c.rels.getD i ⟨0,0,⟨#[]⟩,⟨#[]⟩⟩=c.rels[i]'hlt by simp[List.getD,List.getElem?_eq_getElem hlt]] at hget
   have hsm:c.rels[i]'hlt ∈ c.rels:=List.getElem_mem hlt
   rw[hd,List.any_cons]
   obtain⟨s,hs⟩:∃ s,c.rels[i]'hlt=s:=⟨_,rfl⟩
   rw[hs] at hget hsm ⊢
   obtain⟨hx0,hxl⟩:=rel_at hp.2.1 hr
   obtain⟨hc0,hcl⟩:=rel_at hp.2.2 hsm
   have hgx:=getD_get (d:=op0) hxl
   have hgc:=getD_get (d:=op0) hcl
   have hxi:r.at_ < (x.ops.length:Int):=by omega
   have hci:s.at_ < (c.ops.length:Int):=by omega
   have hxn:=op_int (ints:=x.ints) hp.2.1 hx0 hxl
   have hcn:=op_int (ints:=c.ints) hp.2.2 hc0 hcl
   obtain⟨xo,hxo⟩:∃ o,x.ops.getD r.at_.toNat op0=o:=⟨_,rfl⟩
   obtain⟨co,hco⟩:∃ o,c.ops.getD s.at_.toNat op0=o:=⟨_,rfl⟩
   rw[hxo] at hgx hxn
   rw[hco] at hgc hcn
   have hm:kMatch x c r s=((r.kind==s.kind)&&((r.str.toList==s.str.toList)&&((r.mem.toList==s.mem.toList)&&(xo.op==co.op)))):=by unfold kMatch;rw[hxo,hco]
   have hq:kInt x c r s=(!(xo.op==1) || (x.ints.getD xo.n.toNat 0==c.ints.getD co.n.toNat 0)):=by unfold kInt;rw[hxo,hco]
   rw[hm,hq]
   rw[aloop,hσ]
   cases k1:(r.kind==s.kind)
   ·simp only[go_sem,simprocAttr,h1,hni,hw,hget,hx0,hxi,hgx,hc0,hci,hgc,k1]
    try simp only[k1,BL]
    exact ih (i+1) _ _ (by omega) (by simp only[go_sem,simprocAttr])
   ·cases k2:(r.str.toList==s.str.toList)
    ·simp only[go_sem,simprocAttr,h1,hni,hw,hget,hx0,hxi,hgx,hc0,hci,hgc,k1,k2]
     try simp only[k1,k2,BL]
     exact ih (i+1) _ _ (by omega) (by simp only[go_sem,simprocAttr])
    ·cases k3:(r.mem.toList==s.mem.toList)
     ·simp only[go_sem,simprocAttr,h1,hni,hw,hget,hx0,hxi,hgx,hc0,hci,hgc,k1,k2,k3]
      try simp only[k1,k2,k3,BL]
      exact ih (i+1) _ _ (by omega) (by simp only[go_sem,simprocAttr])
     ·cases k4:(xo.op==co.op)
      ·simp only[go_sem,simprocAttr,h1,hni,hw,hget,hx0,hxi,hgx,hc0,hci,hgc,k1,k2,k3,k4]
       try simp only[k1,k2,k3,k4,BL]
       exact ih (i+1) _ _ (by omega) (by simp only[go_sem,simprocAttr])
      ·cases f
       ·cases k5:(xo.op==1)
        ·simp only[go_sem,simprocAttr,h1,hni,hw,hget,hx0,hxi,hgx,hc0,hci,hgc,k1,k2,k3,k4,k5]
         try simp only[k1,k2,k3,k4,k5,BL]
         exact ih (i+1) true _ (by omega) (by simp only[go_sem,simprocAttr])
        ·cases k6:(x.ints.getD xo.n.toNat 0==c.ints.getD co.n.toNat 0)
         ·obtain⟨n1,n2⟩:=hxn k5
          obtain⟨n3,n4⟩:=hcn (by simp only[beq_iff_eq] at k4 k5 ⊢;omega)
          have n5:=getD_get (d:=(0:Int)) n2
          have n6:=getD_get (d:=(0:Int)) n4
          simp only[go_sem,simprocAttr,h1,hni,hw,hget,hx0,hxi,hgx,hc0,hci,hgc,k1,k2,k3,k4,k5,k6,n1,n3,n5,n6]
          try simp only[k1,k2,k3,k4,k5,k6,BL]
          exact ih (i+1) false _ (by omega) (by simp only[go_sem,simprocAttr])
         ·obtain⟨n1,n2⟩:=hxn k5
          obtain⟨n3,n4⟩:=hcn (by simp only[beq_iff_eq] at k4 k5 ⊢;omega)
          have n5:=getD_get (d:=(0:Int)) n2
          have n6:=getD_get (d:=(0:Int)) n4
          simp only[go_sem,simprocAttr,h1,hni,hw,hget,hx0,hxi,hgx,hc0,hci,hgc,k1,k2,k3,k4,k5,k6,n1,n3,n5,n6]
          try simp only[k1,k2,k3,k4,k5,k6,BL]
          exact ih (i+1) true _ (by omega) (by simp only[go_sem,simprocAttr])
       ·simp only[go_sem,simprocAttr,h1,hni,hw,hget,hx0,hxi,hgx,hc0,hci,hgc,k1,k2,k3,k4]
        try simp only[k1,k2,k3,k4,BL]
        exact ih (i+1) true _ (by omega) (by simp only[go_sem,simprocAttr])
theorem loop21_2 (x c:XCode) (hp:((x.ops.length≤100000∧x.ints.length≤100000∧x.strs.length≤100000∧x.rels.length≤100000)∧(c.ops.length≤100000∧c.ints.length≤100000∧c.strs.length≤100000∧c.rels.length≤100000))∧checkC x=true∧checkC c=true) (A:Nat→Prop) (k:Nat) (hk:100010≤k):∀ (m i:Nat) (σ:St),i+m=x.rels.length→
 σ.keep (H21 2)=⟨[(2,.ptr 2 (.box 27) []),(3,.ptr 3 (.box 27) []),(5,.int .i64 i)],[(2,⟨.box 27,false,[(cd x.ops x.ints x.strs x.rels)]⟩),(3,⟨.box 27,false,[(cd c.ops c.ints c.strs c.rels)]⟩)]⟩→
 post (H21 2) (aloop ty (arun (env 115 162259276829803659201936783066111 D0 [] [] A) H21 k (sub (f21.body.getD .skip) [1,0,1,0,0])) (H21 2) (m+1) σ)=some (if ((x.rels.drop i).all (kOne x c))=true then (.exit 0,⟨[(2,.ptr 2 (.box 27) []),(3,.ptr 3 (.box 27) [])],[(2,⟨.box 27,false,[(cd x.ops x.ints x.strs x.rels)]⟩),(3,⟨.box 27,false,[(cd c.ops c.ints c.strs c.rels)]⟩)]⟩) else (.ret,⟨[(2,.ptr 2 (.box 27) []),(3,.ptr 3 (.box 27) []),(4,.bool false)],[(2,⟨.box 27,false,[(cd x.ops x.ints x.strs x.rels)]⟩),(3,⟨.box 27,false,[(cd c.ops c.ints c.strs c.rels)]⟩)]⟩)):=by
 simp only[f21,sub,Option.getD_some,H21_2]
 intro m
 induction m with
 | zero=>
   intro i σ hi hσ
   have h1:¬ ((i:Int) < ((x.rels.length:Nat):Int)):=by omega
   have h8:x.rels.drop i=[]:=List.drop_of_length_le (by omega)
   rw[aloop,hσ]
   simp only[go_sem,simprocAttr,h1]
   simp[post,St.fin,keepL,aget,h8]
 | succ m ih=>
   intro i σ hi hσ
   have h1:(i:Int) < ((x.rels.length:Nat):Int):=by omega
   have hlt:i < x.rels.length:=by omega
   have hni:(0:Int)≤(i:Int):=Int.natCast_nonneg i
   have hw:IntKind.i64.wrap ((i:Int)+1)=((i+1:Nat):Int):=wrap_nat (by omega)
   have hget:=getD_get (d:=(⟨0,0,⟨#[]⟩,⟨#[]⟩⟩:XRel)) hlt
   have hd:x.rels.drop i=x.rels[i]'hlt::x.rels.drop (i+1):=List.drop_eq_getElem_cons hlt
   rw[show x.rels.getD i ⟨0,0,⟨#[]⟩,⟨#[]⟩⟩=x.rels[i]'hlt by simp[List.getD,List.getElem?_eq_getElem hlt]] at hget
   have hrm:x.rels[i]'hlt ∈ x.rels:=List.getElem_mem hlt
   rw[hd,List.all_cons]
   obtain⟨r,hr⟩:∃ r,x.rels[i]'hlt=r:=⟨_,rfl⟩
   rw[hr] at hget hrm ⊢
   have hl:=loop21_7 x c hp r hrm i A k c.rels.length 0 false
   have hlr:=hp.1.2.2.2.2
   simp only[f21,sub,Option.getD_some,H21_7,List.drop_zero,BL] at hl
   have hone:(c.rels.any fun s=>kMatch x c r s&&kInt x c r s)=kOne x c r:=rfl
   rw[hone] at hl
   rw[aloop,hσ]
   cases h:kOne x c r
   all_goals
    rw[h] at hl
    simp only[go_sem,simprocAttr,h1,hni,hw,hget,H21_7]
    rw[post_le (hl _ (by simp) (by simp only[go_sem,simprocAttr])) (by omega)]
    simp only[go_sem,simprocAttr,hw]
    first
    | (simp[post,St.fin,keepL,aget];done)
    | (try simp only[BL]
       exact ih (i+1) _ (by omega) (by simp only[go_sem,simprocAttr]))
theorem run21 (x c:XCode) (hp:((x.ops.length≤100000∧x.ints.length≤100000∧x.strs.length≤100000∧x.rels.length≤100000)∧(c.ops.length≤100000∧c.ints.length≤100000∧c.strs.length≤100000∧c.rels.length≤100000))∧checkC x=true∧checkC c=true) (A:Nat→Prop):acall (env 115 162259276829803659201936783066111 D0 [] [] A) (H21) (100010) f21 [(cd x.ops x.ints x.strs x.rels),(cd c.ops c.ints c.strs c.rels)]=some (.bool (keptF x c)):=by
 have hl:=loop21_2 x c hp A 100010 (by omega) x.rels.length 0
 simp only[f21,sub,Option.getD_some,H21_2,List.drop_zero] at hl
 simp only[acall,macall,f21]
 simp only[go_sem,simprocAttr,H21_2]
 rw[post_le (hl _ (by simp) (by simp only[go_sem,simprocAttr])) (by omega)]
 have hd:decide (x.rels.length≤c.rels.length)=decide ((x.rels.length:Int)≤(c.rels.length:Int)):=decide_eq_decide.2 (by omega)
 unfold keptF
 rw[hd]
 cases h:x.rels.all (kOne x c) <;> cases h2:decide ((x.rels.length:Int)≤(c.rels.length:Int))
 all_goals
  simp only[BL]
  simp only[go_sem,simprocAttr,H21_2,h2]
  try rfl
noncomputable def c21:=famP (α:=XCode × XCode) (fun (x,c)=>((x.ops.length≤100000∧x.ints.length≤100000∧x.strs.length≤100000∧x.rels.length≤100000)∧(c.ops.length≤100000∧c.ints.length≤100000∧c.strs.length≤100000∧c.rels.length≤100000))∧checkC x=true∧checkC c=true) (fun (x,c)=>[(cd x.ops x.ints x.strs x.rels),(cd c.ops c.ints c.strs c.rels)]) (fun (x,c)=> .bool (keptF x c))
theorem c21_eq (x c:XCode) (hp:((x.ops.length≤100000∧x.ints.length≤100000∧x.strs.length≤100000∧x.rels.length≤100000)∧(c.ops.length≤100000∧c.ints.length≤100000∧c.strs.length≤100000∧c.rels.length≤100000))∧checkC x=true∧checkC c=true):c21 [(cd x.ops x.ints x.strs x.rels),(cd c.ops c.ints c.strs c.rels)]=some (.bool (keptF x c)):=fam_eq (fun X Y hp hp' h'=>by
 obtain⟨x,c⟩:=X;obtain⟨x',c'⟩:=Y;simp only[INJ] at h'
 obtain⟨hi1,hi2,hi3,hi4,hi5,hi6,hi7,hi8⟩:=h'
 try dsimp only at hp hp' ⊢
 obtain rfl:c=c':=by cases c;cases c';simp only[XCode.mk.injEq];exact⟨hi5,hi6,hi7,hi8⟩
 obtain rfl:x=x':=by cases x;cases x';simp only[XCode.mk.injEq];exact⟨hi1,hi2,hi3,hi4⟩
 rfl) (x,c) hp
theorem snd21:Snd 21 c21:=fam_snd h21 rfl rfl fun (x,c) hp=>rc h21 (fun A=>run21 x c hp A) (fun i=>match i with | 10=>[0,1,0,4,15,31,63,127,63,319,1023,2047,4095,8191,16383,8191,40959,131071,262143,524287,1048575,2097151,1048575,5242879,16777215,33554431,67108863,1048575,135266303,1048575,537919487,2014314495,4161798143,8456765439,17179869183,34359738367] | 11=>[0,1,3,7,3,19,63,127,255,511,1023,2047,4095,8191,4095,20479,4095,69631,249855,511999,1036287,2097151,4194303,4095,8392703,4095,33558527,4095,134221823,503320575,1040191487,2113933311,4286582783,8581550079,17179869183,34359738367,68719476735] | _=>[]) rfl rfl rfl (by kernel_rfl) trivial trivial
end Go.Proofs.Tryz
end
