/- Part of the proof of one statement of this seat: an abstract machine for the program, its contracts, and the statement (no condition of our own). -/
import Derived.Test.YtbdbjpdlcemeaaaDoorDp05
import Derived.Test.YtbdbjpdlcemeaaaDoorDp12
import Derived.Test.YtbdbjpdlcemeaaaDoorDp16
import Derived.Test.YtbdbjpdlcemeaaaDoorDp17
set_option linter.unusedSimpArgs false
set_option linter.unusedVariables false
section
set_option maxHeartbeats 4000000
set_option maxRecDepth 20000
namespace Go.Proofs.Tryd
open Go Go.Abs
variable (ops : List XOp) (ints : List Int) (strs : List ByteArray) (rels : List XRel)
theorem h1021:Tryd.prog.funcs[21]? = some f21:=by kernel_rfl
def H1021:Nat→Hint:=fun i=>if i=4 then ({ tm:=[0,1,12,13],ob:=[],fin:=some ([0,1,12,13],[]) }:Hint) else { tm:=[],ob:=[] }
theorem H1021_4:H1021 4=({ tm:=[0,1,12,13],ob:=[],fin:=some ([0,1,12,13],[]) }:Hint):=by simp[H1021]
theorem loop1021_4 (ls:List XOp) (hn:ls.length≤10000000) (A:Nat→Prop) (k:Nat):∀ (m i:Nat) (σ:St),i+m=ls.length→
 σ.keep (H1021 4)=⟨[(0,.sl 36 gF (ls.map eOp)),(1,.sl 36 gF (ls.map eOp)),(12,.int .i64 ls.length),(13,.int .i64 i)],[]⟩→
 post (H1021 4) (aloop ty (arun (env 26 16806963 D0 [] [] A) H1021 k (sub (f21.body.getD .skip) [1,1,0,1,0,0])) (H1021 4) (m+1) σ)=some (.exit 0,⟨[(0,.sl 36 gF (ls.map eOp)),(1,.sl 36 gF (ls.map eOp)),(12,.int .i64 ls.length),(13,.int .i64 ls.length)],[]⟩):=by
 simp only[f21,sub,Option.getD_some,H1021_4];intro m
 induction m with
 | zero=>
   intro i σ hi hσ;have h1:¬ ((i:Int) < ((ls.length:Nat):Int)):=by omega
   have hie:i=ls.length:=by omega
   rw[aloop,hσ];simp only[go_sem,h1];simp[post,St.fin,keepL,aget,hie]
 | succ m ih=>
   intro i σ hi hσ;have h1:(i:Int) < ((ls.length:Nat):Int):=by omega
   have hlt:i < ls.length:=by omega
   have hni:(0:Int)≤(i:Int):=Int.natCast_nonneg i;have hw:IntKind.i64.wrap ((i:Int)+1)=((i+1:Nat):Int):=(by rw[wrap_i64 (by omega) (by omega)];omega)
   have hget:=getD_get (d:=(⟨0,0,0,0,0⟩:XOp)) hlt;rw[aloop,hσ];generalize ls.getD i (⟨0,0,0,0,0⟩:XOp)=x at *;simp only[go_sem,h1,hni,hw,hget,beq_self_eq_true];exact ih (i+1) _ (by omega) (by simp only[go_sem])
theorem run1021 (ls:List XOp) (hp:ls.length≤10000000) (A:Nat→Prop):acall (env 26 16806963 D0 [] [] A) (H1021) (10000010) f21 [.sl 36 gF (ls.map eOp),.sl 36 gF (ls.map eOp)]=some (.bool true):=by
 have hl:=loop1021_4 ls hp A 10000010 ls.length 0;simp only[f21,sub,Option.getD_some,H1021_4] at hl;simp only[acall,macall,f21];simp only[go_sem,H1021_4,beq_self_eq_true];rw[post_le (hl _ (by simp) (by simp only[go_sem])) (by omega)];simp only[go_sem,H1021_4];try rfl
noncomputable def c1021:=famP (α:=(List XOp)) (fun ls=>ls.length≤10000000) (fun ls=>[.sl 36 gF (ls.map eOp),.sl 36 gF (ls.map eOp)]) (fun ls=> .bool true)
theorem c1021_eq (ls:List XOp) (hp:ls.length≤10000000):c1021 [.sl 36 gF (ls.map eOp),.sl 36 gF (ls.map eOp)]=some (.bool true):=fam_eq (fun _ _ _ _ _=>rfl) (ls) hp
theorem snd1021:Snd 21 c1021:=fam_snd h1021 rfl rfl fun ls hp=>rc h1021 (fun A=>run1021 ls hp A) (fun i=>match i with | 6=>[0,0,3,7,0,0,48,112,255] | _=>[]) rfl rfl rfl (by kernel_rfl) trivial trivial
theorem h1022:Tryd.prog.funcs[22]? = some f22:=by kernel_rfl
def H1022:Nat→Hint:=fun i=>if i=4 then ({ tm:=[0,1,12,13],ob:=[],fin:=some ([0,1,12,13],[]) }:Hint) else { tm:=[],ob:=[] }
theorem H1022_4:H1022 4=({ tm:=[0,1,12,13],ob:=[],fin:=some ([0,1,12,13],[]) }:Hint):=by simp[H1022]
theorem loop1022_4 (ls:List Int) (hn:ls.length≤10000000) (A:Nat→Prop) (k:Nat):∀ (m i:Nat) (σ:St),i+m=ls.length→
 σ.keep (H1022 4)=⟨[(0,.sl 2 gF (ls.map eI)),(1,.sl 2 gF (ls.map eI)),(12,.int .i64 ls.length),(13,.int .i64 i)],[]⟩→
 post (H1022 4) (aloop ty (arun (env 26 16806963 D0 [] [] A) H1022 k (sub (f22.body.getD .skip) [1,1,0,1,0,0])) (H1022 4) (m+1) σ)=some (.exit 0,⟨[(0,.sl 2 gF (ls.map eI)),(1,.sl 2 gF (ls.map eI)),(12,.int .i64 ls.length),(13,.int .i64 ls.length)],[]⟩):=by
 simp only[f22,sub,Option.getD_some,H1022_4];intro m
 induction m with
 | zero=>
   intro i σ hi hσ;have h1:¬ ((i:Int) < ((ls.length:Nat):Int)):=by omega
   have hie:i=ls.length:=by omega
   rw[aloop,hσ];simp only[go_sem,h1];simp[post,St.fin,keepL,aget,hie]
 | succ m ih=>
   intro i σ hi hσ;have h1:(i:Int) < ((ls.length:Nat):Int):=by omega
   have hlt:i < ls.length:=by omega
   have hni:(0:Int)≤(i:Int):=Int.natCast_nonneg i;have hw:IntKind.i64.wrap ((i:Int)+1)=((i+1:Nat):Int):=(by rw[wrap_i64 (by omega) (by omega)];omega)
   have hget:=getD_get (d:=(0:Int)) hlt;rw[aloop,hσ];generalize ls.getD i (0:Int)=x at *;simp only[go_sem,h1,hni,hw,hget,beq_self_eq_true];exact ih (i+1) _ (by omega) (by simp only[go_sem])
theorem run1022 (ls:List Int) (hp:ls.length≤10000000) (A:Nat→Prop):acall (env 26 16806963 D0 [] [] A) (H1022) (10000010) f22 [.sl 2 gF (ls.map eI),.sl 2 gF (ls.map eI)]=some (.bool true):=by
 have hl:=loop1022_4 ls hp A 10000010 ls.length 0;simp only[f22,sub,Option.getD_some,H1022_4] at hl;simp only[acall,macall,f22];simp only[go_sem,H1022_4,beq_self_eq_true];rw[post_le (hl _ (by simp) (by simp only[go_sem])) (by omega)];simp only[go_sem,H1022_4];try rfl
noncomputable def c1022:=famP (α:=(List Int)) (fun ls=>ls.length≤10000000) (fun ls=>[.sl 2 gF (ls.map eI),.sl 2 gF (ls.map eI)]) (fun ls=> .bool true)
theorem c1022_eq (ls:List Int) (hp:ls.length≤10000000):c1022 [.sl 2 gF (ls.map eI),.sl 2 gF (ls.map eI)]=some (.bool true):=fam_eq (fun _ _ _ _ _=>rfl) (ls) hp
theorem snd1022:Snd 22 c1022:=fam_snd h1022 rfl rfl fun ls hp=>rc h1022 (fun A=>run1022 ls hp A) (fun i=>match i with | 6=>[0,0,3,7,0,0,48,112,255] | _=>[]) rfl rfl rfl (by kernel_rfl) trivial trivial
theorem h1023:Tryd.prog.funcs[23]? = some f23:=by kernel_rfl
def H1023:Nat→Hint:=fun i=>if i=4 then ({ tm:=[0,1,12,13],ob:=[],fin:=some ([0,1,12,13],[]) }:Hint) else { tm:=[],ob:=[] }
theorem H1023_4:H1023 4=({ tm:=[0,1,12,13],ob:=[],fin:=some ([0,1,12,13],[]) }:Hint):=by simp[H1023]
theorem loop1023_4 (ls:List ByteArray) (hn:ls.length≤10000000) (A:Nat→Prop) (k:Nat):∀ (m i:Nat) (σ:St),i+m=ls.length→
 σ.keep (H1023 4)=⟨[(0,.sl 9 gF (ls.map eS)),(1,.sl 9 gF (ls.map eS)),(12,.int .i64 ls.length),(13,.int .i64 i)],[]⟩→
 post (H1023 4) (aloop ty (arun (env 26 16806963 D0 [] [] A) H1023 k (sub (f23.body.getD .skip) [1,1,0,1,0,0])) (H1023 4) (m+1) σ)=some (.exit 0,⟨[(0,.sl 9 gF (ls.map eS)),(1,.sl 9 gF (ls.map eS)),(12,.int .i64 ls.length),(13,.int .i64 ls.length)],[]⟩):=by
 simp only[f23,sub,Option.getD_some,H1023_4];intro m
 induction m with
 | zero=>
   intro i σ hi hσ;have h1:¬ ((i:Int) < ((ls.length:Nat):Int)):=by omega
   have hie:i=ls.length:=by omega
   rw[aloop,hσ];simp only[go_sem,h1];simp[post,St.fin,keepL,aget,hie]
 | succ m ih=>
   intro i σ hi hσ;have h1:(i:Int) < ((ls.length:Nat):Int):=by omega
   have hlt:i < ls.length:=by omega
   have hni:(0:Int)≤(i:Int):=Int.natCast_nonneg i;have hw:IntKind.i64.wrap ((i:Int)+1)=((i+1:Nat):Int):=(by rw[wrap_i64 (by omega) (by omega)];omega)
   have hget:=getD_get (d:=(⟨#[]⟩:ByteArray)) hlt;rw[aloop,hσ];generalize ls.getD i (⟨#[]⟩:ByteArray)=x at *;simp only[go_sem,h1,hni,hw,hget,beq_self_eq_true];exact ih (i+1) _ (by omega) (by simp only[go_sem])
theorem run1023 (ls:List ByteArray) (hp:ls.length≤10000000) (A:Nat→Prop):acall (env 26 16806963 D0 [] [] A) (H1023) (10000010) f23 [.sl 9 gF (ls.map eS),.sl 9 gF (ls.map eS)]=some (.bool true):=by
 have hl:=loop1023_4 ls hp A 10000010 ls.length 0;simp only[f23,sub,Option.getD_some,H1023_4] at hl;simp only[acall,macall,f23];simp only[go_sem,H1023_4,beq_self_eq_true];rw[post_le (hl _ (by simp) (by simp only[go_sem])) (by omega)];simp only[go_sem,H1023_4];try rfl
noncomputable def c1023:=famP (α:=(List ByteArray)) (fun ls=>ls.length≤10000000) (fun ls=>[.sl 9 gF (ls.map eS),.sl 9 gF (ls.map eS)]) (fun ls=> .bool true)
theorem c1023_eq (ls:List ByteArray) (hp:ls.length≤10000000):c1023 [.sl 9 gF (ls.map eS),.sl 9 gF (ls.map eS)]=some (.bool true):=fam_eq (fun _ _ _ _ _=>rfl) (ls) hp
theorem snd1023:Snd 23 c1023:=fam_snd h1023 rfl rfl fun ls hp=>rc h1023 (fun A=>run1023 ls hp A) (fun i=>match i with | 6=>[0,0,3,7,0,0,48,112,255] | _=>[]) rfl rfl rfl (by kernel_rfl) trivial trivial
theorem h1024:Tryd.prog.funcs[24]? = some f24:=by kernel_rfl
def H1024:Nat→Hint:=fun i=>if i=4 then ({ tm:=[0,1,12,13],ob:=[],fin:=some ([0,1,12,13],[]) }:Hint) else { tm:=[],ob:=[] }
theorem H1024_4:H1024 4=({ tm:=[0,1,12,13],ob:=[],fin:=some ([0,1,12,13],[]) }:Hint):=by simp[H1024]
theorem loop1024_4 (ls:List XRel) (hn:ls.length≤10000000) (A:Nat→Prop) (k:Nat):∀ (m i:Nat) (σ:St),i+m=ls.length→
 σ.keep (H1024 4)=⟨[(0,.sl 38 gF (ls.map eRel)),(1,.sl 38 gF (ls.map eRel)),(12,.int .i64 ls.length),(13,.int .i64 i)],[]⟩→
 post (H1024 4) (aloop ty (arun (env 26 16806963 D0 [] [] A) H1024 k (sub (f24.body.getD .skip) [1,1,0,1,0,0])) (H1024 4) (m+1) σ)=some (.exit 0,⟨[(0,.sl 38 gF (ls.map eRel)),(1,.sl 38 gF (ls.map eRel)),(12,.int .i64 ls.length),(13,.int .i64 ls.length)],[]⟩):=by
 simp only[f24,sub,Option.getD_some,H1024_4];intro m
 induction m with
 | zero=>
   intro i σ hi hσ;have h1:¬ ((i:Int) < ((ls.length:Nat):Int)):=by omega
   have hie:i=ls.length:=by omega
   rw[aloop,hσ];simp only[go_sem,h1];simp[post,St.fin,keepL,aget,hie]
 | succ m ih=>
   intro i σ hi hσ;have h1:(i:Int) < ((ls.length:Nat):Int):=by omega
   have hlt:i < ls.length:=by omega
   have hni:(0:Int)≤(i:Int):=Int.natCast_nonneg i;have hw:IntKind.i64.wrap ((i:Int)+1)=((i+1:Nat):Int):=(by rw[wrap_i64 (by omega) (by omega)];omega)
   have hget:=getD_get (d:=(⟨0,0,⟨#[]⟩,⟨#[]⟩⟩:XRel)) hlt;rw[aloop,hσ];generalize ls.getD i (⟨0,0,⟨#[]⟩,⟨#[]⟩⟩:XRel)=x at *;simp only[go_sem,h1,hni,hw,hget,beq_self_eq_true];exact ih (i+1) _ (by omega) (by simp only[go_sem])
theorem run1024 (ls:List XRel) (hp:ls.length≤10000000) (A:Nat→Prop):acall (env 26 16806963 D0 [] [] A) (H1024) (10000010) f24 [.sl 38 gF (ls.map eRel),.sl 38 gF (ls.map eRel)]=some (.bool true):=by
 have hl:=loop1024_4 ls hp A 10000010 ls.length 0;simp only[f24,sub,Option.getD_some,H1024_4] at hl;simp only[acall,macall,f24];simp only[go_sem,H1024_4,beq_self_eq_true];rw[post_le (hl _ (by simp) (by simp only[go_sem])) (by omega)];simp only[go_sem,H1024_4];try rfl
noncomputable def c1024:=famP (α:=(List XRel)) (fun ls=>ls.length≤10000000) (fun ls=>[.sl 38 gF (ls.map eRel),.sl 38 gF (ls.map eRel)]) (fun ls=> .bool true)
theorem c1024_eq (ls:List XRel) (hp:ls.length≤10000000):c1024 [.sl 38 gF (ls.map eRel),.sl 38 gF (ls.map eRel)]=some (.bool true):=fam_eq (fun _ _ _ _ _=>rfl) (ls) hp
theorem snd1024:Snd 24 c1024:=fam_snd h1024 rfl rfl fun ls hp=>rc h1024 (fun A=>run1024 ls hp A) (fun i=>match i with | 6=>[0,0,3,7,0,0,48,112,255] | _=>[]) rfl rfl rfl (by kernel_rfl) trivial trivial
theorem h1010:Tryd.prog.funcs[10]? = some f10:=by kernel_rfl
theorem run1010 (hp:ops.length≤1000000∧ints.length≤1000000∧strs.length≤1000000∧rels.length≤1000000) (A:Nat→Prop):acall (env 31 31 D0 [(21,c1021),(22,c1022),(23,c1023),(24,c1024)] [] A) hN (5) f10 [(cd ops ints strs rels),(cd ops ints strs rels)]=some (.bool true):=by
 obtain⟨l1,l2,l3,l4⟩:=hp;have e1:=c1021_eq ops (by omega);have e2:=c1022_eq ints (by omega);have e3:=c1023_eq strs (by omega);have e4:=c1024_eq rels (by omega);simp only[acall,macall,f10];simp only[go_sem,e1,e2,e3,e4];try rfl
noncomputable def c1010:=famP (α:=(List XOp) × (List Int) × (List ByteArray) × (List XRel)) (fun (ops,ints,strs,rels)=>ops.length≤1000000∧ints.length≤1000000∧strs.length≤1000000∧rels.length≤1000000) (fun (ops,ints,strs,rels)=>[(cd ops ints strs rels),(cd ops ints strs rels)]) (fun (ops,ints,strs,rels)=> .bool true)
theorem c1010_eq (hp:ops.length≤1000000∧ints.length≤1000000∧strs.length≤1000000∧rels.length≤1000000):c1010 [(cd ops ints strs rels),(cd ops ints strs rels)]=some (.bool true):=fam_eq (fun _ _ _ _ _=>rfl) (ops,ints,strs,rels) hp
theorem snd1010:Snd 10 c1010:=fam_snd h1010 rfl rfl fun (ops,ints,strs,rels) hp=>rc h1010 (fun A=>run1010 ops ints strs rels hp A) (fun _=>[]) rfl rfl rfl (by kernel_rfl) ⟨snd1021,snd1022,snd1023,snd1024,trivial⟩ trivial
theorem h1004:Tryd.prog.funcs[4]? = some f4:=by kernel_rfl
def D1004:Nat→Option (List DH × List Nat):=fun i=>match i with | 11=>some ([⟨[18],[],[18]⟩,⟨[18],[],[18]⟩,⟨[18],[],[18]⟩,⟨[18],[],[18]⟩,⟨[18],[],[18]⟩,⟨[18],[],[18]⟩,⟨[18],[],[18]⟩,⟨[18],[],[18]⟩,⟨[18],[],[18]⟩,⟨[],[18],[]⟩,⟨[],[18],[]⟩,⟨[],[],[]⟩,⟨[],[],[]⟩],[18]) | 12=>some ([⟨[21],[],[21]⟩,⟨[21],[],[21]⟩,⟨[21],[],[21]⟩,⟨[21],[],[21]⟩,⟨[21],[],[21]⟩,⟨[21],[],[21]⟩,⟨[21],[],[21]⟩,⟨[21],[],[21]⟩,⟨[21],[],[21]⟩,⟨[],[21],[]⟩,⟨[],[21],[]⟩,⟨[],[],[]⟩,⟨[],[],[]⟩],[21]) | _=>none
theorem D1004_11:D1004 11=some ([⟨[18],[],[18]⟩,⟨[18],[],[18]⟩,⟨[18],[],[18]⟩,⟨[18],[],[18]⟩,⟨[18],[],[18]⟩,⟨[18],[],[18]⟩,⟨[18],[],[18]⟩,⟨[18],[],[18]⟩,⟨[18],[],[18]⟩,⟨[],[18],[]⟩,⟨[],[18],[]⟩,⟨[],[],[]⟩,⟨[],[],[]⟩],[18]):=rfl
theorem D1004_12:D1004 12=some ([⟨[21],[],[21]⟩,⟨[21],[],[21]⟩,⟨[21],[],[21]⟩,⟨[21],[],[21]⟩,⟨[21],[],[21]⟩,⟨[21],[],[21]⟩,⟨[21],[],[21]⟩,⟨[21],[],[21]⟩,⟨[21],[],[21]⟩,⟨[],[21],[]⟩,⟨[],[21],[]⟩,⟨[],[],[]⟩,⟨[],[],[]⟩],[21]):=rfl
theorem run1004 (p:Int) (hp:((∀ o ∈ ops,InR o.n)∧(∀ n ∈ ints,InR n)∧(∀ r ∈ rels,r.str.size≤9223372036854775807∧r.mem.size≤9223372036854775807))∧0≤p∧p≤255) (A:Nat→Prop):acall (env 143 83076749736557242056488010137993207 D1004 [(5,c8),(6,c9),(7,c22),(8,c15),(9,c24),(10,c1010)] [] A) hN (5) f4 [(cd ops ints strs rels),.int .u8 p]=some (.bool true):=by
 obtain⟨⟨p1,p2,p4⟩,hp0,hp1⟩:=hp;have e8:=c8_eq;have e9:=c9_eq ops ints strs rels;have hl60:(decide (ops.length≤60)&&(decide (ints.length≤60)&&(decide (strs.length≤60)&&decide (rels.length≤60))))=true→ops.length≤60∧ints.length≤60∧strs.length≤60∧rels.length≤60:=fun h=>by simpa using h
 generalize (decide (ops.length≤60)&&(decide (ints.length≤60)&&(decide (strs.length≤60)&&decide (rels.length≤60))))=sh at *;cases sh
 ·simp only[acall,macall,f4];simp only[go_sem,D1004_11,D1004_12,e8,e9];try rfl
 have hl:=hl60 rfl;have hin:XIn ops ints strs rels:=⟨by omega,p4,p1,p2⟩
 cases hck:checkF ops ints strs rels
 ·have e22:=c22_eq ⟨ops,ints,strs,rels⟩ 2000000 (⟨[],[],[],[]⟩,[]) ⟨hin,by omega,by rw[if_neg (by rw[show checkC ⟨ops,ints,strs,rels⟩=checkF ops ints strs rels from rfl,hck];decide)]⟩;rw[show checkC ⟨ops,ints,strs,rels⟩=checkF ops ints strs rels from rfl,hck] at e22;simp only[eCode,errF,BL] at e22;simp only[acall,macall,f4];simp only[go_sem,D1004_11,D1004_12,e8,e9,e22];try rfl
 obtain⟨x,l,hE⟩:=ended (c:=⟨ops,ints,strs,rels⟩) hin hck hl.1;have hx1:checkF x.ops x.ints x.strs x.rels=true:=hE.xck;have hlx:=hE.xin.lim;have hll:=hE.len;have e22:=c22_eq ⟨ops,ints,strs,rels⟩ 2000000 (x,l) ⟨hin,by omega,by rw[if_pos (show checkC ⟨ops,ints,strs,rels⟩=true from hck)];exact hE.run⟩;have e22x:=c22_eq x 2000000 (x,[]) ⟨hE.xin,by omega,by rw[if_pos hE.xck];exact hE.again⟩;have e15:=c15_eq x.ops x.ints x.strs x.rels hE.xin;have e24:=c24_eq ops ints strs rels l ⟨hin,by omega⟩;have e10:=c1010_eq x.ops x.ints x.strs x.rels (by omega);obtain⟨k,hk⟩:∃ k:Nat,p.tmod ((l.length:Int)+1)=k∧k≤l.length:=⟨(p.tmod ((l.length:Int)+1)).toNat,by
  have h1:=Int.tmod_lt_of_pos p (show (0:Int) < (l.length:Int)+1 by omega);have h2:=Int.tmod_nonneg ((l.length:Int)+1) hp0;omega,by
  have h1:=Int.tmod_lt_of_pos p (show (0:Int) < (l.length:Int)+1 by omega);omega⟩
 obtain⟨m,⟨hm1,hm2⟩,hm3,hm4⟩:=hE.pre k hk.2;have hm2':checkF m.ops m.ints m.strs m.rels=true:=hm2;have e24a:=c24_eq ops ints strs rels (l.take k) ⟨hin,by rw[List.length_take];omega⟩;have e24b:=c24_eq m.ops m.ints m.strs m.rels (l.drop k) ⟨hm1,by rw[List.length_drop];omega⟩;have hst:stepsE x.ops x.ints x.strs x.rels=[]:=by
  unfold stepsE;rw[if_pos hx1];have:=hE.fix;unfold stepsC at this;rw[this];rfl
 rw[hst,hx1] at e15;rw[show replayE ops ints strs rels l=(x,(l.length:Int),0) by unfold replayE;rw[if_pos hck];exact hE.all] at e24;rw[show replayE ops ints strs rels (l.take k)=(m,(k:Int),0) by unfold replayE;rw[if_pos hck];exact hm3] at e24a;rw[show replayE m.ops m.ints m.strs m.rels (l.drop k)=(x,(l.length:Int) - k,0) by unfold replayE;rw[if_pos hm2'];exact hm4] at e24b;rw[show checkC ⟨ops,ints,strs,rels⟩=checkF ops ints strs rels from rfl,hck] at e22;rw[show checkC x=checkF x.ops x.ints x.strs x.rels from rfl,hx1] at e22x;simp only[eCode,errF,List.map_nil,BL] at e22 e22x e15 e24 e24a e24b;have htk:((l.map eStep).drop 0).take (k - 0)=(l.take k).map eStep:=by simp[List.map_take]
 have hdp:((l.map eStep).drop k).take (l.length - k)=(l.drop k).map eStep:=by rw[← List.map_drop,List.take_of_length_le (by simp)]
 have hk1:=hk.1;have hk2:=hk.2;have hw1:IntKind.i64.wrap p=p:=wrap_i64 (by omega) (by omega);have hw2:IntKind.i64.wrap ((l.length:Int)+1)=(l.length:Int)+1:=wrap_i64 (by omega) (by omega);have hw3:IntKind.i64.wrap ((l.length:Int) - k)=(l.length:Int) - k:=wrap_i64 (by omega) (by omega);have hw4:IntKind.i64.wrap (k:Int)=k:=wrap_i64 (by omega) (by omega);have hne:¬ ((l.length:Int)+1=0):=by omega
 have h0k:(0:Int)≤(k:Int):=by omega
 have hkl:(k:Int)≤(l.length:Int):=by omega
 simp only[acall,macall,f4];simp only[go_sem,D1004_11,D1004_12,e8,e9,e22,e22x,e15,e24,e24a,e24b,e10,htk,hdp,hk1,hk2,hw1,hw2,hw3,hw4,hne,h0k,hkl,beq_self_eq_true];try rfl
noncomputable def c1004:=famP (α:=(List XOp) × (List Int) × (List ByteArray) × (List XRel) × Int) (fun (ops,ints,strs,rels,p)=>((∀ o ∈ ops,InR o.n)∧(∀ n ∈ ints,InR n)∧(∀ r ∈ rels,r.str.size≤9223372036854775807∧r.mem.size≤9223372036854775807))∧0≤p∧p≤255) (fun (ops,ints,strs,rels,p)=>[(cd ops ints strs rels),.int .u8 p]) (fun (ops,ints,strs,rels,p)=> .bool true)
theorem c1004_eq (p:Int) (hp:((∀ o ∈ ops,InR o.n)∧(∀ n ∈ ints,InR n)∧(∀ r ∈ rels,r.str.size≤9223372036854775807∧r.mem.size≤9223372036854775807))∧0≤p∧p≤255):c1004 [(cd ops ints strs rels),.int .u8 p]=some (.bool true):=fam_eq (fun _ _ _ _ _=>rfl) (ops,ints,strs,rels,p) hp
theorem snd1004:Snd 4 c1004:=fam_snd h1004 rfl rfl fun (ops,ints,strs,rels,p) hp=>rc h1004 (fun A=>run1004 ops ints strs rels p hp A) (fun i=>match i with | 11=>[0,0,0,6,15,31,63,63,63,0,639,1791,4095] | 12=>[0,0,0,6,15,31,63,63,63,0,639,1791,4095] | _=>[]) rfl rfl rfl (by kernel_rfl) ⟨snd8,snd9,snd22,snd15,snd24,snd1010,trivial⟩ trivial
end Go.Proofs.Tryd
end
