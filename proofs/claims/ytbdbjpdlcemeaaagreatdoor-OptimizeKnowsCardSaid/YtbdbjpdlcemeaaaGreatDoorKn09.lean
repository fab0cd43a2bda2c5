/- Part of the proof of one statement of this seat: an abstract machine for the program, its contracts, and the statement (no condition of our own). -/
import Derived.Test.YtbdbjpdlcemeaaaGreatDoorKn08
set_option linter.unusedSimpArgs false
set_option linter.unusedVariables false
section
set_option maxHeartbeats 4000000
set_option maxRecDepth 20000
namespace Go.Proofs.Tryz
open Go Go.Abs
variable (ops : List XOp) (ints : List Int) (strs : List ByteArray) (rels : List XRel)
def numR (lo li ls:Nat) (q:Int) (o n:Int):Bool:=
 if (o==1)=true then (decide (0≤n)&&decide (n < (li:Int))) else if (o==2)=true then (decide (0≤n)&&decide (n < (ls:Int)))
 else if (o==19)=true then (intOfF n).isSome else if (o==26)=true then (intOfF n).isSome else if (o==27)=true then (intOfF n).isSome
 else if (o==24)=true then (decide (q < n)&&decide (n < (lo:Int))) else if (o==25)=true then (decide (q < n)&&decide (n < (lo:Int)))
 else if (o==28)=true then (decide (1≤n)&&decide (n≤13)) else if (o==29)=true then (decide (0≤n)&&decide (n < 6)) else if (o==39)=true then (decide (1≤n)&&decide (n≤8))
 else if (formF o).n=true then (decide (0≤n)&&decide (n < 20)) else n==0
theorem numR_eq (lo li ls:Nat) (q o n:Int):fitsF lo li ls q o n=numR lo li ls q o n:=by
 have e1:∀ k:Nat,inF 0 ((k:Int) - 1) n=(decide (0≤n)&&decide (n < (k:Int))):=fun k=>by
  unfold inF
  rw[show decide (n≤(k:Int) - 1)=decide (n < (k:Int)) from decide_eq_decide.2 (by omega)]
 have e2:inF (q+1) ((lo:Int) - 1) n=(decide (q < n)&&decide (n < (lo:Int))):=by
  unfold inF
  rw[show decide (n≤(lo:Int) - 1)=decide (n < (lo:Int)) from decide_eq_decide.2 (by omega),show decide (q+1≤n)=decide (q < n) from decide_eq_decide.2 (by omega)]
 have e3:inF 0 5 n=(decide (0≤n)&&decide (n < 6)):=by
  unfold inF
  rw[show decide (n≤5)=decide (n < 6) from decide_eq_decide.2 (by omega)]
 have e4:inF 0 19 n=(decide (0≤n)&&decide (n < 20)):=by
  unfold inF
  rw[show decide (n≤19)=decide (n < 20) from decide_eq_decide.2 (by omega)]
 unfold fitsF numR
 rw[e1,e1,e2,e3,e4]
 rfl
theorem h44:Tryz.prog.funcs[44]? = some f44:=by kernel_rfl
theorem run44 (q:Int) (hp:(ops.length≤100000∧ints.length≤100000∧strs.length≤100000∧rels.length≤100000)∧0≤q∧q.toNat < ops.length) (A:Nat→Prop):acall (env 99 1238546872602928061119594871 D0 [(42,c42),(74,c74)] [] A) (fun _=>{ tm:=[],ob:=[] }) (5) f44 [(cd ops ints strs rels),.int .i64 q]=some (.bool (fitsF ops.length ints.length strs.length q (ops.getD q.toNat op0).op (ops.getD q.toNat op0).n)):=by
 obtain⟨hl,h0,hlt⟩:=hp
 have hget:=getD_get (d:=op0) hlt
 generalize ops.getD q.toNat op0=x at *
 have e42:=c42_eq x.op
 rw[numR_eq]
 cases h1:(x.op==1)
 ·cases h2:(x.op==2)
  ·cases h19:(x.op==19)
   ·cases h26:(x.op==26)
    ·cases h27:(x.op==27)
     ·cases h24:(x.op==24)
      ·cases h25:(x.op==25)
       ·cases h28:(x.op==28)
        ·cases h29:(x.op==29)
         ·cases h39:(x.op==39)
          ·cases hf:(formF x.op).n
           ·simp only[numR,h1,h2,h19,h26,h27,h24,h25,h28,h29,h39,hf,BL]
            simp only[acall,macall,f44]
            simp only[go_sem,simprocAttr,c74_eq,h1,h2,h19,h26,h27,h24,h25,h28,h29,h39,hf,hget,h0,e42,eFormR,eIntOf]
            try rfl
           ·cases g1:decide (0≤x.n)
            ·simp only[numR,h1,h2,h19,h26,h27,h24,h25,h28,h29,h39,hf,g1,BL]
             simp only[acall,macall,f44]
             simp only[go_sem,simprocAttr,c74_eq,h1,h2,h19,h26,h27,h24,h25,h28,h29,h39,hf,g1,hget,h0,e42,eFormR,eIntOf]
             try rfl
            ·cases g2:decide (x.n < 20)
             ·simp only[numR,h1,h2,h19,h26,h27,h24,h25,h28,h29,h39,hf,g1,g2,BL]
              simp only[acall,macall,f44]
              simp only[go_sem,simprocAttr,c74_eq,h1,h2,h19,h26,h27,h24,h25,h28,h29,h39,hf,g1,g2,hget,h0,e42,eFormR,eIntOf]
              try rfl
             ·simp only[numR,h1,h2,h19,h26,h27,h24,h25,h28,h29,h39,hf,g1,g2,BL]
              simp only[acall,macall,f44]
              simp only[go_sem,simprocAttr,c74_eq,h1,h2,h19,h26,h27,h24,h25,h28,h29,h39,hf,g1,g2,hget,h0,e42,eFormR,eIntOf]
              try rfl
          ·cases g1:decide (1≤x.n)
           ·simp only[numR,h1,h2,h19,h26,h27,h24,h25,h28,h29,h39,g1,BL]
            simp only[acall,macall,f44]
            simp only[go_sem,simprocAttr,c74_eq,h1,h2,h19,h26,h27,h24,h25,h28,h29,h39,g1,hget,h0,e42,eFormR,eIntOf]
            try rfl
           ·cases g2:decide (x.n≤8)
            ·simp only[numR,h1,h2,h19,h26,h27,h24,h25,h28,h29,h39,g1,g2,BL]
             simp only[acall,macall,f44]
             simp only[go_sem,simprocAttr,c74_eq,h1,h2,h19,h26,h27,h24,h25,h28,h29,h39,g1,g2,hget,h0,e42,eFormR,eIntOf]
             try rfl
            ·simp only[numR,h1,h2,h19,h26,h27,h24,h25,h28,h29,h39,g1,g2,BL]
             simp only[acall,macall,f44]
             simp only[go_sem,simprocAttr,c74_eq,h1,h2,h19,h26,h27,h24,h25,h28,h29,h39,g1,g2,hget,h0,e42,eFormR,eIntOf]
             try rfl
         ·cases g1:decide (0≤x.n)
          ·simp only[numR,h1,h2,h19,h26,h27,h24,h25,h28,h29,g1,BL]
           simp only[acall,macall,f44]
           simp only[go_sem,simprocAttr,c74_eq,h1,h2,h19,h26,h27,h24,h25,h28,h29,g1,hget,h0,e42,eFormR,eIntOf]
           try rfl
          ·cases g2:decide (x.n < 6)
           ·simp only[numR,h1,h2,h19,h26,h27,h24,h25,h28,h29,g1,g2,BL]
            simp only[acall,macall,f44]
            simp only[go_sem,simprocAttr,c74_eq,h1,h2,h19,h26,h27,h24,h25,h28,h29,g1,g2,hget,h0,e42,eFormR,eIntOf]
            try rfl
           ·simp only[numR,h1,h2,h19,h26,h27,h24,h25,h28,h29,g1,g2,BL]
            simp only[acall,macall,f44]
            simp only[go_sem,simprocAttr,c74_eq,h1,h2,h19,h26,h27,h24,h25,h28,h29,g1,g2,hget,h0,e42,eFormR,eIntOf]
            try rfl
        ·cases g1:decide (1≤x.n)
         ·simp only[numR,h1,h2,h19,h26,h27,h24,h25,h28,g1,BL]
          simp only[acall,macall,f44]
          simp only[go_sem,simprocAttr,c74_eq,h1,h2,h19,h26,h27,h24,h25,h28,g1,hget,h0,e42,eFormR,eIntOf]
          try rfl
         ·cases g2:decide (x.n≤13)
          ·simp only[numR,h1,h2,h19,h26,h27,h24,h25,h28,g1,g2,BL]
           simp only[acall,macall,f44]
           simp only[go_sem,simprocAttr,c74_eq,h1,h2,h19,h26,h27,h24,h25,h28,g1,g2,hget,h0,e42,eFormR,eIntOf]
           try rfl
          ·simp only[numR,h1,h2,h19,h26,h27,h24,h25,h28,g1,g2,BL]
           simp only[acall,macall,f44]
           simp only[go_sem,simprocAttr,c74_eq,h1,h2,h19,h26,h27,h24,h25,h28,g1,g2,hget,h0,e42,eFormR,eIntOf]
           try rfl
       ·cases g1:decide (q < x.n)
        ·simp only[numR,h1,h2,h19,h26,h27,h24,h25,g1,BL]
         simp only[acall,macall,f44]
         simp only[go_sem,simprocAttr,c74_eq,h1,h2,h19,h26,h27,h24,h25,g1,hget,h0,e42,eFormR,eIntOf]
         try rfl
        ·cases g2:decide (x.n < (ops.length:Int))
         ·simp only[numR,h1,h2,h19,h26,h27,h24,h25,g1,g2,BL]
          simp only[acall,macall,f44]
          simp only[go_sem,simprocAttr,c74_eq,h1,h2,h19,h26,h27,h24,h25,g1,g2,hget,h0,e42,eFormR,eIntOf]
          try rfl
         ·simp only[numR,h1,h2,h19,h26,h27,h24,h25,g1,g2,BL]
          simp only[acall,macall,f44]
          simp only[go_sem,simprocAttr,c74_eq,h1,h2,h19,h26,h27,h24,h25,g1,g2,hget,h0,e42,eFormR,eIntOf]
          try rfl
      ·cases g1:decide (q < x.n)
       ·simp only[numR,h1,h2,h19,h26,h27,h24,g1,BL]
        simp only[acall,macall,f44]
        simp only[go_sem,simprocAttr,c74_eq,h1,h2,h19,h26,h27,h24,g1,hget,h0,e42,eFormR,eIntOf]
        try rfl
       ·cases g2:decide (x.n < (ops.length:Int))
        ·simp only[numR,h1,h2,h19,h26,h27,h24,g1,g2,BL]
         simp only[acall,macall,f44]
         simp only[go_sem,simprocAttr,c74_eq,h1,h2,h19,h26,h27,h24,g1,g2,hget,h0,e42,eFormR,eIntOf]
         try rfl
        ·simp only[numR,h1,h2,h19,h26,h27,h24,g1,g2,BL]
         simp only[acall,macall,f44]
         simp only[go_sem,simprocAttr,c74_eq,h1,h2,h19,h26,h27,h24,g1,g2,hget,h0,e42,eFormR,eIntOf]
         try rfl
     ·have e74:=c74_eq x.n
      cases hi:intOfF x.n with
      | none=>
        rw[hi] at e74
        simp only[eIntOf] at e74
        simp only[numR,hi,Option.isSome_none,h1,h2,h19,h26,h27,BL]
        simp only[acall,macall,f44]
        simp only[go_sem,simprocAttr,e74,h1,h2,h19,h26,h27,hget,h0,e42,eFormR,eIntOf]
        try rfl
      | some p=>
        obtain⟨p1,p2⟩:=p
        rw[hi] at e74
        simp only[eIntOf] at e74
        simp only[numR,hi,Option.isSome_some,h1,h2,h19,h26,h27,BL]
        simp only[acall,macall,f44]
        simp only[go_sem,simprocAttr,e74,h1,h2,h19,h26,h27,hget,h0,e42,eFormR,eIntOf]
        try rfl
    ·have e74:=c74_eq x.n
     cases hi:intOfF x.n with
     | none=>
       rw[hi] at e74
       simp only[eIntOf] at e74
       simp only[numR,hi,Option.isSome_none,h1,h2,h19,h26,BL]
       simp only[acall,macall,f44]
       simp only[go_sem,simprocAttr,e74,h1,h2,h19,h26,hget,h0,e42,eFormR,eIntOf]
       try rfl
     | some p=>
       obtain⟨p1,p2⟩:=p
       rw[hi] at e74
       simp only[eIntOf] at e74
       simp only[numR,hi,Option.isSome_some,h1,h2,h19,h26,BL]
       simp only[acall,macall,f44]
       simp only[go_sem,simprocAttr,e74,h1,h2,h19,h26,hget,h0,e42,eFormR,eIntOf]
       try rfl
   ·have e74:=c74_eq x.n
    cases hi:intOfF x.n with
    | none=>
      rw[hi] at e74
      simp only[eIntOf] at e74
      simp only[numR,hi,Option.isSome_none,h1,h2,h19,BL]
      simp only[acall,macall,f44]
      simp only[go_sem,simprocAttr,e74,h1,h2,h19,hget,h0,e42,eFormR,eIntOf]
      try rfl
    | some p=>
      obtain⟨p1,p2⟩:=p
      rw[hi] at e74
      simp only[eIntOf] at e74
      simp only[numR,hi,Option.isSome_some,h1,h2,h19,BL]
      simp only[acall,macall,f44]
      simp only[go_sem,simprocAttr,e74,h1,h2,h19,hget,h0,e42,eFormR,eIntOf]
      try rfl
  ·cases g1:decide (0≤x.n)
   ·simp only[numR,h1,h2,g1,BL]
    simp only[acall,macall,f44]
    simp only[go_sem,simprocAttr,c74_eq,h1,h2,g1,hget,h0,e42,eFormR,eIntOf]
    try rfl
   ·cases g2:decide (x.n < (strs.length:Int))
    ·simp only[numR,h1,h2,g1,g2,BL]
     simp only[acall,macall,f44]
     simp only[go_sem,simprocAttr,c74_eq,h1,h2,g1,g2,hget,h0,e42,eFormR,eIntOf]
     try rfl
    ·simp only[numR,h1,h2,g1,g2,BL]
     simp only[acall,macall,f44]
     simp only[go_sem,simprocAttr,c74_eq,h1,h2,g1,g2,hget,h0,e42,eFormR,eIntOf]
     try rfl
 ·cases g1:decide (0≤x.n)
  ·simp only[numR,h1,g1,BL]
   simp only[acall,macall,f44]
   simp only[go_sem,simprocAttr,c74_eq,h1,g1,hget,h0,e42,eFormR,eIntOf]
   try rfl
  ·cases g2:decide (x.n < (ints.length:Int))
   ·simp only[numR,h1,g1,g2,BL]
    simp only[acall,macall,f44]
    simp only[go_sem,simprocAttr,c74_eq,h1,g1,g2,hget,h0,e42,eFormR,eIntOf]
    try rfl
   ·simp only[numR,h1,g1,g2,BL]
    simp only[acall,macall,f44]
    simp only[go_sem,simprocAttr,c74_eq,h1,g1,g2,hget,h0,e42,eFormR,eIntOf]
    try rfl
noncomputable def c44:=famP (α:=(List XOp) × (List Int) × (List ByteArray) × (List XRel) × Int) (fun (ops,ints,strs,rels,q)=>(ops.length≤100000∧ints.length≤100000∧strs.length≤100000∧rels.length≤100000)∧0≤q∧q.toNat < ops.length) (fun (ops,ints,strs,rels,q)=>[(cd ops ints strs rels),.int .i64 q]) (fun (ops,ints,strs,rels,q)=> .bool (fitsF ops.length ints.length strs.length q (ops.getD q.toNat op0).op (ops.getD q.toNat op0).n))
theorem c44_eq (q:Int) (hp:(ops.length≤100000∧ints.length≤100000∧strs.length≤100000∧rels.length≤100000)∧0≤q∧q.toNat < ops.length):c44 [(cd ops ints strs rels),.int .i64 q]=some (.bool (fitsF ops.length ints.length strs.length q (ops.getD q.toNat op0).op (ops.getD q.toNat op0).n)):=fam_eq (fun X Y hp hp' h'=>by
 obtain⟨ops,ints,strs,rels,q⟩:=X;obtain⟨ops',ints',strs',rels',q'⟩:=Y;simp only[INJ] at h'
 obtain⟨rfl,rfl,rfl,rfl,rfl⟩:=h'
 rfl) (ops,ints,strs,rels,q) hp
theorem snd44:Snd 44 c44:=fam_snd h44 rfl rfl fun (ops,ints,strs,rels,q) hp=>rc h44 (fun A=>run44 ops ints strs rels q hp A) (fun _=>[]) rfl rfl rfl (by kernel_rfl) ⟨snd42,snd74,trivial⟩ trivial
theorem h50:Tryz.prog.funcs[50]? = some f50:=by kernel_rfl
theorem run50 (q:Int) (hp:(ops.length≤100000∧ints.length≤100000∧strs.length≤100000∧rels.length≤100000)∧0≤q∧q.toNat < ops.length) :∃ r,wk r (.sl 3 gT ((nextF ops q).map eI))∧∀ A,acall (env 35 68202551 D0 [] [] A) (fun _=>{ tm:=[],ob:=[] }) (5) f50 [(cd ops ints strs rels),.int .i64 q]=some r:=by
 obtain⟨hl,h0,hlt⟩:=hp
 have hwq:IntKind.i64.wrap (q+1)=q+1:=wrap_i64 (by omega) (by omega)
 have hget:=getD_get (d:=op0) hlt
 simp only[nextF]
 generalize ops.getD q.toNat op0=x at *
 cases h40:(x.op==40)
 rotate_left
 ·simp only[BL]
  apply wkI
  ·intro A
   simp only[acall,macall,f50]
   simp only[go_sem,simprocAttr,h40,hget,h0,hwq]
   try rfl
  ·simp[WK,eOut,eCode,map0,map1,map2,eI]
 cases h24:(x.op==24)
 rotate_left
 ·simp only[BL]
  apply wkI
  ·intro A
   simp only[acall,macall,f50]
   simp only[go_sem,simprocAttr,h40,h24,hget,h0,hwq]
   try rfl
  ·simp[WK,eOut,eCode,map0,map1,map2,eI]
 cases h25:(x.op==25)
 ·simp only[BL]
  apply wkI
  ·intro A
   simp only[acall,macall,f50]
   simp only[go_sem,simprocAttr,h40,h24,h25,hget,h0,hwq]
   try rfl
  ·simp[WK,eOut,eCode,map0,map1,map2,eI]
 cases hn:(x.n==q+1)
 all_goals
  simp only[BL]
  apply wkI
  ·intro A
   simp only[acall,macall,f50]
   simp only[go_sem,simprocAttr,h40,h24,h25,hn,hget,h0,hwq]
   try rfl
  ·simp[WK,eOut,eCode,map0,map1,map2,eI]
noncomputable def c50:=famP (α:=(List XOp) × (List Int) × (List ByteArray) × (List XRel) × Int) (fun (ops,ints,strs,rels,q)=>(ops.length≤100000∧ints.length≤100000∧strs.length≤100000∧rels.length≤100000)∧0≤q∧q.toNat < ops.length) (fun (ops,ints,strs,rels,q)=>[(cd ops ints strs rels),.int .i64 q]) (fun (ops,ints,strs,rels,q)=> .sl 3 gT ((nextF ops q).map eI))
theorem c50_eq (q:Int) (hp:(ops.length≤100000∧ints.length≤100000∧strs.length≤100000∧rels.length≤100000)∧0≤q∧q.toNat < ops.length):c50 [(cd ops ints strs rels),.int .i64 q]=some (.sl 3 gT ((nextF ops q).map eI)):=fam_eq (fun X Y hp hp' h'=>by
 obtain⟨ops,ints,strs,rels,q⟩:=X;obtain⟨ops',ints',strs',rels',q'⟩:=Y;simp only[INJ] at h'
 obtain⟨rfl,rfl,rfl,rfl,rfl⟩:=h'
 rfl) (ops,ints,strs,rels,q) hp
theorem snd50:Snd 50 c50:=fam_snd h50 rfl rfl fun (ops,ints,strs,rels,q) hp=>let ⟨_,hw,hr⟩:=run50 ops ints strs rels q hp;(rc h50 hr (fun _=>[]) rfl rfl rfl (by kernel_rfl) trivial trivial).weak hw
def relOkR (ops:List XOp) (rels:List XRel) (i:Int):Bool:=
 let r:=rels.getD i.toNat ⟨0,0,⟨#[]⟩,⟨#[]⟩⟩
 if ((!(decide (0≤r.at_)&&decide (r.at_≤(ops.length:Int) - 1)) || (decide (0 < i)&&decide (r.at_≤(rels.getD (i - 1).toNat ⟨0,0,⟨#[]⟩,⟨#[]⟩⟩).at_))) || !nameF r.str)=true then false
 else
  let op:=(ops.getD r.at_.toNat ⟨0,0,0,0,0⟩).op
  if (r.kind==1)=true then op==1&&nameF r.mem
  else if (r.kind==2)=true then op==1&&(r.mem.toList==(⟨#[]⟩:ByteArray).toList)
  else if (r.kind==3)=true then op==26&&nameF r.mem else false
theorem relOk_r (ops:List XOp) (rels:List XRel) (i:Int):relOkF ops rels i=relOkR ops rels i:=by
 simp only[relOkF,relOkR,beq_iff_eq]
theorem h45:Tryz.prog.funcs[45]? = some f45:=by kernel_rfl
theorem run45 (i:Int) (hp:(ops.length≤100000∧ints.length≤100000∧strs.length≤100000∧rels.length≤100000)∧0≤i∧i.toNat < rels.length∧∀ r ∈ rels,r.str.size≤9223372036854775807∧r.mem.size≤9223372036854775807) (A:Nat→Prop):acall (env 81 4731616894096450257015 D0 [(75,c75)] [] A) (fun _=>{ tm:=[],ob:=[] }) (5) f45 [(cd ops ints strs rels),.int .i64 i]=some (.bool (relOkF ops rels i)):=by
 obtain⟨⟨hlo,hli,hls,hlr⟩,h0,hlt,hsz⟩:=hp
 have hget:=getD_get (d:=(⟨0,0,⟨#[]⟩,⟨#[]⟩⟩:XRel)) hlt
 have hmem:=List.mem_of_getElem? hget
 have hget1:0 < i→rels[(i - 1).toNat]? = some (rels.getD (i - 1).toNat ⟨0,0,⟨#[]⟩,⟨#[]⟩⟩):=fun h=>getD_get (by omega)
 have hw2:IntKind.i64.wrap (i - 1)=i - 1:=wrap_i64 (by omega) (by omega)
 rw[relOk_r]
 simp only[relOkR]
 obtain⟨r,hr⟩:∃ r,rels.getD i.toNat ⟨0,0,⟨#[]⟩,⟨#[]⟩⟩=r:=⟨_,rfl⟩
 obtain⟨r1,hr1⟩:∃ r,rels.getD (i - 1).toNat ⟨0,0,⟨#[]⟩,⟨#[]⟩⟩=r:=⟨_,rfl⟩
 have hs:=hsz _ hmem
 simp only[hr,hr1] at hget hget1 hs ⊢
 have e1:=c75_eq r.str hs.1
 have e2:=c75_eq r.mem hs.2
 obtain⟨n1,hn1⟩:∃ b,nameF r.str=b:=⟨_,rfl⟩
 obtain⟨n2,hn2⟩:∃ b,nameF r.mem=b:=⟨_,rfl⟩
 simp only[hn1,hn2] at e1 e2 ⊢
 have hbb:(decide (r.at_ < 0)=true∨decide ((ops.length:Int)≤r.at_)=true)→(decide (0≤r.at_)&&decide (r.at_≤(ops.length:Int) - 1))=false:=fun h=>by
  simp only[decide_eq_true_eq] at h
  simp only[Bool.and_eq_false_iff,decide_eq_false_iff_not]
  omega
 have hbc:decide (r.at_ < 0)=false→decide ((ops.length:Int)≤r.at_)=false→(decide (0≤r.at_)&&decide (r.at_≤(ops.length:Int) - 1))=true:=fun h1 h2=>by
  simp only[decide_eq_false_iff_not] at h1 h2
  simp only[Bool.and_eq_true,decide_eq_true_eq]
  omega
 cases b0:decide (r.at_ < 0)
 rotate_left
 ·have hb:=hbb (.inl b0)
  simp only[hb,BL]
  simp only[acall,macall,f45]
  simp only[go_sem,simprocAttr,b0,hget,h0]
  try rfl
 cases b1:decide ((ops.length:Int)≤r.at_)
 rotate_left
 ·have hb:=hbb (.inr b1)
  simp only[hb,BL]
  simp only[acall,macall,f45]
  simp only[go_sem,simprocAttr,b0,b1,hget,h0]
  try rfl
 have hb:=hbc b0 b1
 have h2:0≤r.at_:=by simp only[decide_eq_false_iff_not] at b0;omega
 have hgop:=getD_get (d:=op0) (show r.at_.toNat < ops.length by simp only[decide_eq_false_iff_not] at b1;omega)
 rw[show ops.getD r.at_.toNat ⟨0,0,0,0,0⟩=ops.getD r.at_.toNat op0 from rfl]
 generalize ops.getD r.at_.toNat op0=op at *
 by_cases hii:0 < i
 ·have hi:decide (0 < i)=true:=by simpa using hii
  have hget2:=hget1 hii
  have hi1:0≤i - 1:=by omega
  cases hc:decide (r.at_≤r1.at_)
  ·cases n1
   ·simp only[hb,hi,hc,BL]
    simp only[acall,macall,f45]
    simp only[go_sem,simprocAttr,b0,b1,hc,hget,h0,hi,e1,e2,hw2,hget2,hi1]
    try rfl
   ·cases k1:(r.kind==1)
    ·cases k2:(r.kind==2)
     ·cases k3:(r.kind==3)
      ·simp only[hb,hi,hc,k1,k2,k3,BL]
       simp only[acall,macall,f45]
       simp only[go_sem,simprocAttr,b0,b1,hc,k1,k2,k3,hget,h0,hi,e1,e2,hw2,hget2,hi1,hgop,h2]
       try rfl
      ·cases ho:(op.op==26)
       ·simp only[hb,hi,hc,k1,k2,k3,ho,BL]
        simp only[acall,macall,f45]
        simp only[go_sem,simprocAttr,b0,b1,hc,k1,k2,k3,ho,hget,h0,hi,e1,e2,hw2,hget2,hi1,hgop,h2]
        try rfl
       ·simp only[hb,hi,hc,k1,k2,k3,ho,BL]
        simp only[acall,macall,f45]
        simp only[go_sem,simprocAttr,b0,b1,hc,k1,k2,k3,ho,hget,h0,hi,e1,e2,hw2,hget2,hi1,hgop,h2]
        try rfl
     ·cases ho:(op.op==1)
      ·simp only[hb,hi,hc,k1,k2,ho,BL]
       simp only[acall,macall,f45]
       simp only[go_sem,simprocAttr,b0,b1,hc,k1,k2,ho,hget,h0,hi,e1,e2,hw2,hget2,hi1,hgop,h2]
       try rfl
      ·simp only[hb,hi,hc,k1,k2,ho,BL]
       simp only[acall,macall,f45]
       simp only[go_sem,simprocAttr,b0,b1,hc,k1,k2,ho,hget,h0,hi,e1,e2,hw2,hget2,hi1,hgop,h2]
       try rfl
    ·cases ho:(op.op==1)
     ·simp only[hb,hi,hc,k1,ho,BL]
      simp only[acall,macall,f45]
      simp only[go_sem,simprocAttr,b0,b1,hc,k1,ho,hget,h0,hi,e1,e2,hw2,hget2,hi1,hgop,h2]
      try rfl
     ·simp only[hb,hi,hc,k1,ho,BL]
      simp only[acall,macall,f45]
      simp only[go_sem,simprocAttr,b0,b1,hc,k1,ho,hget,h0,hi,e1,e2,hw2,hget2,hi1,hgop,h2]
      try rfl
  ·simp only[hb,hi,hc,BL]
   simp only[acall,macall,f45]
   simp only[go_sem,simprocAttr,b0,b1,hc,hget,h0,hi,e1,e2,hw2,hget2,hi1]
   try rfl
 ·have hi:decide (0 < i)=false:=by simpa using hii
  cases n1
  ·simp only[hb,hi,BL]
   simp only[acall,macall,f45]
   simp only[go_sem,simprocAttr,b0,b1,hget,h0,hi,e1,e2,hw2]
   try rfl
  ·cases k1:(r.kind==1)
   ·cases k2:(r.kind==2)
    ·cases k3:(r.kind==3)
     ·simp only[hb,hi,k1,k2,k3,BL]
      simp only[acall,macall,f45]
      simp only[go_sem,simprocAttr,b0,b1,k1,k2,k3,hget,h0,hi,e1,e2,hw2,hgop,h2]
      try rfl
     ·cases ho:(op.op==26)
      ·simp only[hb,hi,k1,k2,k3,ho,BL]
       simp only[acall,macall,f45]
       simp only[go_sem,simprocAttr,b0,b1,k1,k2,k3,ho,hget,h0,hi,e1,e2,hw2,hgop,h2]
       try rfl
      ·simp only[hb,hi,k1,k2,k3,ho,BL]
       simp only[acall,macall,f45]
       simp only[go_sem,simprocAttr,b0,b1,k1,k2,k3,ho,hget,h0,hi,e1,e2,hw2,hgop,h2]
       try rfl
    ·cases ho:(op.op==1)
     ·simp only[hb,hi,k1,k2,ho,BL]
      simp only[acall,macall,f45]
      simp only[go_sem,simprocAttr,b0,b1,k1,k2,ho,hget,h0,hi,e1,e2,hw2,hgop,h2]
      try rfl
     ·simp only[hb,hi,k1,k2,ho,BL]
      simp only[acall,macall,f45]
      simp only[go_sem,simprocAttr,b0,b1,k1,k2,ho,hget,h0,hi,e1,e2,hw2,hgop,h2]
      try rfl
   ·cases ho:(op.op==1)
    ·simp only[hb,hi,k1,ho,BL]
     simp only[acall,macall,f45]
     simp only[go_sem,simprocAttr,b0,b1,k1,ho,hget,h0,hi,e1,e2,hw2,hgop,h2]
     try rfl
    ·simp only[hb,hi,k1,ho,BL]
     simp only[acall,macall,f45]
     simp only[go_sem,simprocAttr,b0,b1,k1,ho,hget,h0,hi,e1,e2,hw2,hgop,h2]
     try rfl
noncomputable def c45:=famP (α:=(List XOp) × (List Int) × (List ByteArray) × (List XRel) × Int) (fun (ops,ints,strs,rels,i)=>(ops.length≤100000∧ints.length≤100000∧strs.length≤100000∧rels.length≤100000)∧0≤i∧i.toNat < rels.length∧∀ r ∈ rels,r.str.size≤9223372036854775807∧r.mem.size≤9223372036854775807) (fun (ops,ints,strs,rels,i)=>[(cd ops ints strs rels),.int .i64 i]) (fun (ops,ints,strs,rels,i)=> .bool (relOkF ops rels i))
theorem c45_eq (i:Int) (hp:(ops.length≤100000∧ints.length≤100000∧strs.length≤100000∧rels.length≤100000)∧0≤i∧i.toNat < rels.length∧∀ r ∈ rels,r.str.size≤9223372036854775807∧r.mem.size≤9223372036854775807):c45 [(cd ops ints strs rels),.int .i64 i]=some (.bool (relOkF ops rels i)):=fam_eq (fun X Y hp hp' h'=>by
 obtain⟨ops,ints,strs,rels,i⟩:=X;obtain⟨ops',ints',strs',rels',i'⟩:=Y;simp only[INJ] at h'
 obtain⟨rfl,rfl,rfl,rfl,rfl⟩:=h'
 rfl) (ops,ints,strs,rels,i) hp
theorem snd45:Snd 45 c45:=fam_snd h45 rfl rfl fun (ops,ints,strs,rels,i) hp=>rc h45 (fun A=>run45 ops ints strs rels i hp A) (fun i=>match i with | 2=>[0,1,3,7,15,31,15,79,207,511,1023,2047,4095,8191,16383,32767,65535,32767,163839,524287,1048575,2097151,32767,4227071,16777215,33554431,67108863,134217727,268435455,536870911,1073741823,2147483647,4294967295] | _=>[]) rfl rfl rfl (by kernel_rfl) ⟨snd75,trivial⟩ trivial
def checkR (ops:List XOp) (ints:List Int) (strs:List ByteArray) (rels:List XRel):Bool:=
 if decide ((ops.length:Int) < 1)=true then false else if decide (500 < (ops.length:Int))=true then false
 else if decide (200 < (ints.length:Int))=true then false else if decide (200 < (strs.length:Int))=true then false else if decide (500 < (rels.length:Int))=true then false
 else if ((ops.getD ((ops.length:Int) - 1).toNat op0).op==40)=true then
  (if allF (fun i=>strOkF (strs.getD i ⟨#[]⟩)) 0 strs.length=true then (if allF (fun i=>rightF ops ints.length strs.length i) 0 ops.length=true then allF (fun i=>relOkF ops rels i) 0 rels.length else false) else false)
 else false
theorem check_r:checkF ops ints strs rels=checkR ops ints strs rels:=by
 unfold checkF checkR
 rw[show ((ops.length:Int) - 1).toNat=ops.length - 1 by omega]
 by_cases h0:(ops.length:Int) < 1
 ·have e:decide (1≤(ops.length:Int))=false:=decide_eq_false (by omega)
  simp[h0,e]
 ·have e:decide (1≤(ops.length:Int))=true:=decide_eq_true (by omega)
  by_cases h1:500 < (ops.length:Int)
  ·have e1:decide ((ops.length:Int)≤500)=false:=decide_eq_false (by omega)
   simp[h0,h1,e1]
  ·have e1:decide ((ops.length:Int)≤500)=true:=decide_eq_true (by omega)
   rw[e,e1]
   simp only[decide_eq_true_eq,h0,h1,BL]
   cases hx:((ops.getD (ops.length - 1) op0).op==40) <;> simp
theorem h20:Tryz.prog.funcs[20]? = some f20:=by kernel_rfl
def H20:Nat→Hint:=fun i=>if i=5 then ({ tm:=[1,3,4],ob:=[1],fin:=some ([1,3,2],[1]) }:Hint) else if i=10 then ({ tm:=[1,3,5],ob:=[1],fin:=some ([1,3,2],[1]) }:Hint) else if i=17 then ({ tm:=[1,3,8],ob:=[1],fin:=some ([1,3,2],[1]) }:Hint) else { tm:=[],ob:=[] }
theorem H20_5:H20 5=({ tm:=[1,3,4],ob:=[1],fin:=some ([1,3,2],[1]) }:Hint):=by simp[H20]
theorem H20_10:H20 10=({ tm:=[1,3,5],ob:=[1],fin:=some ([1,3,2],[1]) }:Hint):=by simp[H20]
theorem H20_17:H20 17=({ tm:=[1,3,8],ob:=[1],fin:=some ([1,3,2],[1]) }:Hint):=by simp[H20]
theorem loop20_5 (hp:(ops.length≤100000∧ints.length≤100000∧strs.length≤100000∧rels.length≤100000)∧(∀ s ∈ strs,s.size≤9223372036854775807)∧∀ r ∈ rels,r.str.size≤9223372036854775807∧r.mem.size≤9223372036854775807) (p:Nat→Bool) (hpp:∀ i,i < strs.length→p i=strOkF (strs.getD i ⟨#[]⟩)) (A:Nat→Prop) (k:Nat):∀ (m i:Nat) (σ:St),i+m=strs.length→
 σ.keep (H20 5)=⟨[(1,.ptr 1 (.box 27) []),(3,.int .i64 ops.length),(4,.int .i64 i)],[(1,⟨.box 27,false,[(cd ops ints strs rels)]⟩)]⟩→
 post (H20 5) (aloop ty (arun (env 117 84415388770398257493776314862141951 D0 [(41,c41),(42,c42),(43,c43),(44,c44),(45,c45)] [] A) H20 k (sub (f20.body.getD .skip) [1,1,1,0,1,0,0])) (H20 5) (m+1) σ) =
 some (if allF p i m=true then (.exit 0,⟨[(1,.ptr 1 (.box 27) []),(3,.int .i64 ops.length)],[(1,⟨.box 27,false,[(cd ops ints strs rels)]⟩)]⟩) else (.ret,⟨[(1,.ptr 1 (.box 27) []),(3,.int .i64 ops.length),(2,.int .i64 150)],[(1,⟨.box 27,false,[(cd ops ints strs rels)]⟩)]⟩)):=by
 simp only[f20,sub,Option.getD_some,H20_5]
 intro m
 induction m with
 | zero=>
   intro i σ hi hσ
   have h1:¬ ((i:Int) < ((strs.length:Nat):Int)):=by omega
   rw[aloop,hσ]
   simp only[go_sem,simprocAttr,h1]
   simp[post,St.fin,keepL,aget,allF]
 | succ m ih=>
   intro i σ hi hσ
   have h1:(i:Int) < ((strs.length:Nat):Int):=by omega
   have hlt:i < strs.length:=by omega
   have hl:=hp.1
   have hw:IntKind.i64.wrap ((i:Int)+1)=((i+1:Nat):Int):=wrap_nat (by omega)
   have hget:=getD_get (d:=(⟨#[]⟩:ByteArray)) hlt
   have hpi:=hpp i hlt
   have hni:(0:Int)≤(i:Int):=Int.natCast_nonneg i
   have e41:=c41_eq _ (hp.2.1 _ (List.mem_of_getElem? hget))
   generalize strs.getD i ⟨#[]⟩=s at *
   rw[← hpi] at e41
   rw[aloop,hσ]
   cases hq:p i
   all_goals
    rw[hq] at e41
    skip
   all_goals
    simp only[go_sem,simprocAttr,c42_eq,c43_eq,c44_eq,c45_eq,h1,hni,hget,hw,e41]
    simp only[allF,hq,BL]
    first
    | (simp[post,St.fin,keepL,aget];done)
    | exact ih (i+1) _ (by omega) (by simp only[go_sem,simprocAttr])
theorem loop20_10 (hp:(ops.length≤100000∧ints.length≤100000∧strs.length≤100000∧rels.length≤100000)∧(∀ s ∈ strs,s.size≤9223372036854775807)∧∀ r ∈ rels,r.str.size≤9223372036854775807∧r.mem.size≤9223372036854775807) (p:Nat→Bool) (hpp:∀ i,i < ops.length→p i=rightF ops ints.length strs.length i) (A:Nat→Prop) (k:Nat):∀ (m i:Nat) (σ:St),i+m=ops.length→
 σ.keep (H20 10)=⟨[(1,.ptr 1 (.box 27) []),(3,.int .i64 ops.length),(5,.int .i64 i)],[(1,⟨.box 27,false,[(cd ops ints strs rels)]⟩)]⟩→
 post (H20 10) (aloop ty (arun (env 117 84415388770398257493776314862141951 D0 [(41,c41),(42,c42),(43,c43),(44,c44),(45,c45)] [] A) H20 k (sub (f20.body.getD .skip) [1,1,1,1,0,1,0,0])) (H20 10) (m+1) σ) =
 some (if allF p i m=true then (.exit 2,⟨[(1,.ptr 1 (.box 27) []),(3,.int .i64 ops.length)],[(1,⟨.box 27,false,[(cd ops ints strs rels)]⟩)]⟩) else (.ret,⟨[(1,.ptr 1 (.box 27) []),(3,.int .i64 ops.length),(2,.int .i64 150)],[(1,⟨.box 27,false,[(cd ops ints strs rels)]⟩)]⟩)):=by
 simp only[f20,sub,Option.getD_some,H20_10]
 intro m
 induction m with
 | zero=>
   intro i σ hi hσ
   have h1:¬ ((i:Int) < ((ops.length:Nat):Int)):=by omega
   rw[aloop,hσ]
   simp only[go_sem,simprocAttr,h1]
   simp[post,St.fin,keepL,aget,allF]
 | succ m ih=>
   intro i σ hi hσ
   have h1:(i:Int) < ((ops.length:Nat):Int):=by omega
   have hlt:i < ops.length:=by omega
   have hl:=hp.1
   have hw:IntKind.i64.wrap ((i:Int)+1)=((i+1:Nat):Int):=wrap_nat (by omega)
   have hget:=getD_get (d:=op0) hlt
   have hpi:=hpp i hlt
   have hni:(0:Int)≤(i:Int):=Int.natCast_nonneg i
   have e44:=c44_eq ops ints strs rels i ⟨hl,hni,by simpa using hlt⟩
   simp only[rightF,Int.toNat_natCast] at hpi e44
   generalize ops.getD i op0=x at *
   have e42:=c42_eq x.op
   have e43d:=c43_eq (formF x.op).d x.d
   have e43a:=c43_eq (formF x.op).a x.a
   have e43b:=c43_eq (formF x.op).b x.b
   generalize regF (formF x.op).d x.d=r1 at *
   generalize regF (formF x.op).a x.a=r2 at *
   generalize regF (formF x.op).b x.b=r3 at *
   generalize fitsF ops.length ints.length strs.length i x.op x.n=r4 at *
   rw[aloop,hσ]
   cases hq:p i
   all_goals
    rw[hq] at hpi
    cases hnm:((formF x.op).name.toList==(⟨#[]⟩:ByteArray).toList)
    all_goals cases r1 <;> cases r2 <;> cases r3 <;> cases r4
    all_goals simp only[hnm,BL] at hpi
   all_goals first | (simp at hpi;done) | skip
   all_goals
    simp only[go_sem,simprocAttr,c41_eq,c45_eq,h1,hni,hget,hw,hnm,e42,e43d,e43a,e43b,e44,eFormR]
    simp only[allF,hq,BL]
    first
    | (simp[post,St.fin,keepL,aget];done)
    | exact ih (i+1) _ (by omega) (by simp only[go_sem,simprocAttr])
theorem loop20_17 (hp:(ops.length≤100000∧ints.length≤100000∧strs.length≤100000∧rels.length≤100000)∧(∀ s ∈ strs,s.size≤9223372036854775807)∧∀ r ∈ rels,r.str.size≤9223372036854775807∧r.mem.size≤9223372036854775807) (p:Nat→Bool) (hpp:∀ i,i < rels.length→p i=relOkF ops rels i) (A:Nat→Prop) (k:Nat):∀ (m i:Nat) (σ:St),i+m=rels.length→
 σ.keep (H20 17)=⟨[(1,.ptr 1 (.box 27) []),(3,.int .i64 ops.length),(8,.int .i64 i)],[(1,⟨.box 27,false,[(cd ops ints strs rels)]⟩)]⟩→
 post (H20 17) (aloop ty (arun (env 117 84415388770398257493776314862141951 D0 [(41,c41),(42,c42),(43,c43),(44,c44),(45,c45)] [] A) H20 k (sub (f20.body.getD .skip) [1,1,1,1,1,0,1,0,0])) (H20 17) (m+1) σ) =
 some (if allF p i m=true then (.exit 4,⟨[(1,.ptr 1 (.box 27) []),(3,.int .i64 ops.length)],[(1,⟨.box 27,false,[(cd ops ints strs rels)]⟩)]⟩) else (.ret,⟨[(1,.ptr 1 (.box 27) []),(3,.int .i64 ops.length),(2,.int .i64 150)],[(1,⟨.box 27,false,[(cd ops ints strs rels)]⟩)]⟩)):=by
 simp only[f20,sub,Option.getD_some,H20_17]
 intro m
 induction m with
 | zero=>
   intro i σ hi hσ
   have h1:¬ ((i:Int) < ((rels.length:Nat):Int)):=by omega
   rw[aloop,hσ]
   simp only[go_sem,simprocAttr,h1]
   simp[post,St.fin,keepL,aget,allF]
 | succ m ih=>
   intro i σ hi hσ
   have h1:(i:Int) < ((rels.length:Nat):Int):=by omega
   have hlt:i < rels.length:=by omega
   have hl:=hp.1
   have hw:IntKind.i64.wrap ((i:Int)+1)=((i+1:Nat):Int):=wrap_nat (by omega)
   have hpi:=hpp i hlt
   have e45:=c45_eq ops ints strs rels i ⟨hl,Int.natCast_nonneg i,by simpa using hlt,hp.2.2⟩
   rw[← hpi] at e45
   rw[aloop,hσ]
   cases hq:p i
   all_goals
    rw[hq] at e45
    skip
   all_goals
    simp only[go_sem,simprocAttr,c41_eq,c42_eq,c43_eq,c44_eq,h1,hw,e45]
    simp only[allF,hq,BL]
    first
    | (simp[post,St.fin,keepL,aget];done)
    | exact ih (i+1) _ (by omega) (by simp only[go_sem,simprocAttr])
theorem run20 (hp:(ops.length≤100000∧ints.length≤100000∧strs.length≤100000∧rels.length≤100000)∧(∀ s ∈ strs,s.size≤9223372036854775807)∧∀ r ∈ rels,r.str.size≤9223372036854775807∧r.mem.size≤9223372036854775807) (A:Nat→Prop):acall (env 117 84415388770398257493776314862141951 D0 [(41,c41),(42,c42),(43,c43),(44,c44),(45,c45)] [] A) (H20) (100010) f20 [(cd ops ints strs rels)]=some (.int .i64 (errF (checkF ops ints strs rels))):=by
 have hl:=hp.1
 have hl5:=loop20_5 ops ints strs rels hp (fun i=>strOkF (strs.getD i ⟨#[]⟩)) (fun _ _=>rfl) A 100010 strs.length 0
 have hl10:=loop20_10 ops ints strs rels hp (fun i=>rightF ops ints.length strs.length i) (fun _ _=>rfl) A 100010 ops.length 0
 have hl17:=loop20_17 ops ints strs rels hp (fun i=>relOkF ops rels i) (fun _ _=>rfl) A 100010 rels.length 0
 simp only[f20,sub,Option.getD_some,H20_5,H20_10,H20_17] at hl5 hl10 hl17
 have hwl:IntKind.i64.wrap ((ops.length:Int) - 1)=(ops.length:Int) - 1:=wrap_i64 (by omega) (by omega)
 rw[check_r]
 cases d0:decide ((ops.length:Int) < 1)
 ·cases d1:decide (500 < (ops.length:Int))
  ·cases d2:decide (200 < (ints.length:Int))
   ·cases d3:decide (200 < (strs.length:Int))
    ·cases d4:decide (500 < (rels.length:Int))
     ·cases d5:((ops.getD ((ops.length:Int) - 1).toNat op0).op==40)
      ·have h0:0≤(ops.length:Int) - 1:=by simp at d0;omega
       have hget:=getD_get (d:=op0) (show ((ops.length:Int) - 1).toNat < ops.length by simp at d0;omega)
       simp only[checkR,errF,d0,d1,d2,d3,d4,d5,BL]
       simp only[acall,macall,f20]
       simp only[go_sem,simprocAttr,d0,d1,d2,d3,d4,d5,hwl,H20_5,H20_10,H20_17,h0,hget]
       try rfl
      ·have h0:0≤(ops.length:Int) - 1:=by simp at d0;omega
       have hget:=getD_get (d:=op0) (show ((ops.length:Int) - 1).toNat < ops.length by simp at d0;omega)
       simp only[acall,macall,f20]
       simp only[go_sem,simprocAttr,d0,d1,d2,d3,d4,d5,hwl,H20_5,H20_10,H20_17,h0,hget]
       rw[post_le (hl5 _ (by simp) (by simp only[go_sem,simprocAttr])) (by omega)]
       cases hq5:allF (fun i=>strOkF (strs.getD i ⟨#[]⟩)) 0 strs.length
       ·simp only[checkR,errF,d0,d1,d2,d3,d4,d5,hq5,BL]
        simp only[go_sem,simprocAttr,d0,d1,d2,d3,d4,d5,hwl,H20_5,H20_10,H20_17,h0,hget]
        try rfl
       simp only[BL]
       simp only[go_sem,simprocAttr,d0,d1,d2,d3,d4,d5,hwl,H20_5,H20_10,H20_17,h0,hget]
       rw[post_le (hl10 _ (by simp) (by simp only[go_sem,simprocAttr])) (by omega)]
       cases hq10:allF (fun i=>rightF ops ints.length strs.length i) 0 ops.length
       ·simp only[checkR,errF,d0,d1,d2,d3,d4,d5,hq5,hq10,BL]
        simp only[go_sem,simprocAttr,d0,d1,d2,d3,d4,d5,hwl,H20_5,H20_10,H20_17,h0,hget]
        try rfl
       simp only[BL]
       simp only[go_sem,simprocAttr,d0,d1,d2,d3,d4,d5,hwl,H20_5,H20_10,H20_17,h0,hget]
       rw[post_le (hl17 _ (by simp) (by simp only[go_sem,simprocAttr])) (by omega)]
       cases hq17:allF (fun i=>relOkF ops rels i) 0 rels.length
       all_goals
        simp only[checkR,errF,d0,d1,d2,d3,d4,d5,hq5,hq10,hq17,BL]
        simp only[go_sem,simprocAttr,d0,d1,d2,d3,d4,d5,hwl,H20_5,H20_10,H20_17,h0,hget]
        try rfl
     ·simp only[checkR,errF,d0,d1,d2,d3,d4,BL]
      simp only[acall,macall,f20]
      simp only[go_sem,simprocAttr,d0,d1,d2,d3,d4,hwl,H20_5,H20_10,H20_17]
      try rfl
    ·simp only[checkR,errF,d0,d1,d2,d3,BL]
     simp only[acall,macall,f20]
     simp only[go_sem,simprocAttr,d0,d1,d2,d3,hwl,H20_5,H20_10,H20_17]
     try rfl
   ·simp only[checkR,errF,d0,d1,d2,BL]
    simp only[acall,macall,f20]
    simp only[go_sem,simprocAttr,d0,d1,d2,hwl,H20_5,H20_10,H20_17]
    try rfl
  ·simp only[checkR,errF,d0,d1,BL]
   simp only[acall,macall,f20]
   simp only[go_sem,simprocAttr,d0,d1,hwl,H20_5,H20_10,H20_17]
   try rfl
 ·simp only[checkR,errF,d0,BL]
  simp only[acall,macall,f20]
  simp only[go_sem,simprocAttr,d0,hwl,H20_5,H20_10,H20_17]
  try rfl
noncomputable def c20:=famP (α:=(List XOp) × (List Int) × (List ByteArray) × (List XRel)) (fun (ops,ints,strs,rels)=>(ops.length≤100000∧ints.length≤100000∧strs.length≤100000∧rels.length≤100000)∧(∀ s ∈ strs,s.size≤9223372036854775807)∧∀ r ∈ rels,r.str.size≤9223372036854775807∧r.mem.size≤9223372036854775807) (fun (ops,ints,strs,rels)=>[(cd ops ints strs rels)]) (fun (ops,ints,strs,rels)=> .int .i64 (errF (checkF ops ints strs rels)))
theorem c20_eq (hp:(ops.length≤100000∧ints.length≤100000∧strs.length≤100000∧rels.length≤100000)∧(∀ s ∈ strs,s.size≤9223372036854775807)∧∀ r ∈ rels,r.str.size≤9223372036854775807∧r.mem.size≤9223372036854775807):c20 [(cd ops ints strs rels)]=some (.int .i64 (errF (checkF ops ints strs rels))):=fam_eq (fun X Y hp hp' h'=>by
 obtain⟨ops,ints,strs,rels⟩:=X;obtain⟨ops',ints',strs',rels'⟩:=Y;simp only[INJ] at h'
 obtain⟨rfl,rfl,rfl,rfl⟩:=h'
 rfl) (ops,ints,strs,rels) hp
theorem snd20:Snd 20 c20:=fam_snd h20 rfl rfl fun (ops,ints,strs,rels) hp=>rc h20 (fun A=>run20 ops ints strs rels hp A) (fun _=>[]) rfl rfl rfl (by kernel_rfl) ⟨snd41,snd42,snd43,snd44,snd45,trivial⟩ trivial
theorem h9:Tryz.prog.funcs[9]? = some f9:=by kernel_rfl
theorem run9 (A:Nat→Prop):acall (env 25 7 D0 [] [] A) (fun _=>{ tm:=[],ob:=[] }) (5) f9 [(cd ops ints strs rels)]=some (.bool (decide (ops.length≤60)&&(decide (ints.length≤60)&&(decide (strs.length≤60)&&decide (rels.length≤60))))):=by
 have c:∀ n:Nat,decide (n≤60)=decide ((n:Int)≤60):=fun n=>decide_eq_decide.2 (by omega)
 rw[c,c,c,c]
 cases h1:decide ((ops.length:Int)≤60) <;> cases h2:decide ((ints.length:Int)≤60) <;> cases h3:decide ((strs.length:Int)≤60) <;> cases h4:decide ((rels.length:Int)≤60)
 all_goals
  simp only[acall,macall,f9]
  simp only[go_sem,simprocAttr,h1,h2,h3,h4]
  try rfl
noncomputable def c9:=famP (α:=(List XOp) × (List Int) × (List ByteArray) × (List XRel)) (fun _=>True) (fun (ops,ints,strs,rels)=>[(cd ops ints strs rels)]) (fun (ops,ints,strs,rels)=> .bool (decide (ops.length≤60)&&(decide (ints.length≤60)&&(decide (strs.length≤60)&&decide (rels.length≤60)))))
theorem c9_eq:c9 [(cd ops ints strs rels)]=some (.bool (decide (ops.length≤60)&&(decide (ints.length≤60)&&(decide (strs.length≤60)&&decide (rels.length≤60))))):=fam_eq (fun X Y hp hp' h'=>by
 obtain⟨ops,ints,strs,rels⟩:=X;obtain⟨ops',ints',strs',rels'⟩:=Y;simp only[INJ] at h'
 obtain⟨rfl,rfl,rfl,rfl⟩:=h'
 rfl) (ops,ints,strs,rels) trivial
theorem snd9:Snd 9 c9:=fam_snd h9 rfl rfl fun (ops,ints,strs,rels) _=>rc h9 (fun A=>run9 ops ints strs rels A) (fun _=>[]) rfl rfl rfl (by kernel_rfl) trivial trivial
def opEq (x y:XOp):Bool:=x.op==y.op&&(x.d==y.d&&(x.a==y.a&&(x.b==y.b&&x.n==y.n)))
def relEq (x y:XRel):Bool:=x.kind==y.kind&&(x.at_==y.at_&&((x.str.toList==y.str.toList)&&(x.mem.toList==y.mem.toList)))
def sameF (c c':XCode):Bool:=
 if (c.ops.length==c'.ops.length&&(c.ints.length==c'.ints.length&&(c.strs.length==c'.strs.length&&c.rels.length==c'.rels.length)))=true then
  (if allF (fun i=>opEq (c.ops.getD i op0) (c'.ops.getD i op0)) 0 c.ops.length=true then (if allF (fun i=>c.ints.getD i 0==c'.ints.getD i 0) 0 c.ints.length=true then
    (if allF (fun i=>(c.strs.getD i ⟨#[]⟩).toList==(c'.strs.getD i ⟨#[]⟩).toList) 0 c.strs.length=true then allF (fun i=>relEq (c.rels.getD i ⟨0,0,⟨#[]⟩,⟨#[]⟩⟩) (c'.rels.getD i ⟨0,0,⟨#[]⟩,⟨#[]⟩⟩)) 0 c.rels.length else false) else false) else false)
 else false
theorem h13:Tryz.prog.funcs[13]? = some f13:=by kernel_rfl
def H13:Nat→Hint:=fun i=>if i=4 then ({ tm:=[2,3,5],ob:=[2,3],fin:=some ([2,3,4],[2,3]) }:Hint) else if i=9 then ({ tm:=[2,3,6],ob:=[2,3],fin:=some ([2,3,4],[2,3]) }:Hint) else if i=14 then ({ tm:=[2,3,7],ob:=[2,3],fin:=some ([2,3,4],[2,3]) }:Hint) else if i=19 then ({ tm:=[2,3,8],ob:=[2,3],fin:=some ([2,3,4],[2,3]) }:Hint) else { tm:=[],ob:=[] }
theorem H13_4:H13 4=({ tm:=[2,3,5],ob:=[2,3],fin:=some ([2,3,4],[2,3]) }:Hint):=by simp[H13]
theorem H13_9:H13 9=({ tm:=[2,3,6],ob:=[2,3],fin:=some ([2,3,4],[2,3]) }:Hint):=by simp[H13]
theorem H13_14:H13 14=({ tm:=[2,3,7],ob:=[2,3],fin:=some ([2,3,4],[2,3]) }:Hint):=by simp[H13]
theorem H13_19:H13 19=({ tm:=[2,3,8],ob:=[2,3],fin:=some ([2,3,4],[2,3]) }:Hint):=by simp[H13]
theorem loop13_4 (c z:XCode) (hl:(c.ops.length≤100000∧c.ints.length≤100000∧c.strs.length≤100000∧c.rels.length≤100000)∧(z.ops.length≤100000∧z.ints.length≤100000∧z.strs.length≤100000∧z.rels.length≤100000)) (he:c.ops.length=z.ops.length) (p:Nat→Bool) (hpp:∀ i,i < c.ops.length→p i=opEq (c.ops.getD i op0) (z.ops.getD i op0)) (A:Nat→Prop) (k:Nat):∀ (m i:Nat) (σ:St),i+m=c.ops.length→
 σ.keep (H13 4)=⟨[(2,.ptr 2 (.box 27) []),(3,.ptr 3 (.box 27) []),(5,.int .i64 i)],[(2,⟨.box 27,false,[(cd c.ops c.ints c.strs c.rels)]⟩),(3,⟨.box 27,false,[(cd z.ops z.ints z.strs z.rels)]⟩)]⟩→
 post (H13 4) (aloop ty (arun (env 115 20771801973475957295638050519384575 D0 [] [] A) H13 k (sub (f13.body.getD .skip) [1,1,0,1,0,0])) (H13 4) (m+1) σ) =
 some (if allF p i m=true then (.exit 0,⟨[(2,.ptr 2 (.box 27) []),(3,.ptr 3 (.box 27) [])],[(2,⟨.box 27,false,[(cd c.ops c.ints c.strs c.rels)]⟩),(3,⟨.box 27,false,[(cd z.ops z.ints z.strs z.rels)]⟩)]⟩) else (.ret,⟨[(2,.ptr 2 (.box 27) []),(3,.ptr 3 (.box 27) []),(4,.bool false)],[(2,⟨.box 27,false,[(cd c.ops c.ints c.strs c.rels)]⟩),(3,⟨.box 27,false,[(cd z.ops z.ints z.strs z.rels)]⟩)]⟩)):=by
 simp only[f13,sub,Option.getD_some,H13_4]
 intro m
 induction m with
 | zero=>
   intro i σ hi hσ
   have h1:¬ ((i:Int) < ((c.ops.length:Nat):Int)):=by omega
   rw[aloop,hσ]
   simp only[go_sem,simprocAttr,h1]
   simp[post,St.fin,keepL,aget,allF]
 | succ m ih=>
   intro i σ hi hσ
   have h1:(i:Int) < ((c.ops.length:Nat):Int):=by omega
   have hlt:i < c.ops.length:=by omega
   obtain⟨⟨l1,l2,l3,l4⟩,_⟩:=hl
   have hw:IntKind.i64.wrap ((i:Int)+1)=((i+1:Nat):Int):=wrap_nat (by omega)
   have hni:(0:Int)≤(i:Int):=Int.natCast_nonneg i
   have hget:=getD_get (d:=op0) hlt
   have hget2:=getD_get (d:=op0) (show i < z.ops.length by omega)
   have hpi:=hpp i hlt
   generalize c.ops.getD i op0=x at *
   generalize z.ops.getD i op0=y at *
   try simp only[opEq,relEq] at hpi
   rw[aloop,hσ]
   cases hq:p i
   all_goals
    rw[hq] at hpi
    have hpj:=hpi.symm
    skip
   all_goals
    simp only[go_sem,simprocAttr,h1,hni,hget,hget2,hw,hpj,hq]
    simp only[allF,hq,BL]
    first
    | (simp[post,St.fin,keepL,aget];done)
    | exact ih (i+1) _ (by omega) (by simp only[go_sem,simprocAttr])
theorem loop13_9 (c z:XCode) (hl:(c.ops.length≤100000∧c.ints.length≤100000∧c.strs.length≤100000∧c.rels.length≤100000)∧(z.ops.length≤100000∧z.ints.length≤100000∧z.strs.length≤100000∧z.rels.length≤100000)) (he:c.ints.length=z.ints.length) (p:Nat→Bool) (hpp:∀ i,i < c.ints.length→p i=(c.ints.getD i 0==z.ints.getD i 0)) (A:Nat→Prop) (k:Nat):∀ (m i:Nat) (σ:St),i+m=c.ints.length→
 σ.keep (H13 9)=⟨[(2,.ptr 2 (.box 27) []),(3,.ptr 3 (.box 27) []),(6,.int .i64 i)],[(2,⟨.box 27,false,[(cd c.ops c.ints c.strs c.rels)]⟩),(3,⟨.box 27,false,[(cd z.ops z.ints z.strs z.rels)]⟩)]⟩→
 post (H13 9) (aloop ty (arun (env 115 20771801973475957295638050519384575 D0 [] [] A) H13 k (sub (f13.body.getD .skip) [1,1,1,0,1,0,0])) (H13 9) (m+1) σ) =
 some (if allF p i m=true then (.exit 2,⟨[(2,.ptr 2 (.box 27) []),(3,.ptr 3 (.box 27) [])],[(2,⟨.box 27,false,[(cd c.ops c.ints c.strs c.rels)]⟩),(3,⟨.box 27,false,[(cd z.ops z.ints z.strs z.rels)]⟩)]⟩) else (.ret,⟨[(2,.ptr 2 (.box 27) []),(3,.ptr 3 (.box 27) []),(4,.bool false)],[(2,⟨.box 27,false,[(cd c.ops c.ints c.strs c.rels)]⟩),(3,⟨.box 27,false,[(cd z.ops z.ints z.strs z.rels)]⟩)]⟩)):=by
 simp only[f13,sub,Option.getD_some,H13_9]
 intro m
 induction m with
 | zero=>
   intro i σ hi hσ
   have h1:¬ ((i:Int) < ((c.ints.length:Nat):Int)):=by omega
   rw[aloop,hσ]
   simp only[go_sem,simprocAttr,h1]
   simp[post,St.fin,keepL,aget,allF]
 | succ m ih=>
   intro i σ hi hσ
   have h1:(i:Int) < ((c.ints.length:Nat):Int):=by omega
   have hlt:i < c.ints.length:=by omega
   obtain⟨⟨l1,l2,l3,l4⟩,_⟩:=hl
   have hw:IntKind.i64.wrap ((i:Int)+1)=((i+1:Nat):Int):=wrap_nat (by omega)
   have hni:(0:Int)≤(i:Int):=Int.natCast_nonneg i
   have hget:=getD_get (d:=(0:Int)) hlt
   have hget2:=getD_get (d:=(0:Int)) (show i < z.ints.length by omega)
   have hpi:=hpp i hlt
   generalize c.ints.getD i (0:Int)=x at *
   generalize z.ints.getD i (0:Int)=y at *
   try simp only[opEq,relEq] at hpi
   rw[aloop,hσ]
   cases hq:p i
   all_goals
    rw[hq] at hpi
    have hpj:=hpi.symm
    skip
   all_goals
    simp only[go_sem,simprocAttr,h1,hni,hget,hget2,hw,hpj,hq]
    simp only[allF,hq,BL]
    first
    | (simp[post,St.fin,keepL,aget];done)
    | exact ih (i+1) _ (by omega) (by simp only[go_sem,simprocAttr])
theorem loop13_14 (c z:XCode) (hl:(c.ops.length≤100000∧c.ints.length≤100000∧c.strs.length≤100000∧c.rels.length≤100000)∧(z.ops.length≤100000∧z.ints.length≤100000∧z.strs.length≤100000∧z.rels.length≤100000)) (he:c.strs.length=z.strs.length) (p:Nat→Bool) (hpp:∀ i,i < c.strs.length→p i=((c.strs.getD i ⟨#[]⟩).toList==(z.strs.getD i ⟨#[]⟩).toList)) (A:Nat→Prop) (k:Nat):∀ (m i:Nat) (σ:St),i+m=c.strs.length→
 σ.keep (H13 14)=⟨[(2,.ptr 2 (.box 27) []),(3,.ptr 3 (.box 27) []),(7,.int .i64 i)],[(2,⟨.box 27,false,[(cd c.ops c.ints c.strs c.rels)]⟩),(3,⟨.box 27,false,[(cd z.ops z.ints z.strs z.rels)]⟩)]⟩→
 post (H13 14) (aloop ty (arun (env 115 20771801973475957295638050519384575 D0 [] [] A) H13 k (sub (f13.body.getD .skip) [1,1,1,1,0,1,0,0])) (H13 14) (m+1) σ) =
 some (if allF p i m=true then (.exit 4,⟨[(2,.ptr 2 (.box 27) []),(3,.ptr 3 (.box 27) [])],[(2,⟨.box 27,false,[(cd c.ops c.ints c.strs c.rels)]⟩),(3,⟨.box 27,false,[(cd z.ops z.ints z.strs z.rels)]⟩)]⟩) else (.ret,⟨[(2,.ptr 2 (.box 27) []),(3,.ptr 3 (.box 27) []),(4,.bool false)],[(2,⟨.box 27,false,[(cd c.ops c.ints c.strs c.rels)]⟩),(3,⟨.box 27,false,[(cd z.ops z.ints z.strs z.rels)]⟩)]⟩)):=by
 simp only[f13,sub,Option.getD_some,H13_14]
 intro m
 induction m with
 | zero=>
   intro i σ hi hσ
   have h1:¬ ((i:Int) < ((c.strs.length:Nat):Int)):=by omega
   rw[aloop,hσ]
   simp only[go_sem,simprocAttr,h1]
   simp[post,St.fin,keepL,aget,allF]
 | succ m ih=>
   intro i σ hi hσ
   have h1:(i:Int) < ((c.strs.length:Nat):Int):=by omega
   have hlt:i < c.strs.length:=by omega
   obtain⟨⟨l1,l2,l3,l4⟩,_⟩:=hl
   have hw:IntKind.i64.wrap ((i:Int)+1)=((i+1:Nat):Int):=wrap_nat (by omega)
   have hni:(0:Int)≤(i:Int):=Int.natCast_nonneg i
   have hget:=getD_get (d:=(⟨#[]⟩:ByteArray)) hlt
   have hget2:=getD_get (d:=(⟨#[]⟩:ByteArray)) (show i < z.strs.length by omega)
   have hpi:=hpp i hlt
   generalize c.strs.getD i (⟨#[]⟩:ByteArray)=x at *
   generalize z.strs.getD i (⟨#[]⟩:ByteArray)=y at *
   try simp only[opEq,relEq] at hpi
   rw[aloop,hσ]
   cases hq:p i
   all_goals
    rw[hq] at hpi
    have hpj:=hpi.symm
    skip
   all_goals
    simp only[go_sem,simprocAttr,h1,hni,hget,hget2,hw,hpj,hq]
    simp only[allF,hq,BL]
    first
    | (simp[post,St.fin,keepL,aget];done)
    | exact ih (i+1) _ (by omega) (by simp only[go_sem,simprocAttr])
theorem loop13_19 (c z:XCode) (hl:(c.ops.length≤100000∧c.ints.length≤100000∧c.strs.length≤100000∧c.rels.length≤100000)∧(z.ops.length≤100000∧z.ints.length≤100000∧z.strs.length≤100000∧z.rels.length≤100000)) (he:c.rels.length=z.rels.length) (p:Nat→Bool) (hpp:∀ i,i < c.rels.length→p i=relEq (c.rels.getD i ⟨0,0,⟨#[]⟩,⟨#[]⟩⟩) (z.rels.getD i ⟨0,0,⟨#[]⟩,⟨#[]⟩⟩)) (A:Nat→Prop) (k:Nat):∀ (m i:Nat) (σ:St),i+m=c.rels.length→
 σ.keep (H13 19)=⟨[(2,.ptr 2 (.box 27) []),(3,.ptr 3 (.box 27) []),(8,.int .i64 i)],[(2,⟨.box 27,false,[(cd c.ops c.ints c.strs c.rels)]⟩),(3,⟨.box 27,false,[(cd z.ops z.ints z.strs z.rels)]⟩)]⟩→
 post (H13 19) (aloop ty (arun (env 115 20771801973475957295638050519384575 D0 [] [] A) H13 k (sub (f13.body.getD .skip) [1,1,1,1,1,0,1,0,0])) (H13 19) (m+1) σ) =
 some (if allF p i m=true then (.exit 6,⟨[(2,.ptr 2 (.box 27) []),(3,.ptr 3 (.box 27) [])],[(2,⟨.box 27,false,[(cd c.ops c.ints c.strs c.rels)]⟩),(3,⟨.box 27,false,[(cd z.ops z.ints z.strs z.rels)]⟩)]⟩) else (.ret,⟨[(2,.ptr 2 (.box 27) []),(3,.ptr 3 (.box 27) []),(4,.bool false)],[(2,⟨.box 27,false,[(cd c.ops c.ints c.strs c.rels)]⟩),(3,⟨.box 27,false,[(cd z.ops z.ints z.strs z.rels)]⟩)]⟩)):=by
 simp only[f13,sub,Option.getD_some,H13_19]
 intro m
 induction m with
 | zero=>
   intro i σ hi hσ
   have h1:¬ ((i:Int) < ((c.rels.length:Nat):Int)):=by omega
   rw[aloop,hσ]
   simp only[go_sem,simprocAttr,h1]
   simp[post,St.fin,keepL,aget,allF]
 | succ m ih=>
   intro i σ hi hσ
   have h1:(i:Int) < ((c.rels.length:Nat):Int):=by omega
   have hlt:i < c.rels.length:=by omega
   obtain⟨⟨l1,l2,l3,l4⟩,_⟩:=hl
   have hw:IntKind.i64.wrap ((i:Int)+1)=((i+1:Nat):Int):=wrap_nat (by omega)
   have hni:(0:Int)≤(i:Int):=Int.natCast_nonneg i
   have hget:=getD_get (d:=(⟨0,0,⟨#[]⟩,⟨#[]⟩⟩:XRel)) hlt
   have hget2:=getD_get (d:=(⟨0,0,⟨#[]⟩,⟨#[]⟩⟩:XRel)) (show i < z.rels.length by omega)
   have hpi:=hpp i hlt
   generalize c.rels.getD i (⟨0,0,⟨#[]⟩,⟨#[]⟩⟩:XRel)=x at *
   generalize z.rels.getD i (⟨0,0,⟨#[]⟩,⟨#[]⟩⟩:XRel)=y at *
   try simp only[opEq,relEq] at hpi
   rw[aloop,hσ]
   cases hq:p i
   all_goals
    rw[hq] at hpi
    have hpj:=hpi.symm
    skip
   all_goals
    simp only[go_sem,simprocAttr,h1,hni,hget,hget2,hw,hpj,hq]
    simp only[allF,hq,BL]
    first
    | (simp[post,St.fin,keepL,aget];done)
    | exact ih (i+1) _ (by omega) (by simp only[go_sem,simprocAttr])
theorem run13 (c z:XCode) (hp:(c.ops.length≤100000∧c.ints.length≤100000∧c.strs.length≤100000∧c.rels.length≤100000)∧(z.ops.length≤100000∧z.ints.length≤100000∧z.strs.length≤100000∧z.rels.length≤100000)) (A:Nat→Prop):acall (env 115 20771801973475957295638050519384575 D0 [] [] A) (H13) (100010) f13 [(cd c.ops c.ints c.strs c.rels),(cd z.ops z.ints z.strs z.rels)]=some (.bool (sameF c z)):=by
 obtain⟨⟨l1,l2,l3,l4⟩,_⟩:=id hp
 have cc:∀ a b:Nat,(a==b)=((a:Int)==(b:Int)):=fun a b=>by
  rw[Bool.eq_iff_iff];simp only[beq_iff_eq];omega
 cases d1:((c.ops.length:Int)==(z.ops.length:Int))
 ·simp only[sameF,cc,d1,BL]
  simp only[acall,macall,f13]
  simp only[go_sem,simprocAttr,d1,H13_4,H13_9,H13_14,H13_19]
  try rfl
 ·cases d2:((c.ints.length:Int)==(z.ints.length:Int))
  ·simp only[sameF,cc,d1,d2,BL]
   simp only[acall,macall,f13]
   simp only[go_sem,simprocAttr,d1,d2,H13_4,H13_9,H13_14,H13_19]
   try rfl
  ·cases d3:((c.strs.length:Int)==(z.strs.length:Int))
   ·simp only[sameF,cc,d1,d2,d3,BL]
    simp only[acall,macall,f13]
    simp only[go_sem,simprocAttr,d1,d2,d3,H13_4,H13_9,H13_14,H13_19]
    try rfl
   ·cases d4:((c.rels.length:Int)==(z.rels.length:Int))
    ·simp only[sameF,cc,d1,d2,d3,d4,BL]
     simp only[acall,macall,f13]
     simp only[go_sem,simprocAttr,d1,d2,d3,d4,H13_4,H13_9,H13_14,H13_19]
     try rfl
    ·have q1:c.ops.length=z.ops.length:=by simp only[beq_iff_eq] at d1;omega
     have q2:c.ints.length=z.ints.length:=by simp only[beq_iff_eq] at d2;omega
     have q3:c.strs.length=z.strs.length:=by simp only[beq_iff_eq] at d3;omega
     have q4:c.rels.length=z.rels.length:=by simp only[beq_iff_eq] at d4;omega
     simp only[acall,macall,f13]
     simp only[go_sem,simprocAttr,d1,d2,d3,d4,H13_4,H13_9,H13_14,H13_19]
     have hl4:=loop13_4 c z hp (by omega) (fun i=>opEq (c.ops.getD i op0) (z.ops.getD i op0)) (fun _ _=>rfl) A 100010 c.ops.length 0
     simp only[f13,sub,Option.getD_some,H13_4,H13_9,H13_14,H13_19] at hl4
     rw[post_le (hl4 _ (by simp) (by simp only[go_sem,simprocAttr])) (by omega)]
     cases hq4:allF (fun i=>opEq (c.ops.getD i op0) (z.ops.getD i op0)) 0 c.ops.length
     ·simp only[sameF,cc,d1,d2,d3,d4,hq4,BL]
      simp only[go_sem,simprocAttr,d1,d2,d3,d4,H13_4,H13_9,H13_14,H13_19]
      try rfl
     simp only[BL]
     simp only[go_sem,simprocAttr,d1,d2,d3,d4,H13_4,H13_9,H13_14,H13_19]
     have hl9:=loop13_9 c z hp (by omega) (fun i=>c.ints.getD i 0==z.ints.getD i 0) (fun _ _=>rfl) A 100010 c.ints.length 0
     simp only[f13,sub,Option.getD_some,H13_4,H13_9,H13_14,H13_19] at hl9
     rw[post_le (hl9 _ (by simp) (by simp only[go_sem,simprocAttr])) (by omega)]
     cases hq9:allF (fun i=>c.ints.getD i 0==z.ints.getD i 0) 0 c.ints.length
     ·simp only[sameF,cc,d1,d2,d3,d4,hq4,hq9,BL]
      simp only[go_sem,simprocAttr,d1,d2,d3,d4,H13_4,H13_9,H13_14,H13_19]
      try rfl
     simp only[BL]
     simp only[go_sem,simprocAttr,d1,d2,d3,d4,H13_4,H13_9,H13_14,H13_19]
     have hl14:=loop13_14 c z hp (by omega) (fun i=>(c.strs.getD i ⟨#[]⟩).toList==(z.strs.getD i ⟨#[]⟩).toList) (fun _ _=>rfl) A 100010 c.strs.length 0
     simp only[f13,sub,Option.getD_some,H13_4,H13_9,H13_14,H13_19] at hl14
     rw[post_le (hl14 _ (by simp) (by simp only[go_sem,simprocAttr])) (by omega)]
     cases hq14:allF (fun i=>(c.strs.getD i ⟨#[]⟩).toList==(z.strs.getD i ⟨#[]⟩).toList) 0 c.strs.length
     ·simp only[sameF,cc,d1,d2,d3,d4,hq4,hq9,hq14,BL]
      simp only[go_sem,simprocAttr,d1,d2,d3,d4,H13_4,H13_9,H13_14,H13_19]
      try rfl
     simp only[BL]
     simp only[go_sem,simprocAttr,d1,d2,d3,d4,H13_4,H13_9,H13_14,H13_19]
     have hl19:=loop13_19 c z hp (by omega) (fun i=>relEq (c.rels.getD i ⟨0,0,⟨#[]⟩,⟨#[]⟩⟩) (z.rels.getD i ⟨0,0,⟨#[]⟩,⟨#[]⟩⟩)) (fun _ _=>rfl) A 100010 c.rels.length 0
     simp only[f13,sub,Option.getD_some,H13_4,H13_9,H13_14,H13_19] at hl19
     rw[post_le (hl19 _ (by simp) (by simp only[go_sem,simprocAttr])) (by omega)]
     cases hq19:allF (fun i=>relEq (c.rels.getD i ⟨0,0,⟨#[]⟩,⟨#[]⟩⟩) (z.rels.getD i ⟨0,0,⟨#[]⟩,⟨#[]⟩⟩)) 0 c.rels.length
     all_goals
      simp only[sameF,cc,d1,d2,d3,d4,hq4,hq9,hq14,hq19,BL]
      simp only[go_sem,simprocAttr,d1,d2,d3,d4,H13_4,H13_9,H13_14,H13_19]
      try rfl
noncomputable def c13:=famP (α:=XCode × XCode) (fun (c,z)=>(c.ops.length≤100000∧c.ints.length≤100000∧c.strs.length≤100000∧c.rels.length≤100000)∧(z.ops.length≤100000∧z.ints.length≤100000∧z.strs.length≤100000∧z.rels.length≤100000)) (fun (c,z)=>[(cd c.ops c.ints c.strs c.rels),(cd z.ops z.ints z.strs z.rels)]) (fun (c,z)=> .bool (sameF c z))
theorem c13_eq (c z:XCode) (hp:(c.ops.length≤100000∧c.ints.length≤100000∧c.strs.length≤100000∧c.rels.length≤100000)∧(z.ops.length≤100000∧z.ints.length≤100000∧z.strs.length≤100000∧z.rels.length≤100000)):c13 [(cd c.ops c.ints c.strs c.rels),(cd z.ops z.ints z.strs z.rels)]=some (.bool (sameF c z)):=fam_eq (fun X Y hp hp' h'=>by
 obtain⟨c,z⟩:=X;obtain⟨c',z'⟩:=Y;simp only[INJ] at h'
 obtain⟨hi1,hi2,hi3,hi4,hi5,hi6,hi7,hi8⟩:=h'
 try dsimp only at hp hp' ⊢
 obtain rfl:c=c':=by cases c;cases c';simp only[XCode.mk.injEq];exact⟨hi1,hi2,hi3,hi4⟩
 obtain rfl:z=z':=by cases z;cases z';simp only[XCode.mk.injEq];exact⟨hi5,hi6,hi7,hi8⟩
 rfl) (c,z) hp
theorem snd13:Snd 13 c13:=fam_snd h13 rfl rfl fun (c,z) hp=>rc h13 (fun A=>run13 c z hp A) (fun i=>match i with | 6=>[0,1,0,7,15,0,32,0,224,480,1023] | 11=>[0,1,0,7,15,0,32,0,224,480,1023] | 16=>[0,1,0,7,15,0,32,0,224,480,1023] | 21=>[0,1,0,7,15,0,32,0,224,480,1023] | _=>[]) rfl rfl rfl (by kernel_rfl) trivial trivial
def fiveC:XCode:=⟨[⟨1,0,0,0,0⟩,⟨1,1,0,0,1⟩,⟨4,2,0,1,0⟩,⟨40,0,2,0,0⟩],[2,3],[],[]⟩
def moveC:XCode:=⟨[⟨3,1,0,0,0⟩,⟨40,0,1,0,0⟩],[],[],[]⟩
def divC:XCode:=⟨[⟨7,0,1,2,0⟩,⟨40,0,1,0,0⟩],[],[],[]⟩
def wrapC:XCode:=⟨[⟨26,0,1,0,8⟩,⟨19,2,0,0,32⟩,⟨40,0,2,0,0⟩],[],[],[]⟩
def jumpC:XCode:=⟨[⟨25,0,0,0,2⟩,⟨24,0,0,0,3⟩,⟨24,0,0,0,3⟩,⟨40,0,0,0,0⟩],[],[],[]⟩
def endC:XCode:=⟨[⟨1,2,0,0,0⟩,⟨40,0,2,0,0⟩],[5],[],[]⟩
def retC:XCode:=⟨[⟨40,0,0,0,0⟩],[],[],[]⟩
def foldedC:XCode:=⟨[⟨1,0,0,0,0⟩,⟨1,1,0,0,1⟩,⟨1,2,0,0,2⟩,⟨40,0,2,0,0⟩],[2,3,5],[],[]⟩
def wrappedC:XCode:=⟨[⟨26,0,1,0,8⟩,⟨3,2,0,0,0⟩,⟨40,0,2,0,0⟩],[],[],[]⟩
def jumpedC:XCode:=⟨[⟨25,0,0,0,3⟩,⟨24,0,0,0,3⟩,⟨24,0,0,0,3⟩,⟨40,0,0,0,0⟩],[],[],[]⟩
def xinB (c:XCode):Bool:=decide (c.ops.length≤100000)&&(decide (c.ints.length≤100000)&&(decide (c.strs.length≤100000)&&(c.rels.isEmpty&&(c.ops.all (fun o=>decide (-1000≤o.n)&&decide (o.n≤1000))&&c.ints.all fun n=>decide (-1000≤n)&&decide (n≤1000)))))
theorem xinB_ok {c:XCode} (h:xinB c=true):XIn c.ops c.ints c.strs c.rels:=by
 unfold xinB at h
 simp only[Bool.and_eq_true,decide_eq_true_eq,List.all_eq_true,List.isEmpty_iff] at h
 obtain⟨h1,h2,h3,h4,h5,h6⟩:=h
 exact⟨⟨h1,h2,h3,by rw[h4];simp⟩,(fun r hr=>by rw[h4] at hr;cases hr),(fun o ho=>by have:=h5 o ho;unfold InR;omega),(fun n hn=>by have:=h6 n hn;unfold InR;omega)⟩
theorem ck_five:checkC fiveC=true:=by kernel_rfl
theorem e22_five:c22 [.st 27 [.sl 80 gF [.st 80 [.int .i64 1,.int .i64 0,.int .i64 0,.int .i64 0,.int .i64 0],.st 80 [.int .i64 1,.int .i64 1,.int .i64 0,.int .i64 0,.int .i64 1],.st 80 [.int .i64 4,.int .i64 2,.int .i64 0,.int .i64 1,.int .i64 0],.st 80 [.int .i64 40,.int .i64 0,.int .i64 2,.int .i64 0,.int .i64 0]],.sl 2 gF [.int .i64 2,.int .i64 3],.sl 9 gF [],.sl 90 gF []]]=some (.tup [.st 27 [.sl 80 gF [.st 80 [.int .i64 1,.int .i64 2,.int .i64 0,.int .i64 0,.int .i64 0],.st 80 [.int .i64 40,.int .i64 0,.int .i64 2,.int .i64 0,.int .i64 0]],.sl 2 gF [.int .i64 5],.sl 9 gF [],.sl 90 gF []],.sl 29 gT [.st 29 [.int .i64 1,.int .i64 2],.st 29 [.int .i64 3,.int .i64 0],.st 29 [.int .i64 3,.int .i64 0],.st 29 [.int .i64 8,.int .i64 0],.st 29 [.int .i64 8,.int .i64 0]],.int .i64 0]):=by
 have h:=c22_eq fiveC 30 (endC,[⟨1,2⟩,⟨3,0⟩,⟨3,0⟩,⟨8,0⟩,⟨8,0⟩]) ⟨xinB_ok (by kernel_rfl),by decide,by rw[if_pos ck_five];kernel_rfl⟩
 rw[ck_five] at h
 exact h
theorem ck_move:checkC moveC=true:=by kernel_rfl
theorem e22_move:c22 [.st 27 [.sl 80 gF [.st 80 [.int .i64 3,.int .i64 1,.int .i64 0,.int .i64 0,.int .i64 0],.st 80 [.int .i64 40,.int .i64 0,.int .i64 1,.int .i64 0,.int .i64 0]],.sl 2 gF [],.sl 9 gF [],.sl 90 gF []]]=some (.tup [.st 27 [.sl 80 gF [.st 80 [.int .i64 40,.int .i64 0,.int .i64 0,.int .i64 0,.int .i64 0]],.sl 2 gF [],.sl 9 gF [],.sl 90 gF []],.sl 29 gT [.st 29 [.int .i64 2,.int .i64 1],.st 29 [.int .i64 3,.int .i64 0]],.int .i64 0]):=by
 have h:=c22_eq moveC 30 (retC,[⟨2,1⟩,⟨3,0⟩]) ⟨xinB_ok (by kernel_rfl),by decide,by rw[if_pos ck_move];kernel_rfl⟩
 rw[ck_move] at h
 exact h
theorem a_five_1:applyE fiveC.ops fiveC.ints fiveC.strs fiveC.rels 1 2=(some foldedC,0):=by kernel_rfl
theorem e11_five:c11 [.st 27 [.sl 80 gF [.st 80 [.int .i64 1,.int .i64 0,.int .i64 0,.int .i64 0,.int .i64 0],.st 80 [.int .i64 1,.int .i64 1,.int .i64 0,.int .i64 0,.int .i64 1],.st 80 [.int .i64 4,.int .i64 2,.int .i64 0,.int .i64 1,.int .i64 0],.st 80 [.int .i64 40,.int .i64 0,.int .i64 2,.int .i64 0,.int .i64 0]],.sl 2 gF [.int .i64 2,.int .i64 3],.sl 9 gF [],.sl 90 gF []],.st 29 [.int .i64 1,.int .i64 2]]=some (.tup [.st 27 [.sl 80 gF [.st 80 [.int .i64 1,.int .i64 0,.int .i64 0,.int .i64 0,.int .i64 0],.st 80 [.int .i64 1,.int .i64 1,.int .i64 0,.int .i64 0,.int .i64 1],.st 80 [.int .i64 1,.int .i64 2,.int .i64 0,.int .i64 0,.int .i64 2],.st 80 [.int .i64 40,.int .i64 0,.int .i64 2,.int .i64 0,.int .i64 0]],.sl 2 gF [.int .i64 2,.int .i64 3,.int .i64 5],.sl 9 gF [],.sl 90 gF []],.int .i64 0]):=by
 have h:=c11_eq fiveC.ops fiveC.ints fiveC.strs fiveC.rels 1 2 (xinB_ok (by kernel_rfl))
 rw[a_five_1] at h
 exact h
theorem a_wrap_6:applyE wrapC.ops wrapC.ints wrapC.strs wrapC.rels 6 1=(some wrappedC,0):=by kernel_rfl
theorem e11_wrap:c11 [.st 27 [.sl 80 gF [.st 80 [.int .i64 26,.int .i64 0,.int .i64 1,.int .i64 0,.int .i64 8],.st 80 [.int .i64 19,.int .i64 2,.int .i64 0,.int .i64 0,.int .i64 32],.st 80 [.int .i64 40,.int .i64 0,.int .i64 2,.int .i64 0,.int .i64 0]],.sl 2 gF [],.sl 9 gF [],.sl 90 gF []],.st 29 [.int .i64 6,.int .i64 1]]=some (.tup [.st 27 [.sl 80 gF [.st 80 [.int .i64 26,.int .i64 0,.int .i64 1,.int .i64 0,.int .i64 8],.st 80 [.int .i64 3,.int .i64 2,.int .i64 0,.int .i64 0,.int .i64 0],.st 80 [.int .i64 40,.int .i64 0,.int .i64 2,.int .i64 0,.int .i64 0]],.sl 2 gF [],.sl 9 gF [],.sl 90 gF []],.int .i64 0]):=by
 have h:=c11_eq wrapC.ops wrapC.ints wrapC.strs wrapC.rels 6 1 (xinB_ok (by kernel_rfl))
 rw[a_wrap_6] at h
 exact h
theorem a_jump_4:applyE jumpC.ops jumpC.ints jumpC.strs jumpC.rels 4 0=(some jumpedC,0):=by kernel_rfl
theorem e11_jump:c11 [.st 27 [.sl 80 gF [.st 80 [.int .i64 25,.int .i64 0,.int .i64 0,.int .i64 0,.int .i64 2],.st 80 [.int .i64 24,.int .i64 0,.int .i64 0,.int .i64 0,.int .i64 3],.st 80 [.int .i64 24,.int .i64 0,.int .i64 0,.int .i64 0,.int .i64 3],.st 80 [.int .i64 40,.int .i64 0,.int .i64 0,.int .i64 0,.int .i64 0]],.sl 2 gF [],.sl 9 gF [],.sl 90 gF []],.st 29 [.int .i64 4,.int .i64 0]]=some (.tup [.st 27 [.sl 80 gF [.st 80 [.int .i64 25,.int .i64 0,.int .i64 0,.int .i64 0,.int .i64 3],.st 80 [.int .i64 24,.int .i64 0,.int .i64 0,.int .i64 0,.int .i64 3],.st 80 [.int .i64 24,.int .i64 0,.int .i64 0,.int .i64 0,.int .i64 3],.st 80 [.int .i64 40,.int .i64 0,.int .i64 0,.int .i64 0,.int .i64 0]],.sl 2 gF [],.sl 9 gF [],.sl 90 gF []],.int .i64 0]):=by
 have h:=c11_eq jumpC.ops jumpC.ints jumpC.strs jumpC.rels 4 0 (xinB_ok (by kernel_rfl))
 rw[a_jump_4] at h
 exact h
theorem a_div_0:applyE divC.ops divC.ints divC.strs divC.rels 0 0=(none,170):=by kernel_rfl
theorem e14_div:c14 [.st 27 [.sl 80 gF [.st 80 [.int .i64 7,.int .i64 0,.int .i64 1,.int .i64 2,.int .i64 0],.st 80 [.int .i64 40,.int .i64 0,.int .i64 1,.int .i64 0,.int .i64 0]],.sl 2 gF [],.sl 9 gF [],.sl 90 gF []],.st 29 [.int .i64 0,.int .i64 0]]=some (.int .i64 170):=by
 have h:=c14_eq divC.ops divC.ints divC.strs divC.rels 0 0 (xinB_ok (by kernel_rfl))
 rw[a_div_0] at h
 exact h
theorem st_div:stepsE divC.ops divC.ints divC.strs divC.rels=[]:=by kernel_rfl
theorem ck_div:checkF divC.ops divC.ints divC.strs divC.rels=true:=by kernel_rfl
theorem e15_div:c15 [.st 27 [.sl 80 gF [.st 80 [.int .i64 7,.int .i64 0,.int .i64 1,.int .i64 2,.int .i64 0],.st 80 [.int .i64 40,.int .i64 0,.int .i64 1,.int .i64 0,.int .i64 0]],.sl 2 gF [],.sl 9 gF [],.sl 90 gF []]]=some (.tup [.sl 29 gT [],.int .i64 0]):=by
 have h:=c15_eq divC.ops divC.ints divC.strs divC.rels (xinB_ok (by kernel_rfl))
 rw[ck_div,st_div] at h
 exact h
theorem s_end:sameF endC endC=true:=by kernel_rfl
theorem e13_end:c13 [.st 27 [.sl 80 gF [.st 80 [.int .i64 1,.int .i64 2,.int .i64 0,.int .i64 0,.int .i64 0],.st 80 [.int .i64 40,.int .i64 0,.int .i64 2,.int .i64 0,.int .i64 0]],.sl 2 gF [.int .i64 5],.sl 9 gF [],.sl 90 gF []],.st 27 [.sl 80 gF [.st 80 [.int .i64 1,.int .i64 2,.int .i64 0,.int .i64 0,.int .i64 0],.st 80 [.int .i64 40,.int .i64 0,.int .i64 2,.int .i64 0,.int .i64 0]],.sl 2 gF [.int .i64 5],.sl 9 gF [],.sl 90 gF []]]=some (.bool true):=by
 have h:=c13_eq endC endC (by decide)
 rw[s_end] at h
 exact h
theorem s_ret:sameF retC retC=true:=by kernel_rfl
theorem e13_ret:c13 [.st 27 [.sl 80 gF [.st 80 [.int .i64 40,.int .i64 0,.int .i64 0,.int .i64 0,.int .i64 0]],.sl 2 gF [],.sl 9 gF [],.sl 90 gF []],.st 27 [.sl 80 gF [.st 80 [.int .i64 40,.int .i64 0,.int .i64 0,.int .i64 0,.int .i64 0]],.sl 2 gF [],.sl 9 gF [],.sl 90 gF []]]=some (.bool true):=by
 have h:=c13_eq retC retC (by decide)
 rw[s_ret] at h
 exact h
theorem h32:Tryz.prog.funcs[32]? = some f32:=by kernel_rfl
theorem run32 (o d a b n:Int) (A:Nat→Prop):acall (env 17 1055 D0 [] [] A) (fun _=>{ tm:=[],ob:=[] }) (5) f32 [.int .i64 o,.int .i64 d,.int .i64 a,.int .i64 b,.int .i64 n]=some (.st 80 [.int .i64 o,.int .i64 d,.int .i64 a,.int .i64 b,.int .i64 n]):=by
 simp only[acall,macall,f32]
 simp only[go_sem,simprocAttr]
 try rfl
noncomputable def c32:=famP (α:=Int × Int × Int × Int × Int) (fun _=>True) (fun (o,d,a,b,n)=>[.int .i64 o,.int .i64 d,.int .i64 a,.int .i64 b,.int .i64 n]) (fun (o,d,a,b,n)=> .st 80 [.int .i64 o,.int .i64 d,.int .i64 a,.int .i64 b,.int .i64 n])
theorem c32_eq (o d a b n:Int):c32 [.int .i64 o,.int .i64 d,.int .i64 a,.int .i64 b,.int .i64 n]=some (.st 80 [.int .i64 o,.int .i64 d,.int .i64 a,.int .i64 b,.int .i64 n]):=fam_eq (fun X Y hp hp' h'=>by
 obtain⟨o,d,a,b,n⟩:=X;obtain⟨o',d',a',b',n'⟩:=Y;simp only[INJ] at h'
 obtain⟨rfl,rfl,rfl,rfl,rfl⟩:=h'
 rfl) (o,d,a,b,n) trivial
theorem snd32:Snd 32 c32:=fam_snd h32 rfl rfl fun (o,d,a,b,n) _=>rc h32 (fun A=>run32 o d a b n A) (fun _=>[]) rfl rfl rfl (by kernel_rfl) trivial trivial
theorem h31:Tryz.prog.funcs[31]? = some f31:=by kernel_rfl
theorem run31  :∃ r,wk r (.st 27 [.sl 80 gT [.st 80 [.int .i64 1,.int .i64 0,.int .i64 0,.int .i64 0,.int .i64 0],.st 80 [.int .i64 1,.int .i64 1,.int .i64 0,.int .i64 0,.int .i64 1],.st 80 [.int .i64 4,.int .i64 2,.int .i64 0,.int .i64 1,.int .i64 0],.st 80 [.int .i64 40,.int .i64 0,.int .i64 2,.int .i64 0,.int .i64 0]],.sl 2 gT [.int .i64 2,.int .i64 3],.sl 9 gT [],.sl 90 gT []])∧∀ A,acall (env 8 1 D0 [(32,c32)] [] A) (fun _=>{ tm:=[],ob:=[] }) (5) f31 []=some r:=by
 apply wkI
 ·intro A
  simp only[acall,macall,f31]
  simp only[go_sem,simprocAttr,c32_eq]
  try rfl
 ·simp[WK,eOut,eCode]
noncomputable def c31:=famP (α:=Unit) (fun _=>True) (fun _=>[]) (fun _=> .st 27 [.sl 80 gT [.st 80 [.int .i64 1,.int .i64 0,.int .i64 0,.int .i64 0,.int .i64 0],.st 80 [.int .i64 1,.int .i64 1,.int .i64 0,.int .i64 0,.int .i64 1],.st 80 [.int .i64 4,.int .i64 2,.int .i64 0,.int .i64 1,.int .i64 0],.st 80 [.int .i64 40,.int .i64 0,.int .i64 2,.int .i64 0,.int .i64 0]],.sl 2 gT [.int .i64 2,.int .i64 3],.sl 9 gT [],.sl 90 gT []])
theorem c31_eq :c31 []=some (.st 27 [.sl 80 gT [.st 80 [.int .i64 1,.int .i64 0,.int .i64 0,.int .i64 0,.int .i64 0],.st 80 [.int .i64 1,.int .i64 1,.int .i64 0,.int .i64 0,.int .i64 1],.st 80 [.int .i64 4,.int .i64 2,.int .i64 0,.int .i64 1,.int .i64 0],.st 80 [.int .i64 40,.int .i64 0,.int .i64 2,.int .i64 0,.int .i64 0]],.sl 2 gT [.int .i64 2,.int .i64 3],.sl 9 gT [],.sl 90 gT []]):=fam_eq (fun _ _ _ _ _=>rfl) () trivial
theorem snd31:Snd 31 c31:=fam_snd h31 rfl rfl fun _ _=>let ⟨_,hw,hr⟩:=run31 ;(rc h31 hr (fun _=>[]) rfl rfl rfl (by kernel_rfl) ⟨snd32,trivial⟩ trivial).weak hw
def Z8 (i:Nat):List Nat:=if i=4 then [35] else if i=8 then [55] else if i=10 then [67] else []
theorem h8:Tryz.prog.funcs[8]? = some f8:=by kernel_rfl
def D8:Nat→Option (List DH × List Nat):=fun i=>match i with | 15=>some ([⟨[],[],[133]⟩,⟨[],[],[133]⟩,⟨[],[],[133]⟩,⟨[],[],[133]⟩,⟨[],[],[133]⟩,⟨[],[],[133]⟩,⟨[],[],[133]⟩,⟨[133],[],[133]⟩,⟨[],[],[133]⟩,⟨[],[133],[]⟩,⟨[],[],[]⟩,⟨[],[],[]⟩,⟨[],[],[]⟩,⟨[],[],[]⟩,⟨[],[],[]⟩,⟨[],[],[]⟩,⟨[],[],[]⟩,⟨[],[],[]⟩,⟨[],[],[]⟩,⟨[],[],[]⟩,⟨[],[],[]⟩,⟨[],[],[]⟩,⟨[],[],[]⟩,⟨[],[],[]⟩,⟨[],[],[]⟩,⟨[],[],[]⟩,⟨[],[],[]⟩,⟨[],[],[]⟩,⟨[],[],[]⟩,⟨[],[],[]⟩,⟨[],[],[]⟩,⟨[],[],[]⟩,⟨[],[],[]⟩,⟨[],[],[]⟩,⟨[],[],[]⟩,⟨[],[],[]⟩],[133]) | _=>none
theorem D8_15:D8 15=some ([⟨[],[],[133]⟩,⟨[],[],[133]⟩,⟨[],[],[133]⟩,⟨[],[],[133]⟩,⟨[],[],[133]⟩,⟨[],[],[133]⟩,⟨[],[],[133]⟩,⟨[133],[],[133]⟩,⟨[],[],[133]⟩,⟨[],[133],[]⟩,⟨[],[],[]⟩,⟨[],[],[]⟩,⟨[],[],[]⟩,⟨[],[],[]⟩,⟨[],[],[]⟩,⟨[],[],[]⟩,⟨[],[],[]⟩,⟨[],[],[]⟩,⟨[],[],[]⟩,⟨[],[],[]⟩,⟨[],[],[]⟩,⟨[],[],[]⟩,⟨[],[],[]⟩,⟨[],[],[]⟩,⟨[],[],[]⟩,⟨[],[],[]⟩,⟨[],[],[]⟩,⟨[],[],[]⟩,⟨[],[],[]⟩,⟨[],[],[]⟩,⟨[],[],[]⟩,⟨[],[],[]⟩,⟨[],[],[]⟩,⟨[],[],[]⟩,⟨[],[],[]⟩,⟨[],[],[]⟩],[133]):=rfl
theorem D8_14:D8 14=none:=rfl
theorem run8  (A:Nat→Prop):acall (envX (Z8) lentF 159 81129638414606681695789007240959 D8 [(31,c31),(32,c32),(22,c22),(11,c11),(15,c15),(13,c13),(14,c14)] [] A) (fun _=>{ tm:=[],ob:=[] }) (5) f8 []=some (.bool true):=by
 have z4:Z8 4=[35]:=rfl
 have z8:Z8 8=[55]:=rfl
 have z10:Z8 10=[67]:=rfl
 have zz:∀ i,i ≠ 4→i ≠ 8→i ≠ 10→Z8 i=[]:=fun i a b c=>by simp[Z8,a,b,c]
 simp only[acall,macall,f8]
 simp only[go_sem,simprocAttr,D8_14,D8_15,c31_eq,c32_eq,z4,z8,z10,zz,ne_eq,not_false_eq_true,St.freeze1,frzO,frzM,frzB,frzVL,frzV,allLeaf,e22_five,e22_move,e13_end,e13_ret,e15_div,e14_div,e11_five,e11_wrap,e11_jump]
 try rfl
noncomputable def c8:=famP (α:=Unit) (fun _=>True) (fun _=>[]) (fun _=> .bool true)
theorem c8_eq :c8 []=some (.bool true):=fam_eq (fun _ _ _ _ _=>rfl) () trivial
theorem snd8:Snd 8 c8:=fam_snd h8 rfl rfl fun _ _=>rX h8 (fun A=>run8  A) (fun i=>match i with | 14=>[0,1,3,7,15,31,63,127,255,31,1023,2047,4095] | 15=>[0,1,3,3,15,31,63,127,127,383,895,2047,4095,8191,16383,32767,65535,131071,262143,524287,1048575,2097151,4194303,8388607,16777215,33554431,67108863,134217727,268435455,536870911,1073741823,1073741823,4294967295,8589934591,17179869183,34359738367] | _=>[]) rfl rfl rfl (by kernel_rfl) ⟨snd31,snd32,snd22,snd11,snd15,snd13,snd14,trivial⟩ trivial
def eFactR (f:XFact):AV:= .st 71 [.int .i64 f.sort,.int .i64 f.n]
def eStateR (b:Bool) (f:List XFact):AV:= .st 74 [.bool b,.ar 72 (f.map eFactR)]
theorem mFR_inj (a b:List XFact):(a.map eFactR=b.map eFactR)=(a=b):=by
 apply propext
 constructor
 ·intro h
  refine List.map_inj_right (fun x y hxy=>?_) |>.1 h
  cases x;cases y
  simp only[eFactR,AV.st.injEq,List.cons.injEq,AV.int.injEq,and_true,true_and] at hxy
  obtain⟨rfl,rfl⟩:=hxy
  rfl
 ·rintro rfl;rfl
theorem eStateR_inj (b b':Bool) (f f':List XFact):(eStateR b f=eStateR b' f')=(b=b'∧f=f'):=by
 simp only[eStateR,AV.st.injEq,List.cons.injEq,AV.bool.injEq,AV.ar.injEq,mFR_inj,and_true,true_and]
theorem h100:Tryz.prog.funcs[100]? = some f100:=by kernel_rfl
def H100:Nat→Hint:=fun i=>if i=2 then ({ tm:=[1,2,5],ob:=[2],fin:=some ([1,2,4],[2]) }:Hint) else { tm:=[],ob:=[] }
theorem H100_2:H100 2=({ tm:=[1,2,5],ob:=[2],fin:=some ([1,2,4],[2]) }:Hint):=by simp[H100]
theorem loop100_2 (q:Int) (hrl:rels.length≤100000) (A:Nat→Prop) (k:Nat):∀ (m i:Nat) (σ:St),i+m=rels.length→
 σ.keep (H100 2)=⟨[(1,.int .i64 q),(2,.ptr 2 (.box 27) []),(5,.int .i64 i)],[(2,⟨.box 27,false,[(cd ops ints strs rels)]⟩)]⟩→
 post (H100 2) (aloop ty (arun (env 21 1049655 D0 [] [] A) H100 k (sub (f100.body.getD .skip) [1,0,1,0,0])) (H100 2) (m+1) σ)=some (if ((rels.drop i).any fun r=>r.at_==q)=true then (.ret,⟨[(1,.int .i64 q),(2,.ptr 2 (.box 27) []),(4,.bool true)],[(2,⟨.box 27,false,[(cd ops ints strs rels)]⟩)]⟩) else (.exit 0,⟨[(1,.int .i64 q),(2,.ptr 2 (.box 27) [])],[(2,⟨.box 27,false,[(cd ops ints strs rels)]⟩)]⟩)):=by
 simp only[f100,sub,Option.getD_some,H100_2]
 intro m
 induction m with
 | zero=>
   intro i σ hi hσ
   have h1:¬ ((i:Int) < ((rels.length:Nat):Int)):=by omega
   have h8:rels.drop i=[]:=List.drop_of_length_le (by omega)
   rw[aloop,hσ]
   simp only[go_sem,simprocAttr,h1]
   simp[post,St.fin,keepL,aget,h8]
 | succ m ih=>
   intro i σ hi hσ
   have h1:(i:Int) < ((rels.length:Nat):Int):=by omega
   have hlt:i < rels.length:=by omega
   have hni:(0:Int)≤(i:Int):=Int.natCast_nonneg i
   have hw:IntKind.i64.wrap ((i:Int)+1)=((i+1:Nat):Int):=wrap_nat (by omega)
   have hget:=getD_get (d:=(⟨0,0,⟨#[]⟩,⟨#[]⟩⟩:XRel)) hlt
   have hd:rels.drop i=rels[i]'hlt::rels.drop (i+1):=List.drop_eq_getElem_cons hlt
   rw[show rels.getD i ⟨0,0,⟨#[]⟩,⟨#[]⟩⟩=rels[i]'hlt by simp[List.getD,List.getElem?_eq_getElem hlt]] at hget
   rw[aloop,hσ]
   rw[hd,List.any_cons]
   generalize rels[i]=x at *
   cases hv:(x.at_==q)
   all_goals
    simp only[go_sem,simprocAttr,h1,hni,hw,hget,hv]
    try simp only[BL]
    first
    | (simp[post,St.fin,keepL,aget];done)
    | exact ih (i+1) _ (by omega) (by simp only[go_sem,simprocAttr])
theorem run100 (q:Int) (hp:rels.length≤100000) (A:Nat→Prop):acall (env 21 1049655 D0 [] [] A) (H100) (100010) f100 [(cd ops ints strs rels),.int .i64 q]=some (.bool (rels.any fun r=>r.at_==q)):=by
 have hl:=loop100_2 ops ints strs rels q hp A 100010 rels.length 0
 simp only[f100,sub,Option.getD_some,H100_2,List.drop_zero] at hl
 simp only[acall,macall,f100]
 simp only[go_sem,simprocAttr,H100_2]
 rw[post_le (hl _ (by simp) (by simp only[go_sem,simprocAttr])) (by omega)]
 cases h:(rels.any fun r=>r.at_==q)
 all_goals
  simp only[BL]
  simp only[go_sem,simprocAttr,H100_2]
  try rfl
noncomputable def c100:=famP (α:=(List XOp) × (List Int) × (List ByteArray) × (List XRel) × Int) (fun (ops,ints,strs,rels,q)=>rels.length≤100000) (fun (ops,ints,strs,rels,q)=>[(cd ops ints strs rels),.int .i64 q]) (fun (ops,ints,strs,rels,q)=> .bool (rels.any fun r=>r.at_==q))
theorem c100_eq (q:Int) (hp:rels.length≤100000):c100 [(cd ops ints strs rels),.int .i64 q]=some (.bool (rels.any fun r=>r.at_==q)):=fam_eq (fun X Y hp hp' h'=>by
 obtain⟨ops,ints,strs,rels,q⟩:=X;obtain⟨ops',ints',strs',rels',q'⟩:=Y;simp only[eStateR_inj,INJ] at h'
 obtain⟨rfl,rfl,rfl,rfl,rfl⟩:=h'
 rfl) (ops,ints,strs,rels,q) hp
theorem snd100:Snd 100 c100:=fam_snd h100 rfl rfl fun (ops,ints,strs,rels,q) hp=>rc h100 (fun A=>run100 ops ints strs rels q hp A) (fun _=>[]) rfl rfl rfl (by kernel_rfl) trivial trivial
def resF (ops:List XOp) (ints:List Int) (rels:List XRel) (f:List XFact) (q:Int):XFact:=
 let o:=ops.getD q.toNat op0
 let a:=f.getD o.a.toNat ⟨0,0⟩
 let r:=rels.any fun r=>r.at_==q
 if (o.op==1)=true then (if r=true then ⟨0,0⟩ else ⟨1,ints.getD o.n.toNat 0⟩)
 else if (o.op==3)=true then ⟨(movedF a.sort a.n o.d o.a).1,(movedF a.sort a.n o.d o.a).2⟩
 else if (o.op==19)=true then ⟨3,o.n⟩ else if (o.op==27)=true then ⟨3,o.n⟩
 else if (o.op==26)=true then (if r=true then ⟨0,0⟩ else ⟨3,o.n⟩)
 else if (o.op==20)=true then ⟨3,8⟩ else if (o.op==21)=true then ⟨3,8⟩ else if (o.op==22)=true then ⟨3,8⟩
 else if (o.op==23)=true then ⟨3,-8⟩ else ⟨0,0⟩
theorem behind_r (ops:List XOp) (ints:List Int) (rels:List XRel) (f:List XFact) (q:Int) :
 behindF ops ints rels f q=if (formF (ops.getD q.toNat op0).op).d=true then (f.map (clrF (ops.getD q.toNat op0).d)).set (ops.getD q.toNat op0).d.toNat (resF ops ints rels f q) else f:=by
 unfold behindF resF
 dsimp only
 generalize ops.getD q.toNat op0=o
 generalize f.getD o.a.toNat ⟨0,0⟩=a
 generalize (rels.any fun r=>r.at_==q)=r
 generalize f.map (clrF o.d)=f3
 have ap:∀ (c:Prop) [Decidable c] (x y:XFact),f3.set o.d.toNat (if c then x else y)=if c then f3.set o.d.toNat x else f3.set o.d.toNat y:=fun c _ x y=>by split <;> rfl
 simp only[List.set_set,ap]
def movR (s n d a:Int):XFact:=if (s==1)=true then ⟨s,n⟩ else if (s==2)=true then (if (n==d)=true then ⟨0,0⟩ else ⟨s,n⟩) else if (a==d)=true then ⟨s,n⟩ else ⟨2,a⟩
theorem mov_r (s n d a:Int):(⟨(movedF s n d a).1,(movedF s n d a).2⟩:XFact)=movR s n d a:=by
 unfold movedF movR
 simp only[beq_iff_eq]
 by_cases h1:s=1
 ·simp[h1]
 ·by_cases h2:s=2
  ·by_cases h3:n=d <;> simp[h2,h3]
  ·by_cases h3:a=d <;> simp[h1,h2,h3]
theorem h80:Tryz.prog.funcs[80]? = some f80:=by kernel_rfl
theorem run80 (q:Int) (b:Bool) (f:List XFact) (hp:(ops.length≤100000∧ints.length≤100000∧strs.length≤100000∧rels.length≤100000)∧0≤q∧q.toNat < ops.length∧f.length=8∧(let o:=ops.getD q.toNat op0;(0≤o.a∧o.a.toNat < 8)∧(0≤o.d∧o.d.toNat < 8)∧((o.op==1)=true→0≤o.n∧o.n.toNat < ints.length))) (A:Nat→Prop):acall (env 83 624570455466158179058159 D0 [(100,c100)] [] A) (fun _=>{ tm:=[],ob:=[] }) (9) f80 [(cd ops ints strs rels),.int .i64 q,eStateR b f]=some (eFactR (resF ops ints rels f q)):=by
 obtain⟨hl,h0,hlt,hf8,⟨ha0,ha1⟩,⟨hd0,hd1⟩,hn⟩:=hp
 have hget:=getD_get (d:=op0) hlt
 have e100:=c100_eq ops ints strs rels q hl.2.2.2
 simp only[resF]
 generalize ops.getD q.toNat op0=x at *
 have ha1c:x.a < (8:Int):=by omega
 have hga:=getD_get (d:=(⟨0,0⟩:XFact)) (show x.a.toNat < f.length by omega)
 have hga8:x.a.toNat < 8:=ha1
 generalize f.getD x.a.toNat ⟨0,0⟩=a at *
 rw[mov_r]
 generalize (rels.any fun r=>r.at_==q)=r at *
 cases h1:(x.op==1)
 ·cases h3:(x.op==3)
  ·cases h19:(x.op==19)
   ·cases h27:(x.op==27)
    ·cases h26:(x.op==26)
     ·cases h20:(x.op==20)
      ·cases h21:(x.op==21)
       ·cases h22:(x.op==22)
        ·cases h23:(x.op==23)
         ·simp only[eFactR,h1,h3,h19,h27,h26,h20,h21,h22,h23,BL]
          simp only[acall,macall,f80]
          simp only[go_sem,simprocAttr,h1,h3,h19,h27,h26,h20,h21,h22,h23,e100,hget,h0,eStateR,eFactR]
          try rfl
         ·simp only[eFactR,h1,h3,h19,h27,h26,h20,h21,h22,h23,BL]
          simp only[acall,macall,f80]
          simp only[go_sem,simprocAttr,h1,h3,h19,h27,h26,h20,h21,h22,h23,e100,hget,h0,eStateR,eFactR]
          try rfl
        ·simp only[eFactR,h1,h3,h19,h27,h26,h20,h21,h22,BL]
         simp only[acall,macall,f80]
         simp only[go_sem,simprocAttr,h1,h3,h19,h27,h26,h20,h21,h22,e100,hget,h0,eStateR,eFactR]
         try rfl
       ·simp only[eFactR,h1,h3,h19,h27,h26,h20,h21,BL]
        simp only[acall,macall,f80]
        simp only[go_sem,simprocAttr,h1,h3,h19,h27,h26,h20,h21,e100,hget,h0,eStateR,eFactR]
        try rfl
      ·simp only[eFactR,h1,h3,h19,h27,h26,h20,BL]
       simp only[acall,macall,f80]
       simp only[go_sem,simprocAttr,h1,h3,h19,h27,h26,h20,e100,hget,h0,eStateR,eFactR]
       try rfl
     ·cases r
      ·simp only[eFactR,h1,h3,h19,h27,h26,BL]
       simp only[acall,macall,f80]
       simp only[go_sem,simprocAttr,h1,h3,h19,h27,h26,e100,hget,h0,eStateR,eFactR]
       try rfl
      ·simp only[eFactR,h1,h3,h19,h27,h26,BL]
       simp only[acall,macall,f80]
       simp only[go_sem,simprocAttr,h1,h3,h19,h27,h26,e100,hget,h0,eStateR,eFactR]
       try rfl
    ·simp only[eFactR,h1,h3,h19,h27,BL]
     simp only[acall,macall,f80]
     simp only[go_sem,simprocAttr,h1,h3,h19,h27,e100,hget,h0,eStateR,eFactR]
     try rfl
   ·simp only[eFactR,h1,h3,h19,BL]
    simp only[acall,macall,f80]
    simp only[go_sem,simprocAttr,h1,h3,h19,e100,hget,h0,eStateR,eFactR]
    try rfl
  ·cases k1:(a.sort==1)
   ·cases k2:(a.sort==2)
    ·cases k4:(x.a==x.d)
     ·simp only[movR,eFactR,h1,h3,k1,k2,k4,BL]
      simp only[acall,macall,f80]
      simp only[go_sem,simprocAttr,h1,h3,k1,k2,k4,e100,hget,h0,eStateR,eFactR,ha0,ha1c,hga,hf8,hga8]
      try rfl
     ·simp only[movR,eFactR,h1,h3,k1,k2,k4,BL]
      simp only[acall,macall,f80]
      simp only[go_sem,simprocAttr,h1,h3,k1,k2,k4,e100,hget,h0,eStateR,eFactR,ha0,ha1c,hga,hf8,hga8]
      try rfl
    ·cases k3:(a.n==x.d)
     ·simp only[movR,eFactR,h1,h3,k1,k2,k3,BL]
      simp only[acall,macall,f80]
      simp only[go_sem,simprocAttr,h1,h3,k1,k2,k3,e100,hget,h0,eStateR,eFactR,ha0,ha1c,hga,hf8,hga8]
      try rfl
     ·simp only[movR,eFactR,h1,h3,k1,k2,k3,BL]
      simp only[acall,macall,f80]
      simp only[go_sem,simprocAttr,h1,h3,k1,k2,k3,e100,hget,h0,eStateR,eFactR,ha0,ha1c,hga,hf8,hga8]
      try rfl
   ·simp only[movR,eFactR,h1,h3,k1,BL]
    simp only[acall,macall,f80]
    simp only[go_sem,simprocAttr,h1,h3,k1,e100,hget,h0,eStateR,eFactR,ha0,ha1c,hga,hf8,hga8]
    try rfl
 ·cases r
  ·obtain⟨hn0,hn1⟩:=hn h1
   have hgn:=getD_get (d:=(0:Int)) hn1
   simp only[eFactR,h1,BL]
   simp only[acall,macall,f80]
   simp only[go_sem,simprocAttr,h1,e100,hget,h0,eStateR,eFactR,hn0,hgn]
   try rfl
  ·simp only[eFactR,h1,BL]
   simp only[acall,macall,f80]
   simp only[go_sem,simprocAttr,h1,e100,hget,h0,eStateR,eFactR]
   try rfl
noncomputable def c80:=famP (α:=(List XOp) × (List Int) × (List ByteArray) × (List XRel) × Int × Bool × (List XFact)) (fun (ops,ints,strs,rels,q,b,f)=>(ops.length≤100000∧ints.length≤100000∧strs.length≤100000∧rels.length≤100000)∧0≤q∧q.toNat < ops.length∧f.length=8∧(let o:=ops.getD q.toNat op0;(0≤o.a∧o.a.toNat < 8)∧(0≤o.d∧o.d.toNat < 8)∧((o.op==1)=true→0≤o.n∧o.n.toNat < ints.length))) (fun (ops,ints,strs,rels,q,b,f)=>[(cd ops ints strs rels),.int .i64 q,eStateR b f]) (fun (ops,ints,strs,rels,q,b,f)=>eFactR (resF ops ints rels f q))
theorem c80_eq (q:Int) (b:Bool) (f:List XFact) (hp:(ops.length≤100000∧ints.length≤100000∧strs.length≤100000∧rels.length≤100000)∧0≤q∧q.toNat < ops.length∧f.length=8∧(let o:=ops.getD q.toNat op0;(0≤o.a∧o.a.toNat < 8)∧(0≤o.d∧o.d.toNat < 8)∧((o.op==1)=true→0≤o.n∧o.n.toNat < ints.length))):c80 [(cd ops ints strs rels),.int .i64 q,eStateR b f]=some (eFactR (resF ops ints rels f q)):=fam_eq (fun X Y hp hp' h'=>by
 obtain⟨ops,ints,strs,rels,q,b,f⟩:=X;obtain⟨ops',ints',strs',rels',q',b',f'⟩:=Y;simp only[eStateR_inj,INJ] at h'
 obtain⟨rfl,rfl,rfl,rfl,rfl,rfl,rfl⟩:=h'
 rfl) (ops,ints,strs,rels,q,b,f) hp
theorem snd80:Snd 80 c80:=fam_snd h80 rfl rfl fun (ops,ints,strs,rels,q,b,f) hp=>rc h80 (fun A=>run80 ops ints strs rels q b f hp A) (fun _=>[]) rfl rfl rfl (by kernel_rfl) ⟨snd100,trivial⟩ trivial
theorem h49:Tryz.prog.funcs[49]? = some f49:=by kernel_rfl
def H49:Nat→Hint:=fun i=>if i=6 then ({ tm:=[5,6,7,9,10],ob:=[5,6,9],fin:=some ([5,6,7,9],[5,6,9]) }:Hint) else { tm:=[],ob:=[] }
theorem H49_6:H49 6=({ tm:=[5,6,7,9,10],ob:=[5,6,9],fin:=some ([5,6,7,9],[5,6,9]) }:Hint):=by simp[H49]
theorem loop49_6 (b:Bool) (d:Int) (f:List XFact) (hf:f.length=8) (o6 o9:Abs.Obj) (A:Nat→Prop) (k:Nat):∀ (m i:Nat) (σ:St),i+m=8→
 σ.keep (H49 6)=⟨[(5,.ptr 5 (.box 74) []),(6,.ptr 6 (.box 74) []),(7,.int .i64 d),(9,.ptr 9 (.box 71) []),(10,.int .i64 i)],[(5,⟨.box 74,true,[eStateR b (midF d f (i))]⟩),(6,o6),(9,o9)]⟩→
 post (H49 6) (aloop ty (arun (env 55 35184642623471 D0 [(39,c39),(80,c80)] [] A) H49 k (sub (f49.body.getD .skip) [1,1,1,1,0,1,0,0])) (H49 6) (m+1) σ)=some (.exit 0,⟨[(5,.ptr 5 (.box 74) []),(6,.ptr 6 (.box 74) []),(7,.int .i64 d),(9,.ptr 9 (.box 71) [])],[(5,⟨.box 74,true,[eStateR b (midF d f (8))]⟩),(6,o6),(9,o9)]⟩):=by
 simp only[f49,sub,Option.getD_some,H49_6]
 intro m
 induction m with
 | zero=>
   intro i σ hi hσ
   have h1:¬ ((i:Int) < 8):=by omega
   have h8:midF d f i=midF d f 8:=by rw[show i=8 by omega]
   rw[aloop,hσ]
   simp only[go_sem,simprocAttr,h1]
   simp[post,St.fin,keepL,aget,h8]
 | succ m ih=>
   intro i σ hi hσ
   have h1:(i:Int) < 8:=by omega
   have hlt:i < f.length:=by omega
   have hni:(0:Int)≤(i:Int):=Int.natCast_nonneg i
   have hw:IntKind.i64.wrap ((i:Int)+1)=((i+1:Nat):Int):=wrap_nat (by omega)
   have hget:=midF_get d f i hlt
   have hst:=midF_step d f i hlt
   have hsm:=midF_same d f i hlt
   have hset:=set_map eFactR (midF d f i) i ⟨0,0⟩
   rw[aloop,hσ]
   generalize f[i]=x at *
   simp only[clrF] at hst hsm
   simp only[eFactR] at hset
   cases g1:(x.sort==2) <;> cases g2:(x.n==d)
   all_goals
    rw[g1,g2] at hst hsm
    simp only[forall_const,BL] at hst hsm
    simp only[go_sem,simprocAttr,c39_eq,c80_eq,h1,hni,hget,hw,g1,g2,eStateR,eFactR,hset]
    exact ih (i+1) _ (by omega) (by simp only[go_sem,simprocAttr,hst,← hsm,eStateR])
theorem run49 (q:Int) (b:Bool) (f:List XFact) (hp:(ops.length≤100000∧ints.length≤100000∧strs.length≤100000∧rels.length≤100000)∧0≤q∧q.toNat < ops.length∧f.length=8∧(let o:=ops.getD q.toNat op0;(0≤o.a∧o.a.toNat < 8)∧(0≤o.d∧o.d.toNat < 8)∧((o.op==1)=true→0≤o.n∧o.n.toNat < ints.length))) (A:Nat→Prop):acall (env 55 35184642623471 D0 [(39,c39),(80,c80)] [] A) (H49) (10) f49 [(cd ops ints strs rels),.int .i64 q,eStateR b f]=some (eStateR b (behindF ops ints rels f q)):=by
 obtain⟨hl,h0,hlt,hf8,ha,⟨hd0,hd1⟩,hn⟩:=id hp
 have hget:=getD_get (d:=op0) hlt
 have e80:=c80_eq ops ints strs rels q b f hp
 simp only[eStateR,eFactR] at e80
 rw[behind_r]
 generalize resF ops ints rels f q=res at *
 clear hp ha hn
 generalize ops.getD q.toNat op0=x at *
 have e39:=c39_eq x.op x.d x.a x.b x.n
 have hd1c:x.d < (8:Int):=by omega
 cases hd:(formF x.op).d
 ·rw[hd] at e39
  simp only[BL] at e39 ⊢
  simp only[acall,macall,f49]
  simp only[go_sem,simprocAttr,e39,e80,hget,h0,hd,H49_6,eStateR]
  try rfl
 rw[hd] at e39
 simp only[BL] at e39 ⊢
 have hme:=midF_end x.d f 8 (by omega)
 have hm0:midF x.d f 0=f:=rfl
 have hgd:(f.map (clrF x.d))[x.d.toNat]? = some ((f.map (clrF x.d)).getD x.d.toNat ⟨0,0⟩):=getD_get (by simp;omega)
 have hset:=set_map eFactR (f.map (clrF x.d)) x.d.toNat res
 simp only[eFactR] at hset
 simp only[acall,macall,f49]
 simp only[go_sem,simprocAttr,e39,e80,hget,h0,hd,H49_6,eStateR,eFactR,hf8]
 have hl:=loop49_6 b x.d f hf8 ⟨.box 74,true,[.st 74 [.bool false,.ar 72 [.st 71 [.int .i64 0,.int .i64 0],.st 71 [.int .i64 0,.int .i64 0],.st 71 [.int .i64 0,.int .i64 0],.st 71 [.int .i64 0,.int .i64 0],.st 71 [.int .i64 0,.int .i64 0],.st 71 [.int .i64 0,.int .i64 0],.st 71 [.int .i64 0,.int .i64 0],.st 71 [.int .i64 0,.int .i64 0]]]]⟩ ⟨.box 71,true,[.st 71 [.int .i64 res.sort,.int .i64 res.n]]⟩ A 10 8 0
 simp only[f49,sub,Option.getD_some,H49_6] at hl
 rw[post_le (hl _ (by simp) (by simp only[go_sem,simprocAttr,hm0,eStateR,eFactR])) (by omega)]
 rw[hme]
 simp only[go_sem,simprocAttr,e39,e80,hget,h0,hd,H49_6,eStateR,eFactR,hf8,hd0,hd1c,hd1,hgd,hset]
 try rfl
noncomputable def c49:=famP (α:=(List XOp) × (List Int) × (List ByteArray) × (List XRel) × Int × Bool × (List XFact)) (fun (ops,ints,strs,rels,q,b,f)=>(ops.length≤100000∧ints.length≤100000∧strs.length≤100000∧rels.length≤100000)∧0≤q∧q.toNat < ops.length∧f.length=8∧(let o:=ops.getD q.toNat op0;(0≤o.a∧o.a.toNat < 8)∧(0≤o.d∧o.d.toNat < 8)∧((o.op==1)=true→0≤o.n∧o.n.toNat < ints.length))) (fun (ops,ints,strs,rels,q,b,f)=>[(cd ops ints strs rels),.int .i64 q,eStateR b f]) (fun (ops,ints,strs,rels,q,b,f)=>eStateR b (behindF ops ints rels f q))
theorem c49_eq (q:Int) (b:Bool) (f:List XFact) (hp:(ops.length≤100000∧ints.length≤100000∧strs.length≤100000∧rels.length≤100000)∧0≤q∧q.toNat < ops.length∧f.length=8∧(let o:=ops.getD q.toNat op0;(0≤o.a∧o.a.toNat < 8)∧(0≤o.d∧o.d.toNat < 8)∧((o.op==1)=true→0≤o.n∧o.n.toNat < ints.length))):c49 [(cd ops ints strs rels),.int .i64 q,eStateR b f]=some (eStateR b (behindF ops ints rels f q)):=fam_eq (fun X Y hp hp' h'=>by
 obtain⟨ops,ints,strs,rels,q,b,f⟩:=X;obtain⟨ops',ints',strs',rels',q',b',f'⟩:=Y;simp only[eStateR_inj,INJ] at h'
 obtain⟨rfl,rfl,rfl,rfl,rfl,rfl,rfl⟩:=h'
 rfl) (ops,ints,strs,rels,q,b,f) hp
theorem snd49:Snd 49 c49:=fam_snd h49 rfl rfl fun (ops,ints,strs,rels,q,b,f) hp=>rc h49 (fun A=>run49 ops ints strs rels q b f hp A) (fun _=>[]) rfl rfl rfl (by kernel_rfl) ⟨snd39,snd80,trivial⟩ trivial
def joinR (b:Bool) (f:List XFact) (b':Bool) (f':List XFact):AV:=if b=true then eStateR true (joinF f f') else eStateR b' f'
theorem h51:Tryz.prog.funcs[51]? = some f51:=by kernel_rfl
def H51:Nat→Hint:=fun i=>if i=4 then ({ tm:=[2,3,4,5],ob:=[2,3,4],fin:=some ([2,3,4],[2,3,4]) }:Hint) else { tm:=[],ob:=[] }
theorem H51_4:H51 4=({ tm:=[2,3,4,5],ob:=[2,3,4],fin:=some ([2,3,4],[2,3,4]) }:Hint):=by simp[H51]
theorem loop51_4 (c e:Bool) (b out:List XFact) (hb:b.length=8) (ho:out.length=8) (o4:Abs.Obj) (A:Nat→Prop) (k:Nat):∀ (m i:Nat) (σ:St),i+m=8→
 σ.keep (H51 4)=⟨[(2,.ptr 2 (.box 74) []),(3,.ptr 3 (.box 74) []),(4,.ptr 4 (.box 74) []),(5,.int .i64 i)],[(2,⟨.box 74,true,[eStateR c (midJ b out (i))]⟩),(3,⟨.box 74,true,[eStateR e out]⟩),(4,o4)]⟩→
 post (H51 4) (aloop ty (arun (env 28 4196671 D0 [] [] A) H51 k (sub (f51.body.getD .skip) [1,1,0,1,0,0])) (H51 4) (m+1) σ)=some (.exit 0,⟨[(2,.ptr 2 (.box 74) []),(3,.ptr 3 (.box 74) []),(4,.ptr 4 (.box 74) [])],[(2,⟨.box 74,true,[eStateR c (midJ b out (8))]⟩),(3,⟨.box 74,true,[eStateR e out]⟩),(4,o4)]⟩):=by
 simp only[f51,sub,Option.getD_some,H51_4]
 intro m
 induction m with
 | zero=>
   intro i σ hi hσ
   have h1:¬ ((i:Int) < 8):=by omega
   have h8:midJ b out i=midJ b out 8:=by rw[show i=8 by omega]
   rw[aloop,hσ]
   simp only[go_sem,simprocAttr,h1]
   simp[post,St.fin,keepL,aget,h8]
 | succ m ih=>
   intro i σ hi hσ
   have h1:(i:Int) < 8:=by omega
   have hlt:i < b.length:=by omega
   have hlt2:i < out.length:=by omega
   have hni:(0:Int)≤(i:Int):=Int.natCast_nonneg i
   have hw:IntKind.i64.wrap ((i:Int)+1)=((i+1:Nat):Int):=wrap_nat (by omega)
   have hget:=midJ_get b out i hlt hlt2
   have hgo:out[i]? = some (out[i]'hlt2):=List.getElem?_eq_getElem hlt2
   have hst:=midJ_step b out i hlt hlt2
   have hsm:=midJ_same b out i hlt hlt2
   have hset:=set_map eFactR (midJ b out i) i z0
   rw[aloop,hσ]
   generalize b[i]=x at *
   generalize out[i]=y at *
   simp only[join1] at hst hsm
   simp only[z0,eFactR] at hset
   cases hg:(x.sort==y.sort&&x.n==y.n)
   all_goals
    rw[hg] at hst hsm
    simp only[forall_const,z0,BL] at hst hsm
    simp only[go_sem,simprocAttr,h1,hni,hget,hgo,hw,hg,eStateR,eFactR,hset]
    exact ih (i+1) _ (by omega) (by simp only[go_sem,simprocAttr,hst,← hsm,eStateR])
theorem run51 (b:Bool) (f:List XFact) (e:Bool) (g:List XFact) (hp:f.length=8∧g.length=8) (A:Nat→Prop):acall (env 28 4196671 D0 [] [] A) (H51) (10) f51 [eStateR b f,eStateR e g]=some (joinR b f e g):=by
 obtain⟨hf8,hg8⟩:=hp
 have hme:=midJ_end f g hf8 hg8 8 (by omega)
 have hm0:midJ f g 0=f:=rfl
 unfold joinR
 cases b
 ·simp only[BL]
  simp only[acall,macall,f51]
  simp only[go_sem,simprocAttr,eStateR,H51_4]
  try rfl
 simp only[BL]
 simp only[acall,macall,f51]
 simp only[go_sem,simprocAttr,eStateR,H51_4]
 have hl:=loop51_4 true e f g hf8 hg8 ⟨.box 74,true,[.st 74 [.bool false,.ar 72 [.st 71 [.int .i64 0,.int .i64 0],.st 71 [.int .i64 0,.int .i64 0],.st 71 [.int .i64 0,.int .i64 0],.st 71 [.int .i64 0,.int .i64 0],.st 71 [.int .i64 0,.int .i64 0],.st 71 [.int .i64 0,.int .i64 0],.st 71 [.int .i64 0,.int .i64 0],.st 71 [.int .i64 0,.int .i64 0]]]]⟩ A 10 8 0
 simp only[f51,sub,Option.getD_some,H51_4] at hl
 rw[post_le (hl _ (by simp) (by simp only[go_sem,simprocAttr,hm0,eStateR,eFactR])) (by omega)]
 rw[hme]
 simp only[go_sem,simprocAttr,eStateR,H51_4]
 try rfl
noncomputable def c51:=famP (α:=Bool × (List XFact) × Bool × (List XFact)) (fun (b,f,e,g)=>f.length=8∧g.length=8) (fun (b,f,e,g)=>[eStateR b f,eStateR e g]) (fun (b,f,e,g)=>joinR b f e g)
theorem c51_eq (b:Bool) (f:List XFact) (e:Bool) (g:List XFact) (hp:f.length=8∧g.length=8):c51 [eStateR b f,eStateR e g]=some (joinR b f e g):=fam_eq (fun X Y hp hp' h'=>by
 obtain⟨b,f,e,g⟩:=X;obtain⟨b',f',e',g'⟩:=Y;simp only[eStateR_inj,INJ] at h'
 obtain⟨rfl,rfl,rfl,rfl⟩:=h'
 rfl) (b,f,e,g) hp
theorem snd51:Snd 51 c51:=fam_snd h51 rfl rfl fun (b,f,e,g) hp=>rc h51 (fun A=>run51 b f e g hp A) (fun i=>match i with | 6=>[0,0,3,7,0,0,48,112,255] | _=>[]) rfl rfl rfl (by kernel_rfl) trivial trivial
def stL (s:List (List XFact) × List Bool):List AV:=List.zipWith eStateR s.2 s.1
theorem stL_len {n:Nat} {s:List (List XFact) × List Bool} (h:Shape n s):(stL s).length=n:=by simp[stL,h.1,h.2.1]
theorem stL_get {n:Nat} {s:List (List XFact) × List Bool} (h:Shape n s) {i:Nat} (hi:i < n):(stL s)[i]? = some (eStateR (s.2.getD i false) (s.1.getD i [])):=by
 have h1:i < s.1.length:=by rw[h.1];exact hi
 have h2:i < s.2.length:=by rw[h.2.1];exact hi
 simp[stL,List.getElem?_zipWith,List.getElem?_eq_getElem h1,List.getElem?_eq_getElem h2,List.getD]
theorem stL_set (s:List (List XFact) × List Bool) (i:Nat) (b:Bool) (f:List XFact):(stL s).set i (eStateR b f)=stL (s.1.set i f,s.2.set i b):=by
 apply List.ext_getElem?
 intro j
 simp only[stL,List.getElem?_set,List.getElem?_zipWith,List.length_zipWith]
 by_cases hj:i=j
 ·subst hj
  by_cases h1:i < s.1.length
  ·by_cases h2:i < s.2.length
   ·have h3:i < min s.2.length s.1.length:=by omega
    simp[h1,h2];omega
   ·have h3:¬ (i < min s.2.length s.1.length):=by omega
    simp[h1,h2];omega
  ·have h3:¬ (i < min s.2.length s.1.length):=by omega
   simp only[h1,h3,ite_true,ite_false,BL]
   cases s.2[i]? <;> simp
 ·simp[hj]
theorem stL_step {n:Nat} {s:List (List XFact) × List Bool} (h:Shape n s) (out:List XFact) (k:Int) (hk:k.toNat < n) :
 ((stL s).set k.toNat (if s.2.getD k.toNat false=true then eStateR true (joinF (s.1.getD k.toNat []) out) else eStateR true out))=stL (step1 out s k):=by
 unfold step1
 split
 ·rename_i hr
  rw[stL_set,set_same s.2 k.toNat true (by rw[getD_get (d:=false) (by rw[h.2.1];exact hk),hr])]
 ·rw[stL_set]
def stZ:AV:= .st 74 [.bool false,.ar 72 [.st 71 [.int .i64 0,.int .i64 0],.st 71 [.int .i64 0,.int .i64 0],.st 71 [.int .i64 0,.int .i64 0],.st 71 [.int .i64 0,.int .i64 0],.st 71 [.int .i64 0,.int .i64 0],.st 71 [.int .i64 0,.int .i64 0],.st 71 [.int .i64 0,.int .i64 0],.st 71 [.int .i64 0,.int .i64 0]]]
theorem stL_start (n:Nat) (hn:0 < n):(List.replicate n stZ).set 0 (.st 74 [.bool true,.ar 72 [.st 71 [.int .i64 0,.int .i64 0],.st 71 [.int .i64 0,.int .i64 0],.st 71 [.int .i64 0,.int .i64 0],.st 71 [.int .i64 0,.int .i64 0],.st 71 [.int .i64 0,.int .i64 0],.st 71 [.int .i64 0,.int .i64 0],.st 71 [.int .i64 0,.int .i64 0],.st 71 [.int .i64 0,.int .i64 0]]])=stL (start0 n):=by
 have e:List.replicate n stZ=stL (List.replicate n (List.replicate 8 z0),List.replicate n false):=by
  simp only[stL,List.zipWith_replicate,Nat.min_self];rfl
 rw[e,show (.st 74 [.bool true,.ar 72 [.st 71 [.int .i64 0,.int .i64 0],.st 71 [.int .i64 0,.int .i64 0],.st 71 [.int .i64 0,.int .i64 0],.st 71 [.int .i64 0,.int .i64 0],.st 71 [.int .i64 0,.int .i64 0],.st 71 [.int .i64 0,.int .i64 0],.st 71 [.int .i64 0,.int .i64 0],.st 71 [.int .i64 0,.int .i64 0]]]:AV)=eStateR true (List.replicate 8 z0) from rfl,stL_set]
 congr 1
 refine Prod.ext ?_ rfl
 exact set_same _ _ _ (by rw[List.getElem?_replicate,if_pos hn])
theorem h29:Tryz.prog.funcs[29]? = some f29:=by kernel_rfl
def D29:Nat→Option (List DH × List Nat):=fun i=>match i with | 7=>some ([⟨[5],[],[5]⟩,⟨[5],[],[5]⟩,⟨[5],[],[5]⟩,⟨[5],[],[5]⟩,⟨[5],[],[5]⟩,⟨[5],[],[5]⟩,⟨[5],[],[5]⟩,⟨[],[5],[]⟩,⟨[],[],[]⟩],[5]) | _=>none
theorem D29_7:D29 7=some ([⟨[5],[],[5]⟩,⟨[5],[],[5]⟩,⟨[5],[],[5]⟩,⟨[5],[],[5]⟩,⟨[5],[],[5]⟩,⟨[5],[],[5]⟩,⟨[5],[],[5]⟩,⟨[],[5],[]⟩,⟨[],[],[]⟩],[5]):=rfl
theorem D29_12:D29 12=none:=rfl
def H29:Nat→Hint:=fun i=>if i=4 then ({ tm:=[1,3,4],ob:=[1,11],fin:=some ([1,3],[1,11]) }:Hint) else if i=10 then ({ tm:=[1,3,4,5,6,7],ob:=[1,5,11],fin:=some ([1,3,4],[1,11]) }:Hint) else { tm:=[],ob:=[] }
theorem H29_4:H29 4=({ tm:=[1,3,4],ob:=[1,11],fin:=some ([1,3],[1,11]) }:Hint):=by simp[H29]
theorem H29_10:H29 10=({ tm:=[1,3,4,5,6,7],ob:=[1,5,11],fin:=some ([1,3,4],[1,11]) }:Hint):=by simp[H29]
theorem loop29_10 (hl:ops.length≤100000∧ints.length≤100000∧strs.length≤100000∧rels.length≤100000) (q:Int) (out:List XFact) (ks:List Int) (hks:ks.length≤2) (hkn:∀ q ∈ ks,0≤q∧q.toNat < ops.length) (ho:out.length=8) (A:Nat→Prop) (k:Nat):∀ (m j:Nat) (s:List (List XFact) × List Bool) (σ:St),Shape ops.length s→j+m=ks.length→
 σ.keep (H29 10)=⟨[(1,.ptr 1 (.box 27) []),(3,.own 11 74 0 ops.length),(4,.int .i64 q),(5,.ptr 5 (.box 74) []),(6,.sl 3 gT (ks.map eI)),(7,.int .i64 j)],[(1,⟨.box 27,false,[(cd ops ints strs rels)]⟩),(5,⟨.box 74,true,[eStateR true out]⟩),(11,⟨.row 74,true,stL s⟩)]⟩→
 post (H29 10) (aloop ty (arun (env 60 2199157997823 D29 [(49,c49),(50,c50),(51,c51)] [] A) H29 k (sub (f29.body.getD .skip) [1,1,1,0,1,0,0,1,0,0,1,1,1,1,0,0])) (H29 10) (m+1) σ)=some (.exit 2,⟨[(1,.ptr 1 (.box 27) []),(3,.own 11 74 0 ops.length),(4,.int .i64 q)],[(1,⟨.box 27,false,[(cd ops ints strs rels)]⟩),(11,⟨.row 74,true,stL ((ks.drop j).foldl (step1 out) s)⟩)]⟩):=by
 simp only[f29,sub,Option.getD_some,H29_10]
 intro m
 induction m with
 | zero=>
   intro j s σ hsh hj hσ
   have h1:¬ ((j:Int) < (ks.length:Int)):=by omega
   have h8:ks.drop j=[]:=List.drop_of_length_le (by omega)
   rw[aloop,hσ]
   simp only[go_sem,simprocAttr,h1]
   simp[post,St.fin,keepL,aget,h8]
 | succ m ih=>
   intro j s σ hsh hj hσ
   have h1:(j:Int) < (ks.length:Int):=by omega
   have hlt:j < ks.length:=by omega
   have hni:(0:Int)≤(j:Int):=Int.natCast_nonneg j
   have hw:IntKind.i64.wrap ((j:Int)+1)=((j+1:Nat):Int):=wrap_nat (by omega)
   have hgk:ks[j]? = some (ks[j]'hlt):=List.getElem?_eq_getElem hlt
   have hd:ks.drop j=ks[j]'hlt::ks.drop (j+1):=List.drop_eq_getElem_cons hlt
   obtain⟨hq0,hqn⟩:=hkn _ (List.getElem_mem hlt)
   rw[aloop,hσ,hd,List.foldl_cons]
   generalize ks[j]=k1 at *
   have hqi:k1 < (ops.length:Int):=by omega
   have hll:=stL_len hsh
   have hgs:=stL_get hsh hqn
   have hbl:=hsh.get hqn
   have hsh':=shape_step1 hsh ho k1 hqn
   have hst:=stL_step hsh out k1 hqn
   have e51:=c51_eq (s.2.getD k1.toNat false) (s.1.getD k1.toNat []) true out ⟨hbl,ho⟩
   simp only[joinR] at e51
   generalize step1 out s k1=s2 at *
   generalize s.2.getD k1.toNat false=r at *
   generalize s.1.getD k1.toNat []=f at *
   cases r
   all_goals
    simp only[eStateR,BL] at e51 hst hgs
    simp only[go_sem,simprocAttr,D29_7,D29_12,h1,hni,hqi,hq0,hgk,hgs,hll,hw,e51,hst,eStateR]
    exact ih (j+1) s2 _ hsh' (by omega) (by simp only[go_sem,simprocAttr,eStateR])
theorem loop29_4 (hp:((ops.length≤100000∧ints.length≤100000∧strs.length≤100000∧rels.length≤100000)∧∀ r ∈ rels,r.str.size≤9223372036854775807∧r.mem.size≤9223372036854775807)∧checkF ops ints strs rels=true) (A:Nat→Prop) (k:Nat) (hk9:100≤k):∀ (m i:Nat) (s:List (List XFact) × List Bool) (σ:St),Shape ops.length s→i+m=ops.length→
 σ.keep (H29 4)=⟨[(1,.ptr 1 (.box 27) []),(3,.own 11 74 0 ops.length),(4,.int .i64 i)],[(1,⟨.box 27,false,[(cd ops ints strs rels)]⟩),(11,⟨.row 74,true,stL s⟩)]⟩→
 post (H29 4) (aloop ty (arun (env 60 2199157997823 D29 [(49,c49),(50,c50),(51,c51)] [] A) H29 k (sub (f29.body.getD .skip) [1,1,1,0,1,0,0])) (H29 4) (m+1) σ)=some (.exit 0,⟨[(1,.ptr 1 (.box 27) []),(3,.own 11 74 0 ops.length)],[(1,⟨.box 27,false,[(cd ops ints strs rels)]⟩),(11,⟨.row 74,true,stL (flowFrom ops ints rels m i s)⟩)]⟩):=by
 simp only[f29,sub,Option.getD_some,H29_4]
 have hg:=check_good hp.2
 have hlim:=hp.1.1
 intro m
 induction m with
 | zero=>
   intro i s σ hsh hi hσ
   have h1:¬ ((i:Int) < (ops.length:Int)):=by omega
   rw[aloop,hσ]
   simp only[go_sem,simprocAttr,h1]
   simp[post,St.fin,keepL,aget,flowFrom]
 | succ m ih=>
   intro i s σ hsh hi hσ
   have h1:(i:Int) < (ops.length:Int):=by omega
   have hlt:i < ops.length:=by omega
   have hni:(0:Int)≤(i:Int):=Int.natCast_nonneg i
   have hw:IntKind.i64.wrap ((i:Int)+1)=((i+1:Nat):Int):=wrap_nat (by omega)
   have hll:=stL_len hsh
   have hgs:=stL_get hsh hlt
   have hbl:=hsh.get hlt
   have hok:=right_ok (hg.right i hlt)
   have e49:=c49_eq ops ints strs rels i true (s.1.getD i []) ⟨hlim,hni,by simpa using hlt,hbl,hok.a,hok.d,fun h=>fits_int hok.fit h⟩
   have e50:=c50_eq ops ints strs rels i ⟨hlim,hni,by simpa using hlt⟩
   have hnl:=next_ok hg i hlt
   rw[aloop,hσ]
   simp only[flowFrom,stepAt]
   cases hr:s.2.getD i false
   ·rw[hr] at hgs
    simp only[eStateR,BL] at hgs ⊢
    simp only[go_sem,simprocAttr,D29_7,D29_12,h1,hni,hgs,hll,hw,eStateR]
    exact ih (i+1) _ _ hsh (by omega) (by simp only[go_sem,simprocAttr])
   ·rw[hr] at hgs
    simp only[BL]
    have hbo:=behind_len (ops:=ops) (ints:=ints) (rels:=rels) (q:=(i:Int)) hbl
    have hks:(nextF ops i).length≤2:=by
     unfold nextF
     dsimp only
     split
     ·simp
     split
     ·simp
     split
     ·split <;> simp
     simp
    have hkn:∀ q ∈ nextF ops i,0≤q∧q.toNat < ops.length:=fun q hq=>by have:=hnl q hq;omega
    generalize behindF ops ints rels (s.1.getD i []) i=out at *
    generalize nextF ops i=ks at *
    have hl:=loop29_10 ops ints strs rels hlim i out ks hks hkn hbo A k ks.length 0 s
    simp only[f29,sub,Option.getD_some,H29_10,List.drop_zero] at hl
    have hsf:=shape_fold hbo ks _ hsh fun q hq=>(hkn q hq).2
    simp only[eStateR] at hgs e49
    simp only[go_sem,simprocAttr,D29_7,D29_12,h1,hni,hgs,hll,hw,e49,e50,H29_10,eStateR]
    rw[post_le (hl _ hsh (by simp) (by simp only[go_sem,simprocAttr,eStateR])) (by omega)]
    simp only[go_sem,simprocAttr,D29_7,D29_12,h1,hni,hgs,hll,hw,e49,e50,H29_10,eStateR]
    exact ih (i+1) _ _ hsf (by omega) (by simp only[go_sem,simprocAttr])
theorem run29 (hp:((ops.length≤100000∧ints.length≤100000∧strs.length≤100000∧rels.length≤100000)∧∀ r ∈ rels,r.str.size≤9223372036854775807∧r.mem.size≤9223372036854775807)∧checkF ops ints strs rels=true) :∃ r,wk r (.sl 74 gT (stL (workS ops ints rels)))∧∀ A,acall (env 60 2199157997823 D29 [(49,c49),(50,c50),(51,c51)] [] A) (H29) (600) f29 [(cd ops ints strs rels)]=some r:=by
 have hg:=check_good hp.2
 have hpos:=hg.pos
 have hlen:=hg.len
 have hpos0:(0:Int) < (ops.length:Int):=by omega
 have hroom:((ops.length:Int) * 136≤140737488355328)=True:=by simp;omega
 have hst:=stL_start ops.length hpos
 have hgz:(List.replicate ops.length stZ)[0]? = some stZ:=by rw[List.getElem?_replicate,if_pos (by omega)]
 have hlz:(List.replicate ops.length stZ).length=ops.length:=by simp
 have hl4:=fun A=>loop29_4 ops ints strs rels hp A 600 (by omega) ops.length 0 (start0 ops.length)
 simp only[f29,sub,Option.getD_some,H29_4] at hl4
 have hsh:=shape_work (ints:=ints) (rels:=rels) hg
 have hll:=stL_len hsh
 simp only[stZ] at hst hgz hlz
 apply wkI
 ·intro A
  simp only[acall,macall,f29]
  simp only[go_sem,simprocAttr,D29_7,D29_12,hroom,hpos0,hst,hgz,hlz,hll,H29_4,litAll_rep,List.length_replicate]
  rw[post_le (hl4 A _ (shape0 _) (by simp) (by simp only[go_sem,simprocAttr])) (by omega)]
  rw[show flowFrom ops ints rels ops.length 0 (start0 ops.length)=workS ops ints rels from rfl]
  simp only[go_sem,simprocAttr,D29_7,D29_12,hroom,hpos0,hst,hgz,hlz,hll,H29_4,litAll_rep,List.length_replicate]
  rfl
 ·simp[WK,eOut,eCode]
noncomputable def c29:=famP (α:=(List XOp) × (List Int) × (List ByteArray) × (List XRel)) (fun (ops,ints,strs,rels)=>((ops.length≤100000∧ints.length≤100000∧strs.length≤100000∧rels.length≤100000)∧∀ r ∈ rels,r.str.size≤9223372036854775807∧r.mem.size≤9223372036854775807)∧checkF ops ints strs rels=true) (fun (ops,ints,strs,rels)=>[(cd ops ints strs rels)]) (fun (ops,ints,strs,rels)=> .sl 74 gT (stL (workS ops ints rels)))
theorem c29_eq (hp:((ops.length≤100000∧ints.length≤100000∧strs.length≤100000∧rels.length≤100000)∧∀ r ∈ rels,r.str.size≤9223372036854775807∧r.mem.size≤9223372036854775807)∧checkF ops ints strs rels=true):c29 [(cd ops ints strs rels)]=some (.sl 74 gT (stL (workS ops ints rels))):=fam_eq (fun X Y hp hp' h'=>by
 obtain⟨ops,ints,strs,rels⟩:=X;obtain⟨ops',ints',strs',rels'⟩:=Y;simp only[eStateR_inj,INJ] at h'
 obtain⟨rfl,rfl,rfl,rfl⟩:=h'
 rfl) (ops,ints,strs,rels) hp
theorem snd29:Snd 29 c29:=fam_snd h29 rfl rfl fun (ops,ints,strs,rels) hp=>let ⟨_,hw,hr⟩:=run29 ops ints strs rels hp;(rc h29 hr (fun i=>match i with | 7=>[0,0,0,0,12,28,63,0,255] | 12=>[0,0,0,6,14,0,0,0,192,448,992,2016,0,8160,16383,32767] | _=>[]) rfl rfl rfl (by kernel_rfl) ⟨snd49,snd50,snd51,trivial⟩ trivial).weak hw
def bits8 (g:Nat→Bool):List AV:=(List.range 8).map fun i=> .bool (g i)
theorem bits8_len (g:Nat→Bool):(bits8 g).length=8:=by simp[bits8]
theorem bits8_get (g:Nat→Bool) {i:Nat} (h:i < 8):(bits8 g)[i]? = some (.bool (g i)):=by simp[bits8,h]
theorem bits8_congr {g h:Nat→Bool} (e:∀ i,i < 8→g i=h i):bits8 g=bits8 h:=by
 unfold bits8
 apply List.map_congr_left
 intro i hi
 rw[e i (by simpa using hi)]
theorem bits8_set (g:Nat→Bool) (r:Nat) (b:Bool):(bits8 g).set r (.bool b)=bits8 fun i=>if i=r then b else g i:=by
 apply List.ext_getElem?
 intro j
 rw[List.getElem?_set]
 by_cases hj:j < 8
 ·rw[bits8_get _ hj,bits8_get _ hj,bits8_len]
  by_cases h:r=j
  ·subst h;simp[hj]
  ·have h2:¬ j=r:=fun e=>h e.symm
   simp[h,h2]
 ·have e1:(bits8 fun i=>if i=r then b else g i)[j]? = none:=List.getElem?_eq_none (by rw[bits8_len];omega)
  have e2:(bits8 g)[j]? = none:=List.getElem?_eq_none (by rw[bits8_len];omega)
  rw[e1,e2,bits8_len]
  by_cases h:r=j
  ·subst h;simp[hj]
  ·simp[h]
def eBits (g:Nat→Bool):AV:= .ar 50 (bits8 g)
def eLive (a:Int):AV:=eBits fun i=>hasF a (i:Nat)
def U8 (a:Int):Prop:=0≤a∧a < 256
theorem has_tb:∀ (a:Fin 256) (r:Fin 8),hasF ((a.val:Nat):Int) ((r.val:Nat):Int)=Nat.testBit a.val r.val:=by decide +kernel
theorem with_all:∀ (a:Fin 256) (q r:Fin 8),(hasF (withF ((a.val:Nat):Int) ((q.val:Nat):Int)) ((r.val:Nat):Int)==(hasF ((a.val:Nat):Int) ((r.val:Nat):Int) || r.val==q.val))=true:=by decide +kernel
theorem without_all:∀ (a:Fin 256) (q r:Fin 8),(hasF (withoutF ((a.val:Nat):Int) ((q.val:Nat):Int)) ((r.val:Nat):Int)==(hasF ((a.val:Nat):Int) ((r.val:Nat):Int)&& !(r.val==q.val)))=true:=by decide +kernel
theorem with_u:∀ (a:Fin 256) (q:Fin 8),(decide (0≤withF ((a.val:Nat):Int) ((q.val:Nat):Int))&&decide (withF ((a.val:Nat):Int) ((q.val:Nat):Int) < 256))=true:=by decide +kernel
theorem without_u:∀ (a:Fin 256) (q:Fin 8),(decide (0≤withoutF ((a.val:Nat):Int) ((q.val:Nat):Int))&&decide (withoutF ((a.val:Nat):Int) ((q.val:Nat):Int) < 256))=true:=by decide +kernel
theorem U8.nat {a:Int} (h:U8 a):∃ k:Fin 256,a=(k.val:Nat):=⟨⟨a.toNat,by have:=h.1;have:=h.2;omega⟩,by have:=h.1;simp;omega⟩
theorem reg8 {q:Int} (h:0≤q∧q.toNat < 8):∃ k:Fin 8,q=(k.val:Nat):=⟨⟨q.toNat,h.2⟩,by have:=h.1;simp;omega⟩
theorem with_has {a q:Int} (ha:U8 a) (hq:0≤q∧q.toNat < 8) {i:Nat} (hi:i < 8):hasF (withF a q) i=if i=q.toNat then true else hasF a i:=by
 obtain⟨a,rfl⟩:=ha.nat
 obtain⟨q,rfl⟩:=reg8 hq
 have h:=eq_of_beq (with_all a q ⟨i,hi⟩)
 rw[h]
 by_cases e:i=q.val
 ·simp[e]
 ·have e2:(i==q.val)=false:=by simpa using e
  simp[e]
theorem without_has {a q:Int} (ha:U8 a) (hq:0≤q∧q.toNat < 8) {i:Nat} (hi:i < 8):hasF (withoutF a q) i=if i=q.toNat then false else hasF a i:=by
 obtain⟨a,rfl⟩:=ha.nat
 obtain⟨q,rfl⟩:=reg8 hq
 have h:=eq_of_beq (without_all a q ⟨i,hi⟩)
 rw[h]
 by_cases e:i=q.val
 ·simp[e]
 ·simp[e]
theorem with_U {a q:Int} (ha:U8 a) (hq:0≤q∧q.toNat < 8):U8 (withF a q):=by
 obtain⟨a,rfl⟩:=ha.nat
 obtain⟨q,rfl⟩:=reg8 hq
 have h:=with_u a q
 simp only[Bool.and_eq_true,decide_eq_true_eq] at h
 exact h
theorem without_U {a q:Int} (ha:U8 a) (hq:0≤q∧q.toNat < 8):U8 (withoutF a q):=by
 obtain⟨a,rfl⟩:=ha.nat
 obtain⟨q,rfl⟩:=reg8 hq
 have h:=without_u a q
 simp only[Bool.and_eq_true,decide_eq_true_eq] at h
 exact h
theorem or_u8 (a b:Fin 256):bits2 .or .u8 ((a.val:Nat):Int) ((b.val:Nat):Int)=((a.val ||| b.val:Nat):Int):=by
 have e:bits2 .or .u8 ((a.val:Nat):Int) ((b.val:Nat):Int)=IntKind.u8.wrap ((BitVec.ofInt 8 ((a.val:Nat):Int) ||| BitVec.ofInt 8 ((b.val:Nat):Int)).toNat:Int):=rfl
 have hlt:a.val ||| b.val < 2 ^ 8:=Nat.or_lt_two_pow a.isLt b.isLt
 rw[e]
 have e2:(BitVec.ofInt 8 ((a.val:Nat):Int) ||| BitVec.ofInt 8 ((b.val:Nat):Int)).toNat=a.val ||| b.val:=by
  have ha:=a.isLt;have hb:=b.isLt
  rw[BitVec.toNat_or,BitVec.ofInt_natCast,BitVec.ofInt_natCast,BitVec.toNat_ofNat,BitVec.toNat_ofNat,Nat.mod_eq_of_lt (by omega),Nat.mod_eq_of_lt (by omega)]
 rw[e2]
 have e3:IntKind.u8.wrap ((a.val ||| b.val:Nat):Int)=((a.val ||| b.val:Nat):Int) % 256:=by simp[IntKind.wrap,IntKind.bits,IntKind.signed]
 rw[e3]
 omega
theorem or_has {a b:Int} (ha:U8 a) (hb:U8 b) {i:Nat} (hi:i < 8):hasF (bits2 .or .u8 a b) i=(hasF a i || hasF b i):=by
 obtain⟨a,rfl⟩:=ha.nat
 obtain⟨b,rfl⟩:=hb.nat
 rw[or_u8,has_tb a ⟨i,hi⟩,has_tb b ⟨i,hi⟩]
 have hlt:a.val ||| b.val < 256:=Nat.or_lt_two_pow (n:=8) a.isLt b.isLt
 rw[has_tb ⟨a.val ||| b.val,hlt⟩ ⟨i,hi⟩]
 simp
theorem or_U {a b:Int} (ha:U8 a) (hb:U8 b):U8 (bits2 .or .u8 a b):=by
 obtain⟨a,rfl⟩:=ha.nat
 obtain⟨b,rfl⟩:=hb.nat
 rw[or_u8]
 have hlt:a.val ||| b.val < 256:=Nat.or_lt_two_pow (n:=8) a.isLt b.isLt
 unfold U8
 omega
def midB (s x:Int) (r i:Nat):Bool:=if i < r then (hasF s i || hasF x i) else hasF s i
theorem mid_step (s x:Int) (r:Nat):(bits8 (midB s x r)).set r (.bool (hasF s r || hasF x r))=bits8 (midB s x (r+1)):=by
 rw[bits8_set]
 apply bits8_congr
 intro i hi
 unfold midB
 by_cases h:i=r
 ·subst h;simp
 ·have e:(i < r+1)=(i < r):=propext ⟨fun h2=>by omega,fun h2=>by omega⟩
  simp[h,e]
theorem mid_zero (s x:Int):bits8 (midB s x 0)=bits8 fun i=>hasF s (i:Nat):=bits8_congr fun i _=>by simp[midB]
theorem mid_end {s x:Int} (hs:U8 s) (hx:U8 x):bits8 (midB s x 8)=bits8 fun i=>hasF (bits2 .or .u8 s x) (i:Nat):=bits8_congr fun i hi=>by rw[or_has hs hx hi];simp[midB,hi]
theorem mid_at (s x:Int) (r:Nat):midB s x r r=hasF s r:=by simp[midB]
theorem with_bits {a q:Int} (ha:U8 a) (hq:0≤q∧q.toNat < 8):(bits8 fun i=>hasF a (i:Nat)).set q.toNat (.bool true)=bits8 fun i=>hasF (withF a q) (i:Nat):=by
 rw[bits8_set];exact bits8_congr fun i hi=>by rw[with_has ha hq hi]
theorem without_bits {a q:Int} (ha:U8 a) (hq:0≤q∧q.toNat < 8):(bits8 fun i=>hasF a (i:Nat)).set q.toNat (.bool false)=bits8 fun i=>hasF (withoutF a q) (i:Nat):=by
 rw[bits8_set];exact bits8_congr fun i hi=>by rw[without_has ha hq hi]
theorem set_at {R:List AV} {m:Nat} (h:m < R.length) (Y:AV):(R.set m Y)[m]? = some Y:=by rw[List.getElem?_set];simp[h]
theorem set_ne {R:List AV} {m k:Nat} (h:k ≠ m) (Y:AV):(R.set m Y)[k]? = R[k]?:=by rw[List.getElem?_set];simp[Ne.symm h]
theorem eBits_0:eLive 0 = .ar 50 [.bool false,.bool false,.bool false,.bool false,.bool false,.bool false,.bool false,.bool false]:=rfl
theorem liveL_get {al:List Int} {k:Nat} (h:k < al.length):(al.map eLive)[k]? = some (.ar 50 (bits8 fun i=>hasF (al.getD k 0) (i:Nat))):=by
 rw[List.getElem?_map,getD_get (d:=(0:Int)) h];rfl
theorem h30:Tryz.prog.funcs[30]? = some f30:=by kernel_rfl
def H30:Nat→Hint:=fun i=>if i=3 then ({ tm:=[1,3,4],ob:=[1,15],fin:=some ([1,3],[1,15]) }:Hint) else if i=7 then ({ tm:=[1,3,4,5,6],ob:=[1,15],fin:=some ([1,3,4],[1,15]) }:Hint) else if i=10 then ({ tm:=[1,3,4,5,6,7],ob:=[1,15],fin:=some ([1,3,4,5,6],[1,15]) }:Hint) else if i=18 then ({ tm:=[1,3,4,10,11],ob:=[1,15],fin:=some ([1,3,4],[1,15]) }:Hint) else { tm:=[],ob:=[] }
theorem H30_3:H30 3=({ tm:=[1,3,4],ob:=[1,15],fin:=some ([1,3],[1,15]) }:Hint):=by simp[H30]
theorem H30_7:H30 7=({ tm:=[1,3,4,5,6],ob:=[1,15],fin:=some ([1,3,4],[1,15]) }:Hint):=by simp[H30]
theorem H30_10:H30 10=({ tm:=[1,3,4,5,6,7],ob:=[1,15],fin:=some ([1,3,4,5,6],[1,15]) }:Hint):=by simp[H30]
theorem H30_18:H30 18=({ tm:=[1,3,4,10,11],ob:=[1,15],fin:=some ([1,3,4],[1,15]) }:Hint):=by simp[H30]
theorem loop30_10 (v1:AV) (o1:Abs.Obj) (R:List AV) (n m:Nat) (hR:R.length=n) (hm:m < n) (ks:List Int) (j:Nat) (hj:j < ks.length) (q s x:Int) (hgk:ks[j]? = some q) (hq0:0≤q) (hqn:q.toNat < n) (hne:q.toNat ≠ m) (hRk:R[q.toNat]? = some (.ar 50 (bits8 (fun i=>hasF x (i:Nat))))) (A:Nat→Prop) (k:Nat):∀ (c i:Nat) (σ:St),i+c=8→
 σ.keep (H30 10)=⟨[(1,v1),(3,.own 15 50 0 n),(4,.int .i64 m),(5,.sl 3 gT (ks.map eI)),(6,.int .i64 j),(7,.int .i64 i)],[(1,o1),(15,⟨.row 50,true,R.set m (.ar 50 (bits8 (midB s x i)))⟩)]⟩→
 post (H30 10) (aloop ty (arun (env 95 9671701704822231006187519 D0 [(39,c39),(40,c40),(50,c50)] [] A) H30 k (sub (f30.body.getD .skip) [1,1,0,1,0,0,1,0,0,1,0,1,0,0,1,0,0,1,0,0])) (H30 10) (c+1) σ)=some (.exit 4,⟨[(1,v1),(3,.own 15 50 0 n),(4,.int .i64 m),(5,.sl 3 gT (ks.map eI)),(6,.int .i64 j)],[(1,o1),(15,⟨.row 50,true,R.set m (.ar 50 (bits8 (midB s x 8)))⟩)]⟩):=by
 simp only[f30,sub,Option.getD_some,H30_10]
 intro m'
 induction m' with
 | zero=>
   intro i σ hi hσ
   have h1:¬ ((i:Int) < 8):=by omega
   have h8:i=8:=by omega
   subst h8
   rw[aloop,hσ]
   simp only[go_sem,simprocAttr,h1]
   simp[post,St.fin,keepL,aget]
 | succ m' ih=>
   intro i σ hi hσ
   have h1:(i:Int) < 8:=by omega
   have hi8:i < 8:=by omega
   have hni:(0:Int)≤(i:Int):=Int.natCast_nonneg i
   have hnj:(0:Int)≤(j:Int):=Int.natCast_nonneg j
   have hnm:(0:Int)≤(m:Int):=Int.natCast_nonneg m
   have hmi:(m:Int) < (n:Int):=by omega
   have hqi:q < (n:Int):=by omega
   have hji:(j:Int) < (ks.length:Int):=by omega
   have hw:IntKind.i64.wrap ((i:Int)+1)=((i+1:Nat):Int):=wrap_nat (by omega)
   have hgm:∀ Y,(R.set m Y)[m]? = some Y:=set_at (by omega)
   have hgq:∀ Y,(R.set m Y)[q.toNat]? = _:=fun Y=>(set_ne hne Y).trans hRk
   have hg1:=bits8_get (midB s x i) hi8
   have hg2:=bits8_get (fun i=>hasF x (i:Nat)) hi8
   have hst:=mid_step s x i
   have hlb:=bits8_len (midB s x i)
   have hlx:=bits8_len (fun i=>hasF x (i:Nat))
   rw[mid_at] at hg1
   rw[aloop,hσ]
   generalize midB s x i=g at *
   obtain⟨g',hg'⟩:∃ g',midB s x (i+1)=g':=⟨_,rfl⟩
   rw[hg'] at hst
   cases ha:hasF s i <;> cases hb:hasF x i
   all_goals
    simp only[ha,hb,BL] at hg1 hg2 hst
    simp only[go_sem,simprocAttr,h1,hni,hnj,hnm,hmi,hqi,hji,hq0,hgk,hgm,hgq,hg1,hg2,hst,hlb,hlx,hw,hR,List.set_set,ha,hb]
    exact ih (i+1) _ (by omega) (by simp only[go_sem,simprocAttr,hg'])
theorem loop30_7 (v1:AV) (o1:Abs.Obj) (al:List Int) (n m:Nat) (hR:al.length=n) (hm:m < n) (hU:∀ a ∈ al,U8 a) (ks:List Int) (hks:ks.length≤2) (hkn:∀ q ∈ ks,0≤q∧q.toNat < n∧q.toNat ≠ m) (A:Nat→Prop) (k:Nat) (hk9:9≤k):∀ (c j:Nat) (s:Int) (σ:St),U8 s→j+c=ks.length→
 σ.keep (H30 7)=⟨[(1,v1),(3,.own 15 50 0 n),(4,.int .i64 m),(5,.sl 3 gT (ks.map eI)),(6,.int .i64 j)],[(1,o1),(15,⟨.row 50,true,(al.map eLive).set m (.ar 50 (bits8 (fun i=>hasF s (i:Nat))))⟩)]⟩→
 post (H30 7) (aloop ty (arun (env 95 9671701704822231006187519 D0 [(39,c39),(40,c40),(50,c50)] [] A) H30 k (sub (f30.body.getD .skip) [1,1,0,1,0,0,1,0,0,1,0,1,0,0])) (H30 7) (c+1) σ)=some (.exit 2,⟨[(1,v1),(3,.own 15 50 0 n),(4,.int .i64 m)],[(1,o1),(15,⟨.row 50,true,(al.map eLive).set m (.ar 50 (bits8 (fun i=>hasF ((ks.drop j).foldl (orF al) s) (i:Nat))))⟩)]⟩):=by
 simp only[f30,sub,Option.getD_some,H30_7]
 intro c
 induction c with
 | zero=>
   intro j s σ hs hj hσ
   have h1:¬ ((j:Int) < (ks.length:Int)):=by omega
   have h8:ks.drop j=[]:=List.drop_of_length_le (by omega)
   rw[aloop,hσ]
   simp only[go_sem,simprocAttr,h1]
   simp[post,St.fin,keepL,aget,h8]
 | succ c ih=>
   intro j s σ hs hj hσ
   have h1:(j:Int) < (ks.length:Int):=by omega
   have hlt:j < ks.length:=by omega
   have hni:(0:Int)≤(j:Int):=Int.natCast_nonneg j
   have hw:IntKind.i64.wrap ((j:Int)+1)=((j+1:Nat):Int):=wrap_nat (by omega)
   have hgk:ks[j]? = some (ks[j]'hlt):=List.getElem?_eq_getElem hlt
   have hd:ks.drop j=ks[j]'hlt::ks.drop (j+1):=List.drop_eq_getElem_cons hlt
   obtain⟨hq0,hqn,hne⟩:=hkn _ (List.getElem_mem hlt)
   rw[aloop,hσ,hd,List.foldl_cons]
   generalize ks[j]=q at *
   have hxm:=List.mem_of_getElem? (getD_get (d:=(0:Int)) (show q.toNat < al.length by omega))
   have hx:=hU _ hxm
   have hl:=loop30_10 v1 o1 (al.map eLive) n m (by simpa using hR) hm ks j hlt q s (al.getD q.toNat 0) hgk hq0 hqn hne (liveL_get (by omega)) A k 8 0
   rw[mid_zero,mid_end hs hx] at hl
   simp only[f30,sub,Option.getD_some,H30_10] at hl
   simp only[orF]
   have hso:=or_U hs hx
   generalize bits2 .or .u8 s (al.getD q.toNat 0)=s2 at *
   simp only[go_sem,simprocAttr,h1,hni,hw,hgk,H30_10]
   rw[post_le (hl _ (by simp) (by simp only[go_sem,simprocAttr])) (by omega)]
   simp only[go_sem,simprocAttr,h1,hni,hw,hgk,H30_10]
   exact ih (j+1) s2 _ hso (by omega) (by simp only[go_sem,simprocAttr])
theorem loop30_18 (v1:AV) (o1:Abs.Obj) (R:List AV) (n m:Nat) (hR:R.length=n) (hm:m < n) (ks:List Int) (hks:ks.length≤2) (hkn:∀ q ∈ ks,0≤q∧q.toNat < 8) (A:Nat→Prop) (k:Nat):∀ (c j:Nat) (s:Int) (σ:St),U8 s→j+c=ks.length→
 σ.keep (H30 18)=⟨[(1,v1),(3,.own 15 50 0 n),(4,.int .i64 m),(10,.sl 3 gT (ks.map eI)),(11,.int .i64 j)],[(1,o1),(15,⟨.row 50,true,R.set m (.ar 50 (bits8 (fun i=>hasF s (i:Nat))))⟩)]⟩→
 post (H30 18) (aloop ty (arun (env 95 9671701704822231006187519 D0 [(39,c39),(40,c40),(50,c50)] [] A) H30 k (sub (f30.body.getD .skip) [1,1,0,1,0,0,1,0,0,1,1,1,1,1,1,0,0])) (H30 18) (c+1) σ)=some (.exit 6,⟨[(1,v1),(3,.own 15 50 0 n),(4,.int .i64 m)],[(1,o1),(15,⟨.row 50,true,R.set m (.ar 50 (bits8 (fun i=>hasF ((ks.drop j).foldl withF s) (i:Nat))))⟩)]⟩):=by
 simp only[f30,sub,Option.getD_some,H30_18]
 intro c
 induction c with
 | zero=>
   intro j s σ hs hj hσ
   have h1:¬ ((j:Int) < (ks.length:Int)):=by omega
   have h8:ks.drop j=[]:=List.drop_of_length_le (by omega)
   rw[aloop,hσ]
   simp only[go_sem,simprocAttr,h1]
   simp[post,St.fin,keepL,aget,h8]
 | succ c ih=>
   intro j s σ hs hj hσ
   have h1:(j:Int) < (ks.length:Int):=by omega
   have hlt:j < ks.length:=by omega
   have hni:(0:Int)≤(j:Int):=Int.natCast_nonneg j
   have hnm:(0:Int)≤(m:Int):=Int.natCast_nonneg m
   have hmi:(m:Int) < (n:Int):=by omega
   have hw:IntKind.i64.wrap ((j:Int)+1)=((j+1:Nat):Int):=wrap_nat (by omega)
   have hgk:ks[j]? = some (ks[j]'hlt):=List.getElem?_eq_getElem hlt
   have hd:ks.drop j=ks[j]'hlt::ks.drop (j+1):=List.drop_eq_getElem_cons hlt
   have hq:=hkn _ (List.getElem_mem hlt)
   rw[aloop,hσ,hd,List.foldl_cons]
   generalize ks[j]=q at *
   have hq0:=hq.1
   have hq8:q < (8:Int):=by omega
   have hgm:∀ Y,(R.set m Y)[m]? = some Y:=set_at (by omega)
   have hg1:=bits8_get (fun i=>hasF s (i:Nat)) hq.2
   have hst:=with_bits hs hq
   have hlb:=bits8_len (fun i=>hasF s (i:Nat))
   have hso:=with_U hs hq
   generalize withF s q=s2 at *
   simp only[go_sem,simprocAttr,h1,hni,hnm,hmi,hq0,hq8,hgk,hgm,hg1,hst,hlb,hw,hR,List.set_set]
   exact ih (j+1) s2 _ hso (by omega) (by simp only[go_sem,simprocAttr])
theorem orF_U {al:List Int} (hU:∀ a ∈ al,U8 a):∀ {ks:List Int},(∀ q ∈ ks,q.toNat < al.length)→∀ s,U8 s→U8 (ks.foldl (orF al) s)
 | [],_,s,hs=>hs
 | k::ks,hk,s,hs=>by
   rw[List.foldl_cons]
   exact orF_U hU (fun q hq=>hk q (by simp[hq])) _ (or_U hs (hU _ (List.mem_of_getElem? (getD_get (d:=(0:Int)) (hk k (by simp))))))
theorem withF_U:∀ {us:List Int},(∀ q ∈ us,0≤q∧q.toNat < 8)→∀ s,U8 s→U8 (us.foldl withF s)
 | [],_,s,hs=>hs
 | k::ks,hk,s,hs=>by
   rw[List.foldl_cons]
   exact withF_U (fun q hq=>hk q (by simp[hq])) _ (with_U hs (hk k (by simp)))
theorem uses_r {lo li ls:Nat} {q:Int} {o:XOp} (h:OpOk lo li ls q o):∀ r ∈ usesF o.op o.a o.b,0≤r∧r.toNat < 8:=by
 intro r hr
 unfold usesF at hr
 rcases List.mem_append.1 hr with hr | hr
 ·split at hr
  ·simp at hr;subst hr;exact h.a
  ·simp at hr
 ·split at hr
  ·simp at hr;subst hr;exact h.b
  ·simp at hr
theorem liveAt_U {ops:List XOp} {li ls:Nat} {al:List Int} (hU:∀ a ∈ al,U8 a) {m:Nat} (h:OpOk ops.length li ls (m:Nat) (ops.getD ((m:Nat):Int).toNat op0)) (hk:∀ q ∈ nextF ops m,q.toNat < al.length):U8 (liveAt ops m al):=by
 unfold liveAt
 dsimp only
 simp only[Int.toNat_natCast] at h
 have h0:=orF_U hU hk 0 (by unfold U8;omega)
 refine withF_U (uses_r h) _ ?_
 split
 ·exact without_U h0 h.d
 ·exact h0
theorem loop30_3 (hp:((ops.length≤100000∧ints.length≤100000∧strs.length≤100000∧rels.length≤100000)∧∀ r ∈ rels,r.str.size≤9223372036854775807∧r.mem.size≤9223372036854775807)∧checkF ops ints strs rels=true) (A:Nat→Prop) (k:Nat) (hk9:100≤k):∀ (m:Nat) (al:List Int) (σ:St),al.length=ops.length→m≤ops.length→(∀ a ∈ al,U8 a)→(∀ i,i < m→al.getD i 0=0)→
 σ.keep (H30 3)=⟨[(1,.ptr 1 (.box 27) []),(3,.own 15 50 0 ops.length),(4,.int .i64 ((m:Int) - 1))],[(1,⟨.box 27,false,[(cd ops ints strs rels)]⟩),(15,⟨.row 50,true,al.map eLive⟩)]⟩→
 post (H30 3) (aloop ty (arun (env 95 9671701704822231006187519 D0 [(39,c39),(40,c40),(50,c50)] [] A) H30 k (sub (f30.body.getD .skip) [1,1,0,1,0,0])) (H30 3) (m+1) σ)=some (.exit 0,⟨[(1,.ptr 1 (.box 27) []),(3,.own 15 50 0 ops.length)],[(1,⟨.box 27,false,[(cd ops ints strs rels)]⟩),(15,⟨.row 50,true,(livesF ops m al).map eLive⟩)]⟩):=by
 simp only[f30,sub,Option.getD_some,H30_3]
 have hg:=check_good hp.2
 have hlim:=hp.1.1
 intro m
 induction m with
 | zero=>
   intro al σ hal hm hU hz hσ
   have h1:decide ((0:Int)≤ -1)=false:=by decide
   rw[aloop,hσ]
   simp only[go_sem,simprocAttr,h1]
   simp[post,St.fin,keepL,aget,livesF]
 | succ m ih=>
   intro al σ hal hm hU hz hσ
   have hm1:((m+1:Nat):Int) - 1=(m:Int):=by omega
   rw[hm1] at hσ
   have h1:decide ((0:Int)≤(m:Int))=true:=by simp
   have hlt:m < ops.length:=by omega
   have hni:(0:Int)≤(m:Int):=Int.natCast_nonneg m
   have hmi:(m:Int) < (ops.length:Int):=by omega
   have hw:IntKind.i64.wrap ((m:Int) - 1)=(m:Int) - 1:=wrap_i64 (by omega) (by omega)
   have hok:=right_ok (hg.right m hlt)
   have e50:=c50_eq ops ints strs rels m ⟨hlim,hni,by simpa using hlt⟩
   have hnl:=next_ok hg m hlt
   have hgo:=getD_get (d:=op0) hlt
   rw[aloop,hσ]
   have hU0:U8 0:=by unfold U8;omega
   have hz0:=hz m (by omega)
   have hgz:=liveL_get (show m < al.length by omega)
   rw[hz0] at hgz
   have hrow:=set_same _ _ _ hgz
   have hks:(nextF ops m).length≤2:=by
    unfold nextF
    dsimp only
    split
    ·simp
    split
    ·simp
    split
    ·split <;> simp
    simp
   have hkn:∀ q ∈ nextF ops m,0≤q∧q.toNat < ops.length∧q.toNat ≠ m:=fun q hq=>by have:=hnl q hq;omega
   have hso:=liveAt_U hU hok (fun q hq=>by have:=hkn q hq;omega)
   simp only[livesF]
   have hla:liveAt ops m al=(usesF (ops.getD m op0).op (ops.getD m op0).a (ops.getD m op0).b).foldl withF (if (formF (ops.getD m op0).op).d=true then withoutF ((nextF ops m).foldl (orF al) 0) (ops.getD m op0).d else (nextF ops m).foldl (orF al) 0):=rfl
   rw[hla] at hso ⊢
   simp only[Int.toNat_natCast] at hok
   have hor:=orF_U hU (show ∀ q ∈ nextF ops m,q.toNat < al.length from fun q hq=>by have:=hkn q hq;omega) 0 hU0
   generalize ops.getD m op0=x at *
   have hus:(usesF x.op x.a x.b).length≤2:=by
    unfold usesF
    split <;> split <;> simp
   have hun:=uses_r hok
   have e39:=c39_eq x.op x.d x.a x.b x.n
   have e40:=c40_eq x.op x.d x.a x.b x.n
   generalize nextF ops m=ks at *
   generalize usesF x.op x.a x.b=us at *
   have hl:=loop30_7 (.ptr 1 (.box 27) []) ⟨.box 27,false,[(cd ops ints strs rels)]⟩ al ops.length m hal hlt hU ks hks hkn A k (by omega) ks.length 0 0
   have hl2:=fun s=>loop30_18 (.ptr 1 (.box 27) []) ⟨.box 27,false,[(cd ops ints strs rels)]⟩ (al.map eLive) ops.length m (by simpa using hal) hlt us hus hun A k us.length 0 s
   simp only[f30,sub,Option.getD_some,H30_7,H30_18,List.drop_zero] at hl hl2
   have hsa:∀ v,(List.map eLive al).set m (.ar 50 (bits8 fun i=>hasF v (i:Nat)))=List.map eLive (al.set m v):=fun v=>set_map eLive al m v
   simp only[go_sem,simprocAttr,h1,hni,hmi,hw,e50,e39,e40,hgo,H30_7,H30_18]
   rw[post_le (hl _ hU0 (by simp) (by simp only[go_sem,simprocAttr,hrow])) (by omega)]
   simp only[go_sem,simprocAttr,h1,hni,hmi,hw,e50,e39,e40,hgo,H30_7,H30_18]
   generalize ks.foldl (orF al) 0=s0 at *
   have hfin:∀ v,∀ i,i < m→(al.set m v).getD i 0=0:=fun v i hi=>by
    have:=hz i (by omega)
    simp only[List.getD,List.getElem?_set] at this ⊢
    rw[if_neg (by omega)];exact this
   have hUs:∀ v,U8 v→∀ a ∈ al.set m v,U8 a:=fun v hv a ha=>by
    rcases List.mem_or_eq_of_mem_set ha with h | rfl
    ·exact hU a h
    ·exact hv
   cases hd:(formF x.op).d
   ·rw[hd] at e39
    simp only[hd,BL] at e39 hso ⊢
    simp only[go_sem,simprocAttr,h1,hni,hmi,hw,e50,e39,e40,hgo,H30_7,H30_18]
    rw[post_le (hl2 s0 _ hor (by simp) (by simp only[go_sem,simprocAttr,hrow])) (by omega)]
    simp only[go_sem,simprocAttr,h1,hni,hmi,hw,e50,e39,e40,hgo,H30_7,H30_18]
    exact ih _ _ (by simpa using hal) (by omega) (hUs _ hso) (hfin _) (by simp only[go_sem,simprocAttr,hsa])
   ·rw[hd] at e39
    simp only[hd,BL] at e39 hso ⊢
    have hx0:=hok.d.1
    have hx8:x.d < (8:Int):=by have:=hok.d;omega
    have hgm:∀ Y,((List.map eLive al).set m Y)[m]? = some Y:=set_at (by simp;omega)
    have hg1:=bits8_get (fun i=>hasF s0 (i:Nat)) hok.d.2
    have hst:=without_bits hor hok.d
    have hlb:=bits8_len (fun i=>hasF s0 (i:Nat))
    have hUw:=without_U hor hok.d
    generalize withoutF s0 x.d=s1 at *
    simp only[go_sem,simprocAttr,h1,hni,hmi,hw,e39,e40,hgo,H30_18,hx0,hx8,hgm,hg1,hst,hlb,hal,List.set_set]
    rw[post_le (hl2 s1 _ hUw (by simp) (by simp only[go_sem,simprocAttr,hrow])) (by omega)]
    simp only[go_sem,simprocAttr,h1,hni,hmi,hw,e50,e39,e40,hgo,H30_7,H30_18]
    exact ih _ _ (by simpa using hal) (by omega) (hUs _ hso) (hfin _) (by simp only[go_sem,simprocAttr,hsa])
theorem run30 (hp:((ops.length≤100000∧ints.length≤100000∧strs.length≤100000∧rels.length≤100000)∧∀ r ∈ rels,r.str.size≤9223372036854775807∧r.mem.size≤9223372036854775807)∧checkF ops ints strs rels=true) :∃ r,wk r (.sl 50 gT ((workL ops).map eLive))∧∀ A,acall (env 95 9671701704822231006187519 D0 [(39,c39),(40,c40),(50,c50)] [] A) (H30) (600) f30 [(cd ops ints strs rels)]=some r:=by
 have hg:=check_good hp.2
 have hpos:=hg.pos
 have hlen:=hg.len
 have hroom:((ops.length:Int) * 8≤140737488355328)=True:=by simp;omega
 have hwl:IntKind.i64.wrap ((ops.length:Int) - 1)=(ops.length:Int) - 1:=wrap_i64 (by omega) (by omega)
 have hrep:(List.replicate ops.length (.ar 50 [.bool false,.bool false,.bool false,.bool false,.bool false,.bool false,.bool false,.bool false]):List AV)=(List.replicate ops.length (0:Int)).map eLive:=by rw[← eBits_0];simp
 have hl3:=fun A=>loop30_3 ops ints strs rels hp A 600 (by omega) ops.length (List.replicate ops.length 0)
 simp only[f30,sub,Option.getD_some,H30_3] at hl3
 have hll:=workL_len ops
 apply wkI
 ·intro A
  simp only[acall,macall,f30]
  simp only[go_sem,simprocAttr,hroom,hwl,hrep,hll,H30_3,litAll_rep]
  rw[post_le (hl3 A _ (by simp) (Nat.le_refl _) (fun a ha=>by simp at ha;rw[ha.2];unfold U8;omega) (fun i hi=>by simp[List.getD,hi]) (by simp only[go_sem,simprocAttr])) (by omega)]
  rw[show livesF ops ops.length (List.replicate ops.length 0)=workL ops from rfl]
  simp only[go_sem,simprocAttr,hroom,hwl,hrep,hll,H30_3,litAll_rep]
  rfl
 ·simp[WK,eOut,eCode]
noncomputable def c30:=famP (α:=(List XOp) × (List Int) × (List ByteArray) × (List XRel)) (fun (ops,ints,strs,rels)=>((ops.length≤100000∧ints.length≤100000∧strs.length≤100000∧rels.length≤100000)∧∀ r ∈ rels,r.str.size≤9223372036854775807∧r.mem.size≤9223372036854775807)∧checkF ops ints strs rels=true) (fun (ops,ints,strs,rels)=>[(cd ops ints strs rels)]) (fun (ops,ints,strs,rels)=> .sl 50 gT ((workL ops).map eLive))
theorem c30_eq (hp:((ops.length≤100000∧ints.length≤100000∧strs.length≤100000∧rels.length≤100000)∧∀ r ∈ rels,r.str.size≤9223372036854775807∧r.mem.size≤9223372036854775807)∧checkF ops ints strs rels=true):c30 [(cd ops ints strs rels)]=some (.sl 50 gT ((workL ops).map eLive)):=fam_eq (fun X Y hp hp' h'=>by
 obtain⟨ops,ints,strs,rels⟩:=X;obtain⟨ops',ints',strs',rels'⟩:=Y;simp only[INJ] at h'
 obtain⟨rfl,rfl,rfl,rfl⟩:=h'
 rfl) (ops,ints,strs,rels) hp
theorem snd30:Snd 30 c30:=fam_snd h30 rfl rfl fun (ops,ints,strs,rels) hp=>let ⟨_,hw,hr⟩:=run30 ops ints strs rels hp;(rc h30 hr (fun i=>match i with | 12=>[0,0,0,0,0,0,24,120,248,504,1016,1016,1016,7160,15352,1016,32760,131064,262136,524280,3,2097151,4194303] | 20=>[0,0,0,0,12,28,3,127,255] | _=>[]) rfl rfl rfl (by kernel_rfl) ⟨snd39,snd40,snd50,trivial⟩ trivial).weak hw
theorem h7:Tryz.prog.funcs[7]? = some f7:=by kernel_rfl
def H7:Nat→Hint:=fun i=>if i=13 then ({ tm:=[1,2,5,6,8,9,10,11,12,13,14],ob:=[2],fin:=some ([1,2,5,8,9,10,11,12,13],[2]) }:Hint) else if i=23 then ({ tm:=[1,5,8,9,11,13,15,16],ob:=[15],fin:=some ([5],[]) }:Hint) else { tm:=[],ob:=[] }
theorem H7_13:H7 13=({ tm:=[1,2,5,6,8,9,10,11,12,13,14],ob:=[2],fin:=some ([1,2,5,8,9,10,11,12,13],[2]) }:Hint):=by simp[H7]
theorem H7_23:H7 23=({ tm:=[1,5,8,9,11,13,15,16],ob:=[15],fin:=some ([5],[]) }:Hint):=by simp[H7]
theorem loop7_13 (q:Int) (v8 v9 v10 v11 v12:AV) (o2:Abs.Obj) (n:Nat) (s:List (List XFact) × List Bool) (hsh:Shape n s) (hn:n≤60) (A:Nat→Prop) (k:Nat):∀ (m i:Nat) (σ:St),i+m=n→
 σ.keep (H7 13)=⟨[(1,.int .i64 q),(2,.ptr 2 (.box 27) []),(5,.bool true),(6,.sl 4 gF (s.2.map eB)),(8,v8),(9,v9),(10,v10),(11,v11),(12,v12),(13,.sl 74 gT (stL s)),(14,.int .i64 i)],[(2,o2)]⟩→
 post (H7 13) (aloop ty (arun (env 190 392318858461667549111500130610435199988037383395494854647 D0 [(8,c8),(9,c9),(26,c26),(27,c27),(28,c28),(20,c20),(29,c29),(30,c30)] [] A) H7 k (sub (f7.body.getD .skip) [1,1,1,1,1,1,1,1,1,0,1,0,0])) (H7 13) (m+1) σ)=some (.exit 0,⟨[(1,.int .i64 q),(2,.ptr 2 (.box 27) []),(5,.bool true),(8,v8),(9,v9),(10,v10),(11,v11),(12,v12),(13,.sl 74 gT (stL s))],[(2,o2)]⟩):=by
 simp only[f7,sub,Option.getD_some,H7_13]
 intro m
 induction m with
 | zero=>
   intro i σ hi hσ
   have h1:¬ ((i:Int) < ((n:Nat):Int)):=by omega
   have hl2:=hsh.2.1
   rw[aloop,hσ]
   simp only[go_sem,simprocAttr,h1,hl2]
   simp[post,St.fin,keepL,aget]
 | succ m ih=>
   intro i σ hi hσ
   have h1:(i:Int) < ((n:Nat):Int):=by omega
   have hlt:i < n:=by omega
   have hni:(0:Int)≤(i:Int):=Int.natCast_nonneg i
   have hw:IntKind.i64.wrap ((i:Int)+1)=((i+1:Nat):Int):=wrap_nat (by omega)
   have hll:=stL_len hsh
   have hl2:=hsh.2.1
   have hgs:=stL_get hsh hlt
   have hgr:=getD_get (d:=false) (show i < s.2.length by omega)
   simp only[eStateR] at hgs
   generalize s.2.getD i false=r at *
   rw[aloop,hσ]
   cases r
   all_goals
    simp only[go_sem,simprocAttr,h1,hni,hw,hll,hl2,hgs,hgr,eStateR,bne]
    exact ih (i+1) _ (by omega) (by simp only[go_sem,simprocAttr])
theorem loop7_23 (q:Int) (n:Nat) (s:List (List XFact) × List Bool) (hsh:Shape n s) (h0:0≤q) (hq:q.toNat < n) (g:Nat→Bool) (ns:List Int) (is lv:List Bool) (hns:ns.length=8) (his:is.length=8) (hlv:lv.length=8) (hv:∀ i,i < 8→is.getD i false=((factAt s.1 q (i:Nat)).sort==1&&s.2.getD q.toNat false)∧ns.getD i 0=(if is.getD i false=true then (factAt s.1 q (i:Nat)).n else 0)∧lv.getD i false=g i) (A:Nat→Prop) (k:Nat):∀ (m i:Nat) (σ:St),i+m=8→
 σ.keep (H7 23)=⟨[(1,.int .i64 q),(5,.bool true),(8,.sl 2 gT (ns.map eI)),(9,.sl 4 gT (is.map eB)),(11,.sl 4 gT (lv.map eB)),(13,.sl 74 gT (stL s)),(15,.ptr 15 (.box 50) []),(16,.int .i64 i)],[(15,⟨.box 50,true,[.ar 50 (bits8 g)]⟩)]⟩→
 post (H7 23) (aloop ty (arun (env 190 392318858461667549111500130610435199988037383395494854647 D0 [(8,c8),(9,c9),(26,c26),(27,c27),(28,c28),(20,c20),(29,c29),(30,c30)] [] A) H7 k (sub (f7.body.getD .skip) [1,1,1,1,1,1,1,1,1,1,1,1,1,0,1,0,0])) (H7 23) (m+1) σ)=some (.exit 2,⟨[(5,.bool true)],[]⟩):=by
 simp only[f7,sub,Option.getD_some,H7_23]
 intro m
 induction m with
 | zero=>
   intro i σ hi hσ
   have h1:¬ ((i:Int) < (8:Int)):=by omega
   rw[aloop,hσ]
   simp only[go_sem,simprocAttr,h1]
   simp[post,St.fin,keepL,aget]
 | succ m ih=>
   intro i σ hi hσ
   have h1:(i:Int) < (8:Int):=by omega
   have hlt:i < 8:=by omega
   have hni:(0:Int)≤(i:Int):=Int.natCast_nonneg i
   have hw:IntKind.i64.wrap ((i:Int)+1)=((i+1:Nat):Int):=wrap_nat (by omega)
   have h1c:(i:Int) < (8:Int):=h1
   have hll:=stL_len hsh
   have hqi:q < (n:Int):=by omega
   have hgs:=stL_get hsh hq
   have hb8:=hsh.get hq
   have hgf:=getD_get (d:=(⟨0,0⟩:XFact)) (show i < (s.1.getD q.toNat []).length by omega)
   have hg1:=getD_get (d:=(0:Int)) (show i < ns.length by omega)
   have hg2:=getD_get (d:=false) (show i < is.length by omega)
   have hg3:=getD_get (d:=false) (show i < lv.length by omega)
   have hg4:=bits8_get g hlt
   have hlb:=bits8_len g
   obtain⟨k1,k2,k3⟩:=hv i hlt
   simp only[factAt,Int.toNat_natCast] at k1 k2
   simp only[eStateR] at hgs
   generalize (s.1.getD q.toNat []).getD i ⟨0,0⟩=x at *
   generalize s.1.getD q.toNat []=f at *
   generalize s.2.getD q.toNat false=r at *
   rw[k3] at hg3
   rw[k2,k1] at hg1
   rw[k1] at hg2
   rw[aloop,hσ]
   cases r <;> cases hk:(x.sort==1) <;> cases hg:g i
   all_goals
    simp only[hk,hg,BL] at hg1 hg2 hg3 hg4
    simp only[go_sem,simprocAttr,h1,h1c,hni,hw,hll,hqi,h0,hgs,hb8,hgf,hg1,hg2,hg3,hg4,hlb,hns,his,hlv,eFactR,eStateR,hk,bne]
    exact ih (i+1) _ (by omega) (by simp only[go_sem,simprocAttr])
theorem run7 (q:Int) (hp:(∀ s ∈ strs,s.size≤9223372036854775807)∧∀ r ∈ rels,r.str.size≤9223372036854775807∧r.mem.size≤9223372036854775807) (A:Nat→Prop):acall (env 190 392318858461667549111500130610435199988037383395494854647 D0 [(8,c8),(9,c9),(26,c26),(27,c27),(28,c28),(20,c20),(29,c29),(30,c30)] [] A) (H7) (200) f7 [(cd ops ints strs rels),.int .i64 q]=some (.bool true):=by
 have e9:=c9_eq ops ints strs rels
 have hl60:(decide (ops.length≤60)&&(decide (ints.length≤60)&&(decide (strs.length≤60)&&decide (rels.length≤60))))=true→ops.length≤60∧ints.length≤60∧strs.length≤60∧rels.length≤60:=fun h=>by simpa using h
 generalize (decide (ops.length≤60)&&(decide (ints.length≤60)&&(decide (strs.length≤60)&&decide (rels.length≤60))))=sh at *
 cases sh
 ·simp only[acall,macall,f7]
  simp only[go_sem,simprocAttr,c8_eq,e9,H7_13,H7_23]
  try rfl
 have hl:=hl60 rfl
 have hlim:ops.length≤100000∧ints.length≤100000∧strs.length≤100000∧rels.length≤100000:=by omega
 have e26:=c26_eq ops ints strs rels ⟨hlim,hp.2⟩
 have e27:=c27_eq ops ints strs rels q ⟨hlim,hp.2⟩
 have e28:=c28_eq ops ints strs rels q ⟨hlim,hp.2⟩
 have e20:=c20_eq ops ints strs rels ⟨hlim,hp⟩
 cases hc:checkF ops ints strs rels
 ·rw[hc] at e26 e27 e28 e20
  simp only[reachedEF,knownEF,liveEF,errF,List.map_nil,BL] at e26 e27 e28 e20
  simp only[acall,macall,f7]
  simp only[go_sem,simprocAttr,c8_eq,e9,H7_13,H7_23,e26,e27,e28,e20]
  try rfl
 have e29:=c29_eq ops ints strs rels ⟨⟨hlim,hp.2⟩,hc⟩
 have e30:=c30_eq ops ints strs rels ⟨⟨hlim,hp.2⟩,hc⟩
 have hg:=check_good hc
 have hsh:=shape_work (ints:=ints) (rels:=rels) hg
 have hll:=stL_len hsh
 have hl2:=hsh.2.1
 have hwl:=workL_len ops
 rw[hc] at e26 e27 e28 e20
 simp only[reachedEF,knownEF,liveEF,errF,BL] at e26 e27 e28 e20
 have hl13:=fun v8 v9 v10 v11 v12 o2=>loop7_13 q v8 v9 v10 v11 v12 o2 ops.length (workS ops ints rels) hsh hl.1 A 200 ops.length 0
 simp only[f7,sub,Option.getD_some,H7_13] at hl13
 cases d1:decide (q < 0)
 rotate_left
 ·simp only[d1,List.map_nil,BL] at e27 e28
  simp only[acall,macall,f7]
  simp only[go_sem,simprocAttr,c8_eq,e9,H7_13,H7_23,e26,e27,e28,e20,e29,hll,hl2,d1,d2]
  rw[post_le (hl13 (.sl 2 gT []) (.sl 4 gT []) (.int .i64 1) (.sl 4 gT []) (.int .i64 1) ⟨.box 27,false,[(cd ops ints strs rels)]⟩ _ (by simp) (by simp only[go_sem,simprocAttr])) (by omega)]
  simp only[go_sem,simprocAttr,c8_eq,e9,H7_13,H7_23,e26,e27,e28,e20,e29,hll,hl2,d1,d2]
  try rfl
 cases d2:decide ((ops.length:Int)≤q)
 rotate_left
 ·simp only[d1,d2,List.map_nil,BL] at e27 e28
  simp only[acall,macall,f7]
  simp only[go_sem,simprocAttr,c8_eq,e9,H7_13,H7_23,e26,e27,e28,e20,e29,hll,hl2,d1,d2]
  rw[post_le (hl13 (.sl 2 gT []) (.sl 4 gT []) (.int .i64 1) (.sl 4 gT []) (.int .i64 1) ⟨.box 27,false,[(cd ops ints strs rels)]⟩ _ (by simp) (by simp only[go_sem,simprocAttr])) (by omega)]
  simp only[go_sem,simprocAttr,c8_eq,e9,H7_13,H7_23,e26,e27,e28,e20,e29,hll,hl2,d1,d2]
  try rfl
 simp only[d1,d2,BL] at e27 e28
 have h0:0≤q:=by simp at d1;omega
 have hq:q.toNat < ops.length:=by simp at d2;omega
 have hqi:q < (ops.length:Int):=by omega
 have hgl:=liveL_get (show q.toNat < (workL ops).length by omega)
 have hvv:∀ i,i < 8→((List.range 8).map (knownAt ops ints rels q)).getD i false=((factAt (workS ops ints rels).1 q (i:Nat)).sort==1&&(workS ops ints rels).2.getD q.toNat false)∧
  ((List.range 8).map (knownN ops ints rels q)).getD i 0=(if ((List.range 8).map (knownAt ops ints rels q)).getD i false=true then (factAt (workS ops ints rels).1 q (i:Nat)).n else 0)∧
  ((List.range 8).map (liveAtF ops q)).getD i false=hasF ((workL ops).getD q.toNat 0) (i:Nat):=fun i hi=>by
  have r8:(List.range 8)[i]? = some i:=by rw[List.getElem?_range hi]
  refine⟨?_,?_,?_⟩ <;> simp only[List.getD,List.getElem?_map,r8,Option.map_some,Option.getD_some] <;> rfl
 have hl23:=fun ns is lv a b c d=>loop7_23 q ops.length (workS ops ints rels) hsh h0 hq (fun i=>hasF ((workL ops).getD q.toNat 0) (i:Nat)) ns is lv a b c d A 200 8 0
 simp only[f7,sub,Option.getD_some,H7_23] at hl23
 have n1:((List.range 8).map (knownN ops ints rels q)).length=8:=by simp
 have n2:((List.range 8).map (knownAt ops ints rels q)).length=8:=by simp
 have n3:((List.range 8).map (liveAtF ops q)).length=8:=by simp
 generalize (List.range 8).map (knownN ops ints rels q)=ns at *
 generalize (List.range 8).map (knownAt ops ints rels q)=is at *
 generalize (List.range 8).map (liveAtF ops q)=lv at *
 simp only[acall,macall,f7]
 simp only[go_sem,simprocAttr,c8_eq,e9,H7_13,H7_23,e26,e27,e28,e20,e29,e30,hll,hl2,hwl,d1,d2,n1,n2,n3,h0,hqi,hgl,eLive,eBits]
 rw[post_le (hl13 (.sl 2 gT (ns.map eI)) (.sl 4 gT (is.map eB)) (.int .i64 0) (.sl 4 gT (lv.map eB)) (.int .i64 0) ⟨.box 27,false,[(cd ops ints strs rels)]⟩ _ (by simp) (by simp only[go_sem,simprocAttr])) (by omega)]
 simp only[go_sem,simprocAttr,c8_eq,e9,H7_13,H7_23,e26,e27,e28,e20,e29,e30,hll,hl2,hwl,d1,d2,n1,n2,n3,h0,hqi,hgl,eLive,eBits]
 rw[post_le (hl23 ns is lv n1 n2 n3 hvv _ (by simp) (by simp only[go_sem,simprocAttr])) (by omega)]
 simp only[go_sem,simprocAttr,c8_eq,e9,H7_13,H7_23,e26,e27,e28,e20,e29,e30,hll,hl2,hwl,d1,d2,n1,n2,n3,h0,hqi,hgl,eLive,eBits]
 try rfl
noncomputable def c7:=famP (α:=(List XOp) × (List Int) × (List ByteArray) × (List XRel) × Int) (fun (ops,ints,strs,rels,q)=>(∀ s ∈ strs,s.size≤9223372036854775807)∧∀ r ∈ rels,r.str.size≤9223372036854775807∧r.mem.size≤9223372036854775807) (fun (ops,ints,strs,rels,q)=>[(cd ops ints strs rels),.int .i64 q]) (fun (ops,ints,strs,rels,q)=> .bool true)
theorem c7_eq (q:Int) (hp:(∀ s ∈ strs,s.size≤9223372036854775807)∧∀ r ∈ rels,r.str.size≤9223372036854775807∧r.mem.size≤9223372036854775807):c7 [(cd ops ints strs rels),.int .i64 q]=some (.bool true):=fam_eq (fun _ _ _ _ _=>rfl) (ops,ints,strs,rels,q) hp
theorem snd7:Snd 7 c7:=fam_snd h7 rfl rfl fun (ops,ints,strs,rels,q) hp=>rc h7 (fun A=>run7 ops ints strs rels q hp A) (fun i=>match i with | 15=>[0,0,3,7,0,0,48,112,240,511] | 27=>[0,0,3,7,0,31,63,127,255,511,511,2047,4095,511,8703,32767,65535,131071,262143,524287,1048575,2097151,4194303,4194303,16777215,33554431,67108863,134217727,268435455,536870911,1073741823,1073741823,4294967295,8589934591,1073741823,18253611007,52613349375,137438953471,274877906943] | _=>[]) rfl rfl rfl (by kernel_rfl) ⟨snd8,snd9,snd26,snd27,snd28,snd20,snd29,snd30,trivial⟩ trivial
end Go.Proofs.Tryz
end
