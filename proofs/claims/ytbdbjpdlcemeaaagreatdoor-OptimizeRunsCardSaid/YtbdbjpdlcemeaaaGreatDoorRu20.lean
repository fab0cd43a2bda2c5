/- A part of a proof. -/
import Derived.Test.YtbdbjpdlcemeaaaGreatDoorRu16
import Derived.Test.YtbdbjpdlcemeaaaGreatDoorRu18
set_option linter.unusedSimpArgs false
set_option linter.unusedVariables false
section
set_option maxHeartbeats 4000000
set_option maxRecDepth 20000
namespace Go.Proofs.Tryz
open Go Go.Abs
variable (N : List bp) (V : List Int) (I : List ByteArray) (U : List aP) (ao : List (List aB)) (aj : List Bool) (au : List Int)
def Pz (f:aB) (v:Int):Bool:=f.sort==1&&f.n==v
def Ff (o:Int):Bool:=(o==4 || o==12) || o==13
def PA (o:Int):Bool:=(o==14 || o==15) || o==16
def sr (o:Int) (b0 b1 bm s h:Bool):Bool:=((b0&&((s || h) || o==5)) || (b1&&((o==6 || o==7) || o==8))) || (bm&&o==11)
def yK (o:Int) (a0 a1 am s:Bool):Bool:=((a0&&s) || (a1&&o==6)) || (am&&o==11)
def mL (o:Int) (a0 b0 b1 e:Bool):Bool:=(((a0 || b0)&&(o==6 || o==11)) || (b1&&(o==9 || o==10))) || (e&&(o==5 || o==13))
def oA (N:List bp) (V:List Int) (I:List ByteArray) (U:List aP) (q:Int) (b:Bool) (f:List aB):aL × Bool:=
 let o:=N.getD q.toNat bD
 let fa:=f.getD o.a.toNat ⟨0,0⟩
 let fb:=f.getD o.b.toNat ⟨0,0⟩
 if ((!b || !(iG o.op)) || !(a7 o.op).b)=true then eN
 else if sr o.op (Pz fb 0) (Pz fb 1) (Pz fb (-1)) (Ff o.op) (PA o.op)=true then sg N V I U q o.a
 else if yK o.op (Pz fa 0) (Pz fa 1) (Pz fa (-1)) (Ff o.op)=true then sg N V I U q o.b
 else if mL o.op (Pz fa 0) (Pz fb 0) (Pz fb 1) (o.a==o.b)=true then oz N V I U q 0
 else eN
theorem h71:Q 71=some f71:=by kernel_rfl
theorem PB (o:Int) (b0 b1 bm a0 a1 am:Bool) (v9 v8 y_ v6 v5 v3 v0 v1 v2:AV) (ob:List (Nat × Abs.Obj)) (A:NP):a9 (env 194 784637716923424298470901624359803771869115481036027330543 D0 [(101,Cw),(42,CG),(106,CA),(103,Cz)] [] A) (fun _=>{ tm:=[],ob:=[] }) 5 (sub (f71.body.getD .skip) [1,1,1,1,1,1,1,1,1,1,1,1,0]) ⟨[(16,J o),(15,.bool bm),(14,.bool b1),(13,.bool b0),(12,.bool am),(11,.bool a1),(10,.bool a0),(9,v9),(8,v8),(39,y_),(7,pb 7 80),(6,v6),(5,v5),(3,v3),(0,v0),(1,v1),(2,v2)],ob⟩=some (.norm,⟨(17,.bool (Ff o))::[(16,J o),(15,.bool bm),(14,.bool b1),(13,.bool b0),(12,.bool am),(11,.bool a1),(10,.bool a0),(9,v9),(8,v8),(39,y_),(7,pb 7 80),(6,v6),(5,v5),(3,v3),(0,v0),(1,v1),(2,v2)],ob⟩):=by
 simp only[f71,sub,Option.getD_some];cases h4:(o==4)
 ·cases mX:(o==12)
  ·cases ij:(o==13)
   ·simp only[Ff,h4,mX,ij,BL];simp only[go_sem,h4,mX,ij];try rfl
   ·simp only[Ff,h4,mX,ij,BL];simp only[go_sem,h4,mX,ij];try rfl
  ·simp only[Ff,h4,mX,BL];simp only[go_sem,h4,mX];try rfl
 ·simp only[Ff,h4,BL];simp only[go_sem,h4];try rfl
theorem PC (o:Int) (b0 b1 bm a0 a1 am:Bool) (v9 v8 y_ v6 v5 v3 v0 v1 v2:AV) (ob:List (Nat × Abs.Obj)) (v17:AV) (A:NP):a9 (env 194 784637716923424298470901624359803771869115481036027330543 D0 [(101,Cw),(42,CG),(106,CA),(103,Cz)] [] A) (fun _=>{ tm:=[],ob:=[] }) 5 (sub (f71.body.getD .skip) [1,1,1,1,1,1,1,1,1,1,1,1,1,0]) ⟨[(17,v17),(16,J o),(15,.bool bm),(14,.bool b1),(13,.bool b0),(12,.bool am),(11,.bool a1),(10,.bool a0),(9,v9),(8,v8),(39,y_),(7,pb 7 80),(6,v6),(5,v5),(3,v3),(0,v0),(1,v1),(2,v2)],ob⟩=some (.norm,⟨(18,.bool (PA o))::[(17,v17),(16,J o),(15,.bool bm),(14,.bool b1),(13,.bool b0),(12,.bool am),(11,.bool a1),(10,.bool a0),(9,v9),(8,v8),(39,y_),(7,pb 7 80),(6,v6),(5,v5),(3,v3),(0,v0),(1,v1),(2,v2)],ob⟩):=by
 simp only[f71,sub,Option.getD_some];cases mf:(o==14)
 ·cases nj:(o==15)
  ·cases mg:(o==16)
   ·simp only[PA,mf,nj,mg,BL];simp only[go_sem,mf,nj,mg];try rfl
   ·simp only[PA,mf,nj,mg,BL];simp only[go_sem,mf,nj,mg];try rfl
  ·simp only[PA,mf,nj,BL];simp only[go_sem,mf,nj];try rfl
 ·simp only[PA,mf,BL];simp only[go_sem,mf];try rfl
theorem PD (o:Int) (b0 b1 bm a0 a1 am:Bool) (v9 v8 y_ v6 v5 v3 v0 v1 v2:AV) (ob:List (Nat × Abs.Obj)) (s h:Bool) (A:NP):a9 (env 194 784637716923424298470901624359803771869115481036027330543 D0 [(101,Cw),(42,CG),(106,CA),(103,Cz)] [] A) (fun _=>{ tm:=[],ob:=[] }) 5 (sub (f71.body.getD .skip) [1,1,1,1,1,1,1,1,1,1,1,1,1,1,0,0]) ⟨[(18,.bool h),(17,.bool s),(16,J o),(15,.bool bm),(14,.bool b1),(13,.bool b0),(12,.bool am),(11,.bool a1),(10,.bool a0),(9,v9),(8,v8),(39,y_),(7,pb 7 80),(6,v6),(5,v5),(3,v3),(0,v0),(1,v1),(2,v2)],ob⟩=some (.norm,⟨(123,.bool (sr o b0 b1 bm s h))::[(18,.bool h),(17,.bool s),(16,J o),(15,.bool bm),(14,.bool b1),(13,.bool b0),(12,.bool am),(11,.bool a1),(10,.bool a0),(9,v9),(8,v8),(39,y_),(7,pb 7 80),(6,v6),(5,v5),(3,v3),(0,v0),(1,v1),(2,v2)],ob⟩):=by
 simp only[f71,sub,Option.getD_some];cases b0
 ·cases b1
  ·cases bm
   ·simp only[sr,BL];simp only[go_sem,lZ];try rfl
   ·cases cT:(o==11)
    ·simp only[sr,cT,BL];simp only[go_sem,cT];try rfl
    ·simp only[sr,cT,BL];simp only[go_sem,cT];try rfl
  ·cases h6:(o==6)
   ·cases h7:(o==7)
    ·cases h8:(o==8)
     ·cases bm
      ·simp only[sr,h6,h7,h8,BL];simp only[go_sem,h6,h7,h8];try rfl
      ·cases cT:(o==11)
       ·simp only[sr,h6,h7,h8,cT,BL];simp only[go_sem,h6,h7,h8,cT];try rfl
       ·simp only[sr,h6,h7,h8,cT,BL];simp only[go_sem,h6,h7,h8,cT];try rfl
     ·simp only[sr,h6,h7,h8,BL];simp only[go_sem,h6,h7,h8];try rfl
    ·simp only[sr,h6,h7,BL];simp only[go_sem,h6,h7];try rfl
   ·simp only[sr,h6,BL];simp only[go_sem,h6];try rfl
 ·cases s
  ·cases h
   ·cases h5:(o==5)
    ·cases b1
     ·cases bm
      ·simp only[sr,h5,BL];simp only[go_sem,h5];try rfl
      ·cases cT:(o==11)
       ·simp only[sr,h5,cT,BL];simp only[go_sem,h5,cT];try rfl
       ·simp only[sr,h5,cT,BL];simp only[go_sem,h5,cT];try rfl
     ·cases h6:(o==6)
      ·cases h7:(o==7)
       ·cases h8:(o==8)
        ·cases bm
         ·simp only[sr,h5,h6,h7,h8,BL];simp only[go_sem,h5,h6,h7,h8];try rfl
         ·cases cT:(o==11)
          ·simp only[sr,h5,h6,h7,h8,cT,BL];simp only[go_sem,h5,h6,h7,h8,cT];try rfl
          ·simp only[sr,h5,h6,h7,h8,cT,BL];simp only[go_sem,h5,h6,h7,h8,cT];try rfl
        ·simp only[sr,h5,h6,h7,h8,BL];simp only[go_sem,h5,h6,h7,h8];try rfl
       ·simp only[sr,h5,h6,h7,BL];simp only[go_sem,h5,h6,h7];try rfl
      ·simp only[sr,h5,h6,BL];simp only[go_sem,h5,h6];try rfl
    ·simp only[sr,h5,BL];simp only[go_sem,h5];try rfl
   ·simp only[sr,BL];simp only[go_sem,lZ];try rfl
  ·simp only[sr,BL];simp only[go_sem,lZ];try rfl
theorem PE (o:Int) (b0 b1 bm a0 a1 am:Bool) (v9 v8 y_ v6 v5 v3 v0 v1 v2:AV) (ob:List (Nat × Abs.Obj)) (s:Bool) (v18 w1:AV) (A:NP):a9 (env 194 784637716923424298470901624359803771869115481036027330543 D0 [(101,Cw),(42,CG),(106,CA),(103,Cz)] [] A) (fun _=>{ tm:=[],ob:=[] }) 5 (sub (f71.body.getD .skip) [1,1,1,1,1,1,1,1,1,1,1,1,1,1,1,0,0]) ⟨[(123,w1),(18,v18),(17,.bool s),(16,J o),(15,.bool bm),(14,.bool b1),(13,.bool b0),(12,.bool am),(11,.bool a1),(10,.bool a0),(9,v9),(8,v8),(39,y_),(7,pb 7 80),(6,v6),(5,v5),(3,v3),(0,v0),(1,v1),(2,v2)],ob⟩=some (.norm,⟨(146,.bool (yK o a0 a1 am s))::[(123,w1),(18,v18),(17,.bool s),(16,J o),(15,.bool bm),(14,.bool b1),(13,.bool b0),(12,.bool am),(11,.bool a1),(10,.bool a0),(9,v9),(8,v8),(39,y_),(7,pb 7 80),(6,v6),(5,v5),(3,v3),(0,v0),(1,v1),(2,v2)],ob⟩):=by
 simp only[f71,sub,Option.getD_some];cases a0
 ·cases a1
  ·cases am
   ·simp only[yK,BL];simp only[go_sem,lZ];try rfl
   ·cases cT:(o==11)
    ·simp only[yK,cT,BL];simp only[go_sem,cT];try rfl
    ·simp only[yK,cT,BL];simp only[go_sem,cT];try rfl
  ·cases h6:(o==6)
   ·cases am
    ·simp only[yK,h6,BL];simp only[go_sem,h6];try rfl
    ·cases cT:(o==11)
     ·simp only[yK,h6,cT,BL];simp only[go_sem,h6,cT];try rfl
     ·simp only[yK,h6,cT,BL];simp only[go_sem,h6,cT];try rfl
   ·simp only[yK,h6,BL];simp only[go_sem,h6];try rfl
 ·cases s
  ·cases a1
   ·cases am
    ·simp only[yK,BL];simp only[go_sem,lZ];try rfl
    ·cases cT:(o==11)
     ·simp only[yK,cT,BL];simp only[go_sem,cT];try rfl
     ·simp only[yK,cT,BL];simp only[go_sem,cT];try rfl
   ·cases h6:(o==6)
    ·cases am
     ·simp only[yK,h6,BL];simp only[go_sem,h6];try rfl
     ·cases cT:(o==11)
      ·simp only[yK,h6,cT,BL];simp only[go_sem,h6,cT];try rfl
      ·simp only[yK,h6,cT,BL];simp only[go_sem,h6,cT];try rfl
    ·simp only[yK,h6,BL];simp only[go_sem,h6];try rfl
  ·simp only[yK,BL];simp only[go_sem,lZ];try rfl
theorem PF (o d a b n:Int) (b0 b1 bm a0 a1 am:Bool) (v9 v8 y_ v6 v5 v3 v0 v1 v2:AV) (o9 o8 o6 o5 o3:Abs.Obj) (v17 v18 w1 w2:AV) (A:NP):a9 (env 194 784637716923424298470901624359803771869115481036027330543 D0 [(101,Cw),(42,CG),(106,CA),(103,Cz)] [] A) (fun _=>{ tm:=[],ob:=[] }) 5 (sub (f71.body.getD .skip) [1,1,1,1,1,1,1,1,1,1,1,1,1,1,1,1,0,0]) ⟨[(146,w2),(123,w1),(18,v18),(17,v17),(16,J o),(15,.bool bm),(14,.bool b1),(13,.bool b0),(12,.bool am),(11,.bool a1),(10,.bool a0),(9,v9),(8,v8),(39,y_),(7,pb 7 80),(6,v6),(5,v5),(3,v3),(0,v0),(1,v1),(2,v2)],[(9,o9),(8,o8),(7,⟨.box 80,true,[.st 80 [J o,J d,J a,J b,J n]]⟩),(6,o6),(5,o5),(3,o3)]⟩=some (.norm,⟨(189,.bool (mL o a0 b0 b1 (a==b)))::[(146,w2),(123,w1),(18,v18),(17,v17),(16,J o),(15,.bool bm),(14,.bool b1),(13,.bool b0),(12,.bool am),(11,.bool a1),(10,.bool a0),(9,v9),(8,v8),(39,y_),(7,pb 7 80),(6,v6),(5,v5),(3,v3),(0,v0),(1,v1),(2,v2)],[(9,o9),(8,o8),(7,⟨.box 80,true,[.st 80 [J o,J d,J a,J b,J n]]⟩),(6,o6),(5,o5),(3,o3)]⟩):=by
 simp only[f71,sub,Option.getD_some];cases a0
 ·cases b0
  ·cases b1
   ·cases e:(a==b)
    ·simp only[mL,e,BL];simp only[go_sem,e];try rfl
    ·cases h5:(o==5)
     ·cases ij:(o==13)
      ·simp only[mL,e,h5,ij,BL];simp only[go_sem,e,h5,ij];try rfl
      ·simp only[mL,e,h5,ij,BL];simp only[go_sem,e,h5,ij];try rfl
     ·simp only[mL,e,h5,BL];simp only[go_sem,e,h5];try rfl
   ·cases h9:(o==9)
    ·cases dR:(o==10)
     ·cases e:(a==b)
      ·simp only[mL,h9,dR,e,BL];simp only[go_sem,h9,dR,e];try rfl
      ·cases h5:(o==5)
       ·cases ij:(o==13)
        ·simp only[mL,h9,dR,e,h5,ij,BL];simp only[go_sem,h9,dR,e,h5,ij];try rfl
        ·simp only[mL,h9,dR,e,h5,ij,BL];simp only[go_sem,h9,dR,e,h5,ij];try rfl
       ·simp only[mL,h9,dR,e,h5,BL];simp only[go_sem,h9,dR,e,h5];try rfl
     ·simp only[mL,h9,dR,BL];simp only[go_sem,h9,dR];try rfl
    ·simp only[mL,h9,BL];simp only[go_sem,h9];try rfl
  ·cases h6:(o==6)
   ·cases cT:(o==11)
    ·cases b1
     ·cases e:(a==b)
      ·simp only[mL,h6,cT,e,BL];simp only[go_sem,h6,cT,e];try rfl
      ·cases h5:(o==5)
       ·cases ij:(o==13)
        ·simp only[mL,h6,cT,e,h5,ij,BL];simp only[go_sem,h6,cT,e,h5,ij];try rfl
        ·simp only[mL,h6,cT,e,h5,ij,BL];simp only[go_sem,h6,cT,e,h5,ij];try rfl
       ·simp only[mL,h6,cT,e,h5,BL];simp only[go_sem,h6,cT,e,h5];try rfl
     ·cases h9:(o==9)
      ·cases dR:(o==10)
       ·cases e:(a==b)
        ·simp only[mL,h6,cT,h9,dR,e,BL];simp only[go_sem,h6,cT,h9,dR,e];try rfl
        ·cases h5:(o==5)
         ·cases ij:(o==13)
          ·simp only[mL,h6,cT,h9,dR,e,h5,ij,BL];simp only[go_sem,h6,cT,h9,dR,e,h5,ij];try rfl
          ·simp only[mL,h6,cT,h9,dR,e,h5,ij,BL];simp only[go_sem,h6,cT,h9,dR,e,h5,ij];try rfl
         ·simp only[mL,h6,cT,h9,dR,e,h5,BL];simp only[go_sem,h6,cT,h9,dR,e,h5];try rfl
       ·simp only[mL,h6,cT,h9,dR,BL];simp only[go_sem,h6,cT,h9,dR];try rfl
      ·simp only[mL,h6,cT,h9,BL];simp only[go_sem,h6,cT,h9];try rfl
    ·simp only[mL,h6,cT,BL];simp only[go_sem,h6,cT];try rfl
   ·simp only[mL,h6,BL];simp only[go_sem,h6];try rfl
 ·cases h6:(o==6)
  ·cases cT:(o==11)
   ·cases b1
    ·cases e:(a==b)
     ·simp only[mL,h6,cT,e,BL];simp only[go_sem,h6,cT,e];try rfl
     ·cases h5:(o==5)
      ·cases ij:(o==13)
       ·simp only[mL,h6,cT,e,h5,ij,BL];simp only[go_sem,h6,cT,e,h5,ij];try rfl
       ·simp only[mL,h6,cT,e,h5,ij,BL];simp only[go_sem,h6,cT,e,h5,ij];try rfl
      ·simp only[mL,h6,cT,e,h5,BL];simp only[go_sem,h6,cT,e,h5];try rfl
    ·cases h9:(o==9)
     ·cases dR:(o==10)
      ·cases e:(a==b)
       ·simp only[mL,h6,cT,h9,dR,e,BL];simp only[go_sem,h6,cT,h9,dR,e];try rfl
       ·cases h5:(o==5)
        ·cases ij:(o==13)
         ·simp only[mL,h6,cT,h9,dR,e,h5,ij,BL];simp only[go_sem,h6,cT,h9,dR,e,h5,ij];try rfl
         ·simp only[mL,h6,cT,h9,dR,e,h5,ij,BL];simp only[go_sem,h6,cT,h9,dR,e,h5,ij];try rfl
        ·simp only[mL,h6,cT,h9,dR,e,h5,BL];simp only[go_sem,h6,cT,h9,dR,e,h5];try rfl
      ·simp only[mL,h6,cT,h9,dR,BL];simp only[go_sem,h6,cT,h9,dR];try rfl
     ·simp only[mL,h6,cT,h9,BL];simp only[go_sem,h6,cT,h9];try rfl
   ·simp only[mL,h6,cT,BL];simp only[go_sem,h6,cT];try rfl
  ·simp only[mL,h6,BL];simp only[go_sem,h6];try rfl
theorem aie (q:Int) (b:Bool) (f:List aB) (hp:RW N V I U q f) :∃ r,wk r (aT (oA N V I U q b f))∧∀ A,ak (env 194 784637716923424298470901624359803771869115481036027330543 D0 [(101,Cw),(42,CG),(106,CA),(103,Cz)] [] A) hN (5) f71 [(cd N V I U),J q,aC b f]=some r:=by
 obtain⟨hl,i200,h0,aR,f8,⟨⟨cv,gV⟩,⟨dJ,jM⟩,⟨yJ,rV⟩⟩,GY,CB,CC,FE,hrn⟩:=hp;have aO:q < (N.length:Int):=by omega
 have aw:=aD (d:=bD) aR;have fj:IntKind.i64.wrap (q+1)=q+1:=wrap_i64 (by omega) (by omega);have EW:=fun n=>lZ N V I U q n ⟨hl,⟨h0,aR⟩,GY⟩
 have vv:=fun a=>Jj N V I U q a ⟨hl,h0,aR⟩
 have EX:=PB;have EY:=PC;have EZ:=PD;have E1:=PE;have E2:=PF;simp only[f71,sub,Option.getD_some] at EX EY EZ E1 E2;unfold oA Pz;dsimp only;generalize N.getD q.toNat bD=x at *;have nt:x.a < (8:Int):=by omega
 have iJ:x.b < (8:Int):=by omega
 have cq:=aD (d:=(⟨0,0⟩:aB)) (show x.a.toNat < f.length by omega);have cu:=aD (d:=(⟨0,0⟩:aB)) (show x.b.toNat < f.length by omega);have hfa:=FE _ (eP (show x.a.toNat < f.length by omega));have Ux:=FE _ (eP (show x.b.toNat < f.length by omega));generalize f.getD x.a.toNat ⟨0,0⟩=fa at *;generalize f.getD x.b.toNat ⟨0,0⟩=fb at *;have jv:=fV x.op;have qi:=Jg x.op;simp only[aT,ax] at EW vv;cases b
 ·simp only[BL];apply bu
  ·intro A;simp only[ak,ai,f71];simp only[go_sem,qi,jv,bw,aw,h0,aO,fj,EX,EY,EZ,E1,E2,f8,cv,gV,nt,dJ,jM,iJ,cq,cu,aC,aV];try rfl
  ·simp[WK,aT,ax,eN]
 ·cases al:iG x.op
  ·simp only[al,BL];apply bu
   ·intro A;simp only[ak,ai,f71];simp only[go_sem,al,qi,jv,bw,aw,h0,aO,fj,EX,EY,EZ,E1,E2,f8,cv,gV,nt,dJ,jM,iJ,cq,cu,aC,aV];try rfl
   ·simp[WK,aT,ax,eN]
  ·cases fB:(a7 x.op).b
   ·simp only[al,fB,BL];apply bu
    ·intro A;simp only[ak,ai,f71];simp only[go_sem,al,fB,qi,jv,bw,aw,h0,aO,fj,EX,EY,EZ,E1,E2,f8,cv,gV,nt,dJ,jM,iJ,cq,cu,aC,aV];try rfl
    ·simp[WK,aT,ax,eN]
   ·cases c1:sr x.op (fb.sort==1&&fb.n==0) (fb.sort==1&&fb.n==1) (fb.sort==1&&fb.n== -1) (Ff x.op) (PA x.op)
    ·cases c2:yK x.op (fa.sort==1&&fa.n==0) (fa.sort==1&&fa.n==1) (fa.sort==1&&fa.n== -1) (Ff x.op)
     ·cases c3:mL x.op (fa.sort==1&&fa.n==0) (fb.sort==1&&fb.n==0) (fb.sort==1&&fb.n==1) (x.a==x.b)
      ·simp only[al,fB,c1,c2,c3,BL];apply bu
       ·intro A;simp only[ak,ai,f71];simp only[go_sem,al,fB,c1,c2,c3,qi,jv,bw,aw,h0,aO,fj,EX,EY,EZ,E1,E2,f8,cv,gV,nt,dJ,jM,iJ,cq,cu,aC,aV];try rfl
       ·simp[WK,aT,ax,eN]
      ·simp only[al,fB,c1,c2,c3,BL];apply bu
       ·intro A;simp only[ak,ai,f71];simp only[go_sem,al,fB,c1,c2,c3,qi,jv,bw,aw,h0,aO,fj,EX,EY,EZ,E1,E2,f8,cv,gV,nt,dJ,jM,iJ,cq,cu,aC,aV,EW];try rfl
       ·simp[WK,aT,ax,eN]
     ·simp only[al,fB,c1,c2,BL];apply bu
      ·intro A;simp only[ak,ai,f71];simp only[go_sem,al,fB,c1,c2,qi,jv,bw,aw,h0,aO,fj,EX,EY,EZ,E1,E2,f8,cv,gV,nt,dJ,jM,iJ,cq,cu,aC,aV,vv];try rfl
      ·simp[WK,aT,ax,eN]
    ·simp only[al,fB,c1,BL];apply bu
     ·intro A;simp only[ak,ai,f71];simp only[go_sem,al,fB,c1,qi,jv,bw,aw,h0,aO,fj,EX,EY,EZ,E1,E2,f8,cv,gV,nt,dJ,jM,iJ,cq,cu,aC,aV,vv];try rfl
     ·simp[WK,aT,ax,eN]
noncomputable def c71:=bk (α:=(List bp) × (List Int) × (List ByteArray) × (List aP) × Int × Bool × (List aB)) (fun (N,V,I,U,q,b,f)=>RW N V I U q f) (fun (N,V,I,U,q,b,f)=>[(cd N V I U),J q,aC b f]) (fun (N,V,I,U,q,b,f)=>aT (oA N V I U q b f))
theorem aa5 (q:Int) (b:Bool) (f:List aB) (hp:RW N V I U q f):c71 [(cd N V I U),J q,aC b f]=some (aT (oA N V I U q b f)):=aJ (fun X Y hp bZ h'=>by
 obtain⟨N,V,I,U,q,b,f⟩:=X;obtain⟨c7,bJ,bL,bK,q',b',f'⟩:=Y;simp only[db,cJ] at h';obtain⟨rfl,rfl,rfl,rfl,rfl,rfl,rfl⟩:=h';rfl) (N,V,I,U,q,b,f) hp
theorem aif:cI 71 c71:=aE h71 rfl rfl fun (N,V,I,U,q,b,f) hp=>let ⟨_,hw,hr⟩:=aie N V I U q b f hp;(rc h71 hr (fun _=>[]) rfl rfl rfl (by kernel_rfl) ⟨Pf,uT,Po,Pn,trivial⟩ trivial).eK hw
end Go.Proofs.Tryz
end
