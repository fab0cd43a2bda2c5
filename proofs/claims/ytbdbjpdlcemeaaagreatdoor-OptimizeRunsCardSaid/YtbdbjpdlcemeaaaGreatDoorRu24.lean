/- A part of a proof. -/
import Derived.Test.YtbdbjpdlcemeaaaGreatDoorRu14
import Derived.Test.YtbdbjpdlcemeaaaGreatDoorRu17
import Derived.Test.YtbdbjpdlcemeaaaGreatDoorRu22
import Derived.Test.YtbdbjpdlcemeaaaGreatDoorRu23
set_option linter.unusedSimpArgs false
set_option linter.unusedVariables false
section
set_option maxHeartbeats 4000000
set_option maxRecDepth 20000
namespace Go.Proofs.Tryz
open Go Go.Abs
variable (N : List bp) (V : List Int) (I : List ByteArray) (U : List aP) (ao : List (List aB)) (aj : List Bool) (au : List Int)
def atv (c:aL) (l:List ct) (n e:Int):AV:= .st 56 [ax c,.sl 29 gT (l.map bo),J n,J e]
theorem aun {N:List bp} {V:List Int} {I:List ByteArray} {U:List aP} {r q:Int} {d:aL} (de:gO N V I U) (G4:∀ s ∈ I,s.size≤9223372036854775807) (oV:aU N V I U=true) (hi:bM q) (h:s9 N V I U r q=some d) :
 (gO d.ops d.ints d.strs d.U∧∀ s ∈ d.strs,s.size≤9223372036854775807)∧bx d=true:=by
 have ha:=KQ de oV (r:=r) hi;rw[h] at ha;have h2:pd N V I U r q=(d,true):=ha;unfold pd at h2;rw[Prod.mk.injEq,Bool.and_eq_true] at h2;refine⟨Tj de G4 oV hi h2.2.1 d h2.1.symm,?_⟩;rw[← h2.1];exact h2.2.2
theorem ava (hp:LM N V I U):tx Tryz.prog ty G0 10 [(cd N V I U)] ((cd N V I U)):=
 iy.hand (k:=30) cF (A2 _ _ _ _ (tb N V I U hp)).2 (by simp[fo,fo.ml]) (by simp[hand,hand.gn,aA,av])
def azc (l:List AV) (r:AV):Prop:=∃ (N:List bp) (V:List Int) (I:List ByteArray) (U:List aP),(LM N V I U)∧l=[(cd N V I U)]∧r=(cd N V I U)
noncomputable def aua:=y4 azc
theorem at1 (hp:LM N V I U):aua [(cd N V I U)]=some ((cd N V I U)):=by
 refine oI (fun l r r'=>?_) ⟨N,V,I,U,hp,rfl,rfl⟩;rintro⟨N,V,I,U,hp,h,rfl⟩ ⟨c7,bJ,bL,bK,bZ,h',rfl⟩;rw[h] at h';simp only[List.cons.injEq,AV.st.injEq,AV.sl.injEq,AV.int.injEq,AV.bool.injEq,AV.str.injEq,AV.ro.injEq,AV.fn.injEq,AV.own.injEq,Fl.mk.injEq,Prod.mk.injEq,Abs.Obj.mk.injEq,kL,nc,nd,nf,jg,gI,fQ,m_,and_true,true_and,and_assoc] at h';obtain⟨rfl,rfl,rfl,rfl⟩:=h';rfl
theorem auo:cI 10 aua:=fun l r h=>by
 obtain⟨N,V,I,U,hp,rfl,rfl⟩:=sS h;exact⟨⟨f10,dR,rfl,by decide⟩,ava N V I U hp⟩
theorem dU:Q 25=some f25:=by kernel_rfl
def D25:Nat→Option (List DH × List Nat):=fun i=>match i with | 7=>some ([⟨[7],[],[7]⟩,⟨[7],[],[7]⟩,⟨[7],[],[7]⟩,⟨[7],[],[7]⟩,⟨[7],[],[7]⟩,⟨[7],[],[7]⟩,⟨[7],[],[7]⟩,⟨[],[7],[]⟩,⟨[],[],[]⟩],[7]) | _=>none
theorem atB:D25 7=some ([⟨[7],[],[7]⟩,⟨[7],[],[7]⟩,⟨[7],[],[7]⟩,⟨[7],[],[7]⟩,⟨[7],[],[7]⟩,⟨[7],[],[7]⟩,⟨[7],[],[7]⟩,⟨[],[7],[]⟩,⟨[],[],[]⟩],[7]):=rfl
def H25:Nat→Hint:=fun i=>if i=5 then ({ tm:=[1,2,4,5,6],ob:=[2,4,5],fin:=some ([4,5],[4,5]) }:Hint) else { tm:=[],ob:=[] }
theorem at2:H25 5=({ tm:=[1,2,4,5,6],ob:=[2,4,5],fin:=some ([4,5],[4,5]) }:Hint):=by simp[H25]
theorem aup (ls:List ct) (Uk:ls.length≤1000000) (hat:∀ s ∈ ls,bM s.at_) (A:NP) (k:Nat):∀ (l:List ct) (i:Nat) (c:aL) (σ:St),ls.drop i=l→i+l.length=ls.length→gO c.ops c.ints c.strs c.U→(∀ s ∈ c.strs,s.size≤9223372036854775807)→bx c=true→
 σ.cA (H25 5)=⟨[(1,.sl 29 gF (ls.map bo)),(2,pb 2 27),(4,pb 4 56),(5,pb 5 56),(6,J i)],[(2,(bC N V I U)),(4,⟨.box 56,true,[.st 56 [n4,.sl 29 gN [],J 0,J 0]]⟩),(5,⟨.box 56,false,[.st 56 [(cd c.ops c.ints c.strs c.U),.sl 29 gN [],J (i:Nat),J 0]]⟩)]⟩→
 post (H25 5) (aG ty (a9 (jD Z0 (fun _=>false) 41 1074005239 D25 [(10,aua),(12,c12),(20,c20)] [] A) H25 k (sub (f25.body.getD .skip) [1,1,1,0,1,0,0])) (H25 5) (l.length+1) σ)=some (if (as_ l c i).2.2=0 then (.exit 0,⟨[(4,pb 4 56),(5,pb 5 56)],[(4,⟨.box 56,true,[.st 56 [n4,.sl 29 gN [],J 0,J 0]]⟩),(5,⟨.box 56,false,[.st 56 [(cd (as_ l c i).1.ops (as_ l c i).1.ints (as_ l c i).1.strs (as_ l c i).1.U),.sl 29 gN [],J (as_ l c i).2.1,J 0]]⟩)]⟩) else (.ret,⟨[(4,pb 4 56),(5,pb 5 56)],[(4,⟨.box 56,false,[.st 56 [(cd (as_ l c i).1.ops (as_ l c i).1.ints (as_ l c i).1.strs (as_ l c i).1.U),.sl 29 gN [],J (as_ l c i).2.1,J (as_ l c i).2.2]]⟩),(5,⟨.box 56,false,[.st 56 [(cd (as_ l c i).1.ops (as_ l c i).1.ints (as_ l c i).1.strs (as_ l c i).1.U),.sl 29 gN [],J (as_ l c i).2.1,J (as_ l c i).2.2]]⟩)]⟩)):=by
 simp only[f25,sub,Option.getD_some,at2];intro l
 induction l with
 | nil=>
   intro i c σ hd hi de G4 hc hσ;have h1:¬ ((i:Int) < (ls.length:Int)):=by simp at hi;omega
   rw[List.length_nil,aG,hσ];simp only[as_];simp only[go_sem,atB,h1];simp[post,St.fin,aQ,aA]
 | cons s r ih=>
   intro i c σ hd hi de G4 hc hσ;have h1:(i:Int) < (ls.length:Int):=by simp at hi;omega
   have cY:(0:Int)≤(i:Int):=Int.natCast_nonneg i;have aR:i < ls.length:=by simp at hi;omega
   have hw:IntKind.i64.wrap ((i:Int)+1)=((i+1:Nat):Int):=a_ (by omega);have aw:ls[i]? = some s:=by
    have:=congrArg (fun l=>l[0]?) hd;simpa using this
   have qA:ls.drop (i+1)=r:=by
    have:=congrArg (fun l=>l.drop 1) hd;simpa[List.drop_drop,Nat.add_comm] using this
   have hs:bM s.at_:=hat s (List.mem_of_getElem? aw);have e12:=au3 c.ops c.ints c.strs c.U s.rule s.at_ ⟨de,G4,hs⟩;have aub:∀ d,s9 c.ops c.ints c.strs c.U s.rule s.at_=some d→(gO d.ops d.ints d.strs d.U∧∀ s ∈ d.strs,s.size≤9223372036854775807)∧bx d=true:=fun d h=>aun de G4 hc hs h
   have ahn:as_ (s::r) c i=match s9 c.ops c.ints c.strs c.U s.rule s.at_ with | none=>(c,(i:Int),170) | some d=>as_ r d (((i+1:Nat)):Int):=by
    rw[as_];rfl
   have oV:aU c.ops c.ints c.strs c.U=true:=hc;unfold jt at e12;rw[oV] at e12;rw[List.length_cons,aG,hσ,ahn];cases hx:s9 c.ops c.ints c.strs c.U s.rule s.at_ with
   | none=>
     rw[hx] at e12;simp only[atG,ax,Option.getD_none,BL] at e12;simp only[go_sem,atB,h1,cY,hw,aw,e12,bo];simp[post,St.fin,aQ,aA]
   | some d=>
     rw[hx] at e12;simp only[atG,ax,Option.getD_some,BL] at e12;obtain⟨⟨auc,auq⟩,Ug⟩:=aub d hx;simp only[go_sem,atB,h1,cY,hw,aw,e12,bo];refine ih (i+1) d _ qA (by simp at hi ⊢;omega) auc auq Ug ?_;simp only[go_sem,hw];try rfl
theorem awS (ls:List ct) (hp:gO N V I U∧(∀ s ∈ I,s.size≤9223372036854775807)∧ls.length≤1000000∧∀ s ∈ ls,bM s.at_) :∃ r,wk r (atv (ata N V I U ls).1 [] (ata N V I U ls).2.1 (ata N V I U ls).2.2)∧∀ A,ak (jD Z0 (fun _=>false) 41 1074005239 D25 [(10,aua),(12,c12),(20,c20)] [] A) (H25) ((ls.length+1)) f25 [(cd N V I U),.sl 29 gF (ls.map bo)]=some r:=by
 obtain⟨de,G4,Uk,hat⟩:=hp;have lK:=nk N V I U ⟨de.lim,G4,de.str⟩;have qp:=at1 N V I U de.lim;unfold ata;cases oV:aU N V I U
 ·rw[oV] at lK;simp only[cy,BL] at lK ⊢;apply bu
  ·intro A;simp only[ak,ai,f25];simp only[go_sem,atB,lK];try rfl
  ·simp[WK,atv,ax, *]
 rw[oV] at lK;simp only[cy,BL] at lK ⊢;have hl:=fun A=>aup N V I U ls Uk hat A (ls.length+1) ls 0 ⟨N,V,I,U⟩
 simp only[f25,sub,Option.getD_some,at2,Int.natCast_zero] at hl;by_cases h0:(as_ ls ⟨N,V,I,U⟩ 0).2.2=0;all_goals
  simp only[h0,reduceIte,BL] at hl;generalize as_ ls ⟨N,V,I,U⟩ 0=x at *;apply bu
  ·intro A;simp only[ak,ai,f25];simp only[go_sem,atB,lK,qp,at2];rw[hl A _ rfl (by simp) de G4 oV (by simp only[go_sem];try rfl)];simp only[go_sem,atB,lK,at2];try rfl
  ·simp[WK,atv,ax, *]
noncomputable def c25:=bk (α:=(List bp) × (List Int) × (List ByteArray) × (List aP) × (List ct)) (fun (N,V,I,U,ls)=>gO N V I U∧(∀ s ∈ I,s.size≤9223372036854775807)∧ls.length≤1000000∧∀ s ∈ ls,bM s.at_) (fun (N,V,I,U,ls)=>[(cd N V I U),.sl 29 gF (ls.map bo)]) (fun (N,V,I,U,ls)=>atv (ata N V I U ls).1 [] (ata N V I U ls).2.1 (ata N V I U ls).2.2)
theorem avc (ls:List ct) (hp:gO N V I U∧(∀ s ∈ I,s.size≤9223372036854775807)∧ls.length≤1000000∧∀ s ∈ ls,bM s.at_):c25 [(cd N V I U),.sl 29 gF (ls.map bo)]=some (atv (ata N V I U ls).1 [] (ata N V I U ls).2.1 (ata N V I U ls).2.2):=aJ (fun X Y hp bZ h'=>by
 obtain⟨N,V,I,U,ls⟩:=X;obtain⟨c7,bJ,bL,bK,ls'⟩:=Y;simp only[cJ] at h';obtain⟨rfl,rfl,rfl,rfl,rfl⟩:=h';rfl) (N,V,I,U,ls) hp
theorem awT:cI 25 c25:=aE dU rfl rfl fun (N,V,I,U,ls) hp=>let ⟨_,hw,hr⟩:=awS N V I U ls hp;(rX dU hr (fun i=>match i with | 7=>[0,1,0,0,12,28,63,0,255] | _=>[]) rfl rfl rfl (by kernel_rfl) ⟨auo,awL,UD,trivial⟩ trivial).eK hw
def atd (N:List bp) (V:List Int) (I:List ByteArray) (U:List aP):aL × List ct:=
 if aU N V I U=true then (runN 2000000 ⟨N,V,I,U⟩).getD (⟨[],[],[],[]⟩,[]) else (⟨[],[],[],[]⟩,[])
theorem auC {c:aL} (de:gO c.ops c.ints c.strs c.U) (hc:bx c=true):G5 c 1=match s_ c with | []=>[] | y::_=>[stepOf y]:=by
 have Ug:aU c.ops c.ints c.strs c.U=true:=hc;rw[all_eq de hc];unfold eM;rw[if_pos Ug];show (List.map stepOf (s_ c)).take 1=_;cases s_ c <;> rfl
theorem Sf:Q 23=some f23:=by kernel_rfl
def D23:Nat→Option (List DH × List Nat):=fun i=>match i with | 8=>some ([⟨[35],[],[35]⟩,⟨[35],[],[35]⟩,⟨[],[],[35]⟩,⟨[],[],[35]⟩,⟨[],[],[35]⟩,⟨[],[35],[]⟩,⟨[],[],[]⟩,⟨[],[],[]⟩,⟨[],[],[]⟩],[35]) | _=>none
theorem atN:D23 8=some ([⟨[35],[],[35]⟩,⟨[35],[],[35]⟩,⟨[],[],[35]⟩,⟨[],[],[35]⟩,⟨[],[],[35]⟩,⟨[],[35],[]⟩,⟨[],[],[]⟩,⟨[],[],[]⟩,⟨[],[],[]⟩],[35]):=rfl
theorem atO:D23 7=none:=rfl
def H23:Nat→Hint:=fun i=>if i=4 then ({ tm:=[2,3],ob:=[2,3,36,1003],sl:=[(3,1003,29)],fin:=some ([2],[2,1003]) }:Hint) else { tm:=[],ob:=[] }
theorem at3:H23 4=({ tm:=[2,3],ob:=[2,3,36,1003],sl:=[(3,1003,29)],fin:=some ([2],[2,1003]) }:Hint):=by simp[H23]
theorem aur  (A:NP) (k:Nat):∀ (n:Nat) (c:aL) (l:List ct) (out:aL × List ct) (σ:St),gO c.ops c.ints c.strs c.U→(∀ s ∈ c.strs,s.size≤9223372036854775807)→bx c=true→runN n c=some out→l.length+n≤10000000→
 (σ.cA (H23 4)).nw ty (H23 4).sl=⟨[(2,pb 2 56),(3,pb 3 56)],[(3,⟨.box 56,false,[.st 56 [(cd c.ops c.ints c.strs c.U),.own 1003 29 0 l.length,J 0,J 0]]⟩),(1003,⟨.row 29,true,l.map bo⟩),(2,⟨.box 56,true,[.st 56 [n4,.sl 29 gN [],J 0,J 0]]⟩)]⟩→
 post (H23 4) (aG ty (a9 (jD Z0 (fun _=>false) 38 131231 D23 [(10,aua),(20,c20),(29,c29),(36,c36),(38,c38)] [] A) H23 k (sub (f23.body.getD .skip) [1,1,1,0,0])) (H23 4) (n+1) σ)=some (.ret,⟨[(2,pb 2 56)],[(2,⟨.box 56,false,[.st 56 [(cd out.1.ops out.1.ints out.1.strs out.1.U),.own 1003 29 0 (l++out.2).length,J 0,J 0]]⟩),(1003,⟨.row 29,true,(l++out.2).map bo⟩)]⟩):=by
 simp only[f23,sub,Option.getD_some,at3];intro n
 induction n with
 | zero=>
   intro c l out σ de G4 hc hr KZ hσ;simp[runN] at hr
 | succ n ih=>
   intro c l out σ de G4 hc hr KZ hσ;have e38:=abf c.ops c.ints c.strs c.U 1 ⟨de,G4,hc,by omega⟩;rw[show (⟨c.ops,c.ints,c.strs,c.U⟩:aL)=c from rfl,auC de hc,show ((1:Nat):Int)=1 from rfl] at e38;rw[runN] at hr;rw[aG,hσ];cases hs:s_ c with
   | nil=>
     rw[hs] at hr e38;injection hr with hr
     subst hr;simp only[List.map_nil] at e38;simp only[go_sem,atO,atN,e38];simp[post,St.fin,aQ,aA]
   | cons y r=>
     rw[hs] at hr e38;have hm:y ∈ s_ c:=by rw[hs];simp
     have ha:=yt hm;have fL:=atp ha;have hq:bM y.2.1:=by
      have h1:=fL.2.1;have h2:=fL.2.2.1;have dO:=de.lim;unfold bF at h2;unfold bM;split at h2 <;> omega
     have haw:s9 c.ops c.ints c.strs c.U y.1 y.2.1=some y.2.2:=ha;obtain⟨⟨auc,auq⟩,Ug⟩:=aun de G4 hc hq haw;have e29:=ZO c.ops c.ints c.strs c.U ⟨⟨de.lim,de.str⟩,hc⟩;have e36:=abe c.ops c.ints c.strs c.U y.1 y.2.1 ⟨de,G4,hc,hq⟩;have hag:=KQ de hc (r:=y.1) hq;rw[haw] at hag;have azf:pd c.ops c.ints c.strs c.U y.1 y.2.1=(y.2.2,true):=hag;rw[azf] at e36;obtain⟨o2,ho2⟩:∃ o2,runN n y.2.2=some o2:=by
      cases h:runN n y.2.2 with
      | none=>dsimp only at hr;rw[h] at hr;cases hr
      | some o=>exact⟨o,rfl⟩
     dsimp only at hr e38;rw[ho2] at hr;injection hr with hr
     subst hr;have Fz:decide ((l.length+1) * 16≤140737488355328)=true:=by simp;omega
     have Dc:l.length+1≤140737488355328:=by omega
     simp only[List.map_cons,List.map_nil,bo,stepOf,aT,ax] at e38 e36;have hx:l++(stepOf y::o2.2)=(l++[stepOf y])++o2.2:=by simp
     dsimp only;simp only[go_sem,atO,atN,e38,e29,e36,Fz,Dc,bo];rw[hx];refine ih y.2.2 (l++[stepOf y]) o2 _ auc auq Ug ho2 (by rw[List.length_append];simp;omega) ?_;simp only[go_sem,St.slot,k7,jS,jT,List.map_cons,List.map_nil,bo,stepOf,List.length_append,List.map_append,List.length_cons,List.length_nil];try rfl
theorem awU (hp:gO N V I U∧(∀ s ∈ I,s.size≤9223372036854775807)∧N.length≤60) :∃ r,wk r (atv (atd N V I U).1 (atd N V I U).2 0 (cy (aU N V I U)))∧∀ A,ak (jD Z0 (fun _=>false) 38 131231 D23 [(10,aua),(20,c20),(29,c29),(36,c36),(38,c38)] [] A) (H23) (2000010) f23 [(cd N V I U)]=some r:=by
 obtain⟨de,G4,hn⟩:=hp;have lK:=nk N V I U ⟨de.lim,G4,de.str⟩;have qp:=at1 N V I U de.lim;unfold atd;cases oV:aU N V I U
 ·rw[oV] at lK;simp only[cy,BL] at lK ⊢;apply bu
  ·intro A;simp only[ak,ai,f23];simp only[go_sem,atO,atN,lK];try rfl
  ·simp[WK,atv,ax]
 rw[oV] at lK;simp only[cy,BL] at lK ⊢;obtain⟨out,ho⟩:=atM (c:=⟨N,V,I,U⟩) de oV hn;rw[ho,Option.getD_some];have hl:=fun A=>aur A 2000010 2000000 ⟨N,V,I,U⟩ [] out
 simp only[f23,sub,Option.getD_some,at3,List.nil_append,List.length_nil,List.map_nil] at hl;apply bu
 ·intro A;simp only[ak,ai,f23];simp only[go_sem,atO,atN,lK,qp,at3];rw[aY (hl A _ de G4 oV ho (by omega) (by simp only[go_sem,St.slot,k7,jS,jT,List.map_cons,List.map_nil])) (by omega)];simp only[go_sem,atO,atN,at3];try rfl
 ·simp[WK,atv,ax]
noncomputable def c23:=bk (α:=(List bp) × (List Int) × (List ByteArray) × (List aP)) (fun (N,V,I,U)=>gO N V I U∧(∀ s ∈ I,s.size≤9223372036854775807)∧N.length≤60) (fun (N,V,I,U)=>[(cd N V I U)]) (fun (N,V,I,U)=>atv (atd N V I U).1 (atd N V I U).2 0 (cy (aU N V I U)))
theorem avd (hp:gO N V I U∧(∀ s ∈ I,s.size≤9223372036854775807)∧N.length≤60):c23 [(cd N V I U)]=some (atv (atd N V I U).1 (atd N V I U).2 0 (cy (aU N V I U))):=aJ (fun X Y hp bZ h'=>by
 obtain⟨N,V,I,U⟩:=X;obtain⟨c7,bJ,bL,bK⟩:=Y;simp only[cJ] at h';obtain⟨rfl,rfl,rfl,rfl⟩:=h';rfl) (N,V,I,U) hp
theorem awV:cI 23 c23:=aE Sf rfl rfl fun (N,V,I,U) hp=>let ⟨_,hw,hr⟩:=awU N V I U hp;(rX Sf hr (fun i=>match i with | 7=>[0,1,0,4,12,0,32,96,255,511,1023,2047] | 8=>[0,1,0,4,12,28,63,127,255] | _=>[]) rfl rfl rfl (by kernel_rfl) ⟨auo,UD,ahl,aiy,aiB,trivial⟩ trivial).eK hw
theorem aus:∀ (n:Nat) (c:aL) (out:aL × List ct),gO c.ops c.ints c.strs c.U→bx c=true→runN n c=some out→gO out.1.ops out.1.ints out.1.strs out.1.U∧out.2.length≤n
 | 0,c,out,_,_,h=>by simp[runN] at h
 | n+1,c,out,de,hc,h=>by
   rw[runN] at h;cases hs:s_ c with
   | nil=>
     rw[hs] at h;injection h with h
     subst h;exact⟨de,by simp⟩
   | cons y r=>
     rw[hs] at h;have hm:y ∈ s_ c:=by rw[hs];simp
     have ha:=OQ (nr de hc) de (yt hm);obtain⟨o2,ho2⟩:∃ o2,runN n y.2.2=some o2:=by
      cases h':runN n y.2.2 with
      | none=>dsimp only at h;rw[h'] at h;cases h
      | some o=>exact⟨o,rfl⟩
     dsimp only at h;rw[ho2] at h;injection h with h
     subst h;have ih:=aus n y.2.2 o2 ha.1 ha.2 ho2;exact⟨ih.1,by simp only[List.length_cons];have:=ih.2;omega⟩
theorem atC:∀ (l:List ct) (c:aL) (i:Int),gO c.ops c.ints c.strs c.U→bx c=true→gO (as_ l c i).1.ops (as_ l c i).1.ints (as_ l c i).1.strs (as_ l c i).1.U
 | [],c,i,h,_=>by simpa[as_] using h
 | s::r,c,i,h,hc=>by
   rw[as_];cases hx:s9 c.ops c.ints c.strs c.U s.rule s.at_ with
   | none=>exact h
   | some d=>
     have ha:=OQ (nr h hc) h (show eD c.ops c.ints c.strs c.U (bz c.ops c.ints c.U).1 (bz c.ops c.ints c.U).2 (cz c.ops) s.rule s.at_=some d from hx);exact atC r d _ ha.1 ha.2
theorem atP {N:List bp} {V:List Int} {I:List ByteArray} {U:List aP} {ls:List ct} (de:gO N V I U):(ata N V I U ls).1.ops.length≤100000∧(ata N V I U ls).1.ints.length≤100000∧(ata N V I U ls).1.strs.length≤100000∧(ata N V I U ls).1.U.length≤100000:=by
 unfold ata;cases oV:aU N V I U
 ·exact⟨by simp,by simp,by simp,by simp⟩
 ·rw[if_pos rfl];exact (atC ls ⟨N,V,I,U⟩ 0 de oV).lim
theorem auD {N:List bp} {V:List Int} {I:List ByteArray} {U:List aP} (de:gO N V I U) (hn:N.length≤60):((atd N V I U).1.ops.length≤100000∧(atd N V I U).1.ints.length≤100000∧(atd N V I U).1.strs.length≤100000∧(atd N V I U).1.U.length≤100000)∧(atd N V I U).2.length≤2000000∧(if bx ⟨N,V,I,U⟩=true then runN 2000000 ⟨N,V,I,U⟩=some (atd N V I U) else atd N V I U=(⟨[],[],[],[]⟩,[])):=by
 have mj:bx ⟨N,V,I,U⟩=aU N V I U:=rfl;rw[mj];unfold atd;cases oV:aU N V I U
 ·exact⟨⟨by simp,by simp,by simp,by simp⟩,by simp,by simp⟩
 ·obtain⟨out,ho⟩:=atM (c:=⟨N,V,I,U⟩) de oV hn;have hi:=aus 2000000 ⟨N,V,I,U⟩ out de oV ho;simp only[ho,Option.getD_some,BL];exact⟨hi.1.lim,hi.2,trivial⟩
theorem h6:Q 6=some f6:=by kernel_rfl
theorem azh (ls:List ct) (hp:(∀ o ∈ N,bM o.n)∧(∀ n ∈ V,bM n)∧(∀ s ∈ I,s.size≤9223372036854775807)∧(LS U)∧∀ s ∈ ls,bM s.at_) (A:NP):ak (env 79 4210679 D0 [(8,c8),(9,c9),(13,c13),(17,c17),(22,c22),(23,c23),(24,c24),(25,c25)] [] A) hN (5) f6 [(cd N V I U),.sl 29 gF (ls.map bo)]=some (.bool true):=by
 obtain⟨p1,p2,p3,p4,p5⟩:=hp;have e9:=af3 N V I U;have alK:(decide (N.length≤60)&&(decide (V.length≤60)&&(decide (I.length≤60)&&decide (U.length≤60))))=true→N.length≤60∧V.length≤60∧I.length≤60∧U.length≤60:=fun h=>by simpa using h
 generalize (decide (N.length≤60)&&(decide (V.length≤60)&&(decide (I.length≤60)&&decide (U.length≤60))))=sh at *;cases sh
 ·simp only[ak,ai,f6];simp only[go_sem,UY,e9];try rfl
 have hl:=alK rfl;have de:gO N V I U:=⟨by omega,p4,p1,p2⟩
 by_cases nH:20 < ls.length
 ·have ave:(20:Int) < (ls.length:Int):=by omega
  simp only[ak,ai,f6];simp only[go_sem,UY,e9,ave];try rfl
 have ave:¬ ((20:Int) < (ls.length:Int)):=by omega
 have hrs:=auD de hl.1;have K0:=atP (ls:=ls) de;have e22:=O0 ⟨N,V,I,U⟩ 2000000 (atd N V I U) ⟨de,by omega,hrs.2.2⟩;have e23:=avd N V I U ⟨de,p3,hl.1⟩;have e24:=auT N V I U ls ⟨de,by omega⟩;have e25:=avc N V I U ls ⟨de,p3,by omega,p5⟩;have awW:=Ow (atd N V I U).1 (atd N V I U).1 ⟨hrs.1,hrs.1⟩;have awX:=Ow (ata N V I U ls).1 (ata N V I U ls).1 ⟨K0,K0⟩;rw[at4] at awW awX;have e17:=abi (atd N V I U).2 (by omega);rw[show bx ⟨N,V,I,U⟩=aU N V I U from rfl] at e22;generalize atd N V I U=x at *;generalize ata N V I U ls=y at *;generalize cy (aU N V I U)=er at *;simp only[atv,ax] at e22 e23 e24 e25;simp only[ak,ai,f6]
 simp only[go_sem,UY,e9,ave,e22,e23,e24,e25,awW,awX,e17,beq_self_eq_true];try rfl
noncomputable def c6:=bk (α:=(List bp) × (List Int) × (List ByteArray) × (List aP) × (List ct)) (fun (N,V,I,U,ls)=>(∀ o ∈ N,bM o.n)∧(∀ n ∈ V,bM n)∧(∀ s ∈ I,s.size≤9223372036854775807)∧(LS U)∧∀ s ∈ ls,bM s.at_) (fun (N,V,I,U,ls)=>[(cd N V I U),.sl 29 gF (ls.map bo)]) (fun (N,V,I,U,ls)=> .bool true)
theorem awY (ls:List ct) (hp:(∀ o ∈ N,bM o.n)∧(∀ n ∈ V,bM n)∧(∀ s ∈ I,s.size≤9223372036854775807)∧(LS U)∧∀ s ∈ ls,bM s.at_):c6 [(cd N V I U),.sl 29 gF (ls.map bo)]=some (.bool true):=aJ (fun _ _ _ _ _=>rfl) (N,V,I,U,ls) hp
theorem azj:cI 6 c6:=aE h6 rfl rfl fun (N,V,I,U,ls) hp=>rc h6 (fun A=>azh N V I U ls hp A) (fun _=>[]) rfl rfl rfl (by kernel_rfl) ⟨alF,ak1,af9,aiF,ag9,awV,awx,awT,trivial⟩ trivial
end Go.Proofs.Tryz
end
