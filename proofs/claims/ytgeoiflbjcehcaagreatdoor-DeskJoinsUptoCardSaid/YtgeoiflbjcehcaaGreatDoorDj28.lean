import Derived.Test.YtgeoiflbjcehcaaGreatDoorDj27
import Derived.Lib.SliceRun
set_option maxHeartbeats 4000000
set_option maxRecDepth 2000
set_option linter.unusedVariables false
set_option linter.unusedSimpArgs false
namespace Go.Proofs.YtgeoiflbjcehcaaGreatDoor
open Go X
theorem o8 {σ:PH} {p:Option Addr} {n c k:Nat} {xs:List ByteArray} (hx:∀x∈xs,x.size≤maxLen) (hn:n=xs.length) (hf:n≤c∧c≤maxLen∧(xs.map Value.string).length=k∧(0<n→∃g o,p=some ⟨g,o,none⟩∧cz σ g o (xs.map Value.string))):bO 1 n9 σ (.slice p n c) xs:=by
 subst hn;refine⟨p,c,xs.map fun x=>[Value.string x],rfl,hf.1,hf.2.1,by simp,?_,?_,fun h=>?_⟩
 ·intro row hr;obtain⟨x,-,rfl⟩:=List.mem_map.1 hr;rfl
 ·intro i row x a b;rw[List.getElem?_map,b] at a;cases a;exact⟨rfl,hx x (List.mem_of_getElem? b)⟩
 ·rw[wA];exact hf.2.2.2 h
theorem Sd (σ:PH) (p:Option Addr) (c:Nat) (xs:List ByteArray) (sep:ByteArray) (hx:∀x∈xs,x.size≤maxLen) (hn:xs.length≤1000000) (hlen:(wx xs sep).size≤1000000000):
 ae Tryz.prog 46 #[.slice p xs.length c,.string sep] σ [bn 9 1 (.slice p xs.length c) xs.length (xs.map Value.string)] (aE fun r ag ah=>r=.string (wx xs sep)∧σ=ag∧ah=[bn 9 1 (.slice p xs.length c) xs.length (xs.map Value.string)]):=
 X.ae.X1 (enters Tryz.func46 rfl rfl) (fun m ⟨m1,m2,a,b,c,d,e⟩=>by obtain⟨u,h⟩:=dp m1 a;exact⟨u,aU u m1 m h d⟩) aU
  (fun dQ _ hf _=>Hj dQ _ xs sep (o8 hx rfl hf) hn hlen)
def Se (acc:ByteArray):uc Pr→ByteArray
 |.error x=>gH acc (tq x)
 |.ok _=>acc
theorem tB (σ:PH) (gd:Nat) (pt:Option Addr) (ct:Nat) (v1 v2:Value) (acc:ByteArray) (text:List ByteArray) (hx:∀x∈text,x.size≤maxLen) (hn:text.length≤1000000) (gD:(rn text).size≤100000000) (hT:rP σ) (hE:lp σ) (hb:acc.size+200≤1000000000):
 ae Tryz.prog 65 #[ptr gd] σ [cM 49 gd [.slice pt text.length ct,v1,v2] acc,bn 9 1 (.slice pt text.length ct) text.length (text.map Value.string)]
  (aE fun v ag ah=>∃cs,v=.tuple #[.agg (List.toArray cs),.bool (decide (xI (bZ (rn text))=0))]∧fY ag cs (UW (bZ (rn text)))∧σ.sub ag∧ah=[cM 49 gd [.slice pt text.length ct,v1,v2] (Se acc (bZ (rn text))),bn 9 1 (.slice pt text.length ct) text.length (text.map Value.string)]):=by
 have hj:=Sd σ pt ct text zF hx hn (by rw[yM];omega);rw[yM] at hj;have WH:=KS σ (rn text) gD hT hE;obtain⟨Il,E3⟩:=wI (s:=rn text);refine dF Tryz.func65 ?_;refine aN ?_;refine cR (fun g2=>?_) (ad rfl);refine bC ?_;(first|refine XA.aY (R:=cM _ _ _ _) zL (cM.o) ?_|refine az.aY (R:=cM _ _ _ _) zL (cM.o) ?_|refine DA.aY (R:=cM _ _ _ _) zL (cM.o) ?_);rintro⟨u,q,cq⟩ hz;(first|refine XA.cl ?_|refine az.cl ?_|refine DA.cl ?_);refine b3 ?_;refine zw rfl (aC.cE (hj) rfl) ?_;rintro _ _ _ ⟨_,⟨rfl,rfl,rfl⟩,rfl⟩;refine az.cl ?_;refine az.eS (aw.fold (S:=cM 49 gd [.slice pt text.length ct,v1,v2] acc) (Θ:=[au gd (k6 u gd::.slice q acc.size cq::[.slice pt text.length ct,v1,v2]) 49,bn 5 1 (.slice q acc.size cq) acc.size (Lib.strCells acc)]) zD (fun m hm=>⟨u,q,cq,hz,hm⟩) (aw.refl _)) ?_;refine zw rfl (aC.cE (WH) rfl) ?_;rintro _ dQ _ ⟨_,⟨cs,rfl,hp,bQ,rfl⟩,rfl⟩;refine az.cl ?_;have qJ:=hT.mono bQ;have oq:=hp;obtain⟨vs,bs,rfl,LN,LO⟩:=oq;obtain⟨WZ,W0,rfl,-,-⟩:=LN.shape;obtain⟨W1,W2,rfl,-,-⟩:=LO.shape;refine bq ?_;refine cR (fun g4=>?_) (ad rfl);refine cR (fun g5=>?_) (ad rfl);refine bH ?_;by_cases h0:xI (bZ (rn text))=0
 ·obtain⟨pr,Oi⟩:∃pr,bZ (rn text)=.ok pr:=by
   cases hq:bZ (rn text) with
   |ok pr=>exact⟨pr,rfl⟩
   |error x=>rw[hq] at h0;exact absurd h0 (nI hq)
  (have ha:Se acc (bZ (rn text))=acc:=by rw[Oi];rfl);rw[ha];refine XA.aR rfl (by first|rfl|exact decide_eq_false (fun h=>h h0)) ?_;refine bq ?_;refine fZ 6 172 [] (aw.bP (R:=au g4 _ _) zL (aw.bP (R:=au g5 _ _) zL (aw.nil _))) ?_;refine bM ?_;refine aK.fL rfl rfl Gd.free (aC.st (ad rfl) rfl) ?_;rintro _ _ _ ⟨rfl,rfl,rfl⟩;refine stays ?_;refine bM ?_;exact ao.ret (X.aG.EU rfl rfl rfl (Ld.bN (ad rfl) rfl zL rfl (by first|exact bJ (by first|rfl|assumption|(refine(aj _).trans ?_;assumption)|(simp[*];(first|done|fail)))|assumption|exact aI (by first|rfl|assumption|(refine(aj _).trans ?_;assumption)|(simp[*];(first|done|fail)))|(conv=>lhs;simp only[List.drop_succ_cons,List.drop_zero,List.take_succ_cons,List.take_zero])) (by first|rfl|assumption|(refine(aj _).trans ?_;assumption)|(simp[*];(first|done|fail))))) zE ⟨_,rfl,hp,bQ,rfl⟩
 ·obtain⟨x,Oi⟩:∃x,bZ (rn text)=.error x:=by
   cases hq:bZ (rn text) with
   |ok pr=>rw[hq] at h0;exact absurd rfl h0
   |error x=>exact⟨x,rfl⟩
  (have ha:Se acc (bZ (rn text))=gH acc (dG (dG fE (xI (bZ (rn text)))) (KH (bZ (rn text)))):=by rw[Oi];rfl);rw[ha];refine XA.bG rfl (by first|rfl|exact decide_eq_true h0) ?_;refine XA.draw (by kernel_rfl) _ _ [6,7,8] [(0,.pu),(1,.pu),(2,.rd),(4,.pu),(5,.rd),(3,.wr),(6,.wr),(7,.wr),(8,.wr)] (by kernel_rfl) (PH.sub.refl _) (aw.bP (R:=au g5 _ _) zL (aw.nil _)) ?_;refine b9 ?_;refine aK.fL rfl rfl Gd.free (aC.cE (qA dQ _ Il qJ) rfl) ?_;rintro _ _ _ ⟨_,⟨rfl,rfl,rfl⟩,rfl⟩;refine stays (aK.cl ?_);refine aK.bj rfl rfl Gd.free (by kernel_rfl) (aC.cE (qA dQ _ E3 qJ) rfl) ?_;rintro _ _ _ ⟨_,⟨rfl,rfl,rfl⟩,rfl⟩;refine aK.cl ?_;refine aK.bj rfl rfl Gd.free (by kernel_rfl) (aC.bs (fun _ _=>ad) rfl rfl rfl rfl rfl) ?_;rintro _ _ _ ⟨g25,rfl,rfl,rfl⟩;refine aK.bj rfl rfl Gd.free (by kernel_rfl) (aC.cE (VB dQ gd _ v1 v2 acc _ fE _ _ Il E3 (by decide) hb) rfl) ?_;rintro _ dq _ ⟨_,⟨rfl,bT,rfl⟩,rfl⟩;refine aK.cl ?_;refine bq ?_;refine fZ 6 172 [] (aw.bP (R:=au g4 _ _) zL (aw.bP (R:=au g5 _ _) zL (aw.nil _))) ?_;refine bM ?_;refine aK.fL rfl rfl Gd.free (aC.st (ad rfl) rfl) ?_;rintro _ _ _ ⟨rfl,rfl,rfl⟩;refine stays ?_;refine bM ?_;exact ao.ret (X.aG.EU rfl rfl rfl (Ld.bN (ad rfl) rfl zL rfl (by first|exact bJ (by first|rfl|assumption|(refine(aj _).trans ?_;assumption)|(simp[*];(first|done|fail)))|assumption|exact aI (by first|rfl|assumption|(refine(aj _).trans ?_;assumption)|(simp[*];(first|done|fail)))|(conv=>lhs;simp only[List.drop_succ_cons,List.drop_zero,List.take_succ_cons,List.take_zero])) (by first|rfl|assumption|(refine(aj _).trans ?_;assumption)|(simp[*];(first|done|fail))))) zE ⟨_,rfl,hp.mono bT,bQ.trans bT,rfl⟩
def tC (acc:ByteArray) (c:Int):ByteArray:=if c=0 then acc else gH acc (dG fE c)
theorem mG (σ:PH) (gd:Nat) (v0 v1 v2:Value) (acc:ByteArray) (c:Int) (hc:aF c) (hT:rP σ) (hb:acc.size+200≤1000000000):
 ae Tryz.prog 67 #[ptr gd,i64 c] σ [cM 49 gd [v0,v1,v2] acc] (aE fun v ag ah=>v=.bool (decide (c≠0))∧σ.sub ag∧ah=[cM 49 gd [v0,v1,v2] (tC acc c)]):=by
 by_cases h:c=0
 ·subst h;refine bS Tryz.func67 ?_;refine bH ?_;refine cg ?_;exact b8 rfl rfl ⟨rfl,.refl _,rfl⟩
 ·(have e:tC acc c=gH acc (dG fE c):=by rw[tC,if_neg h]);rw[e];refine bS Tryz.func67 ?_;refine bH ?_;refine XA.bG rfl (by first|rfl|exact decide_eq_true h) ?_;refine bq ?_;refine zw rfl (aC.cE (qA σ c hc hT) rfl) ?_;rintro _ _ _ ⟨_,⟨rfl,rfl,rfl⟩,rfl⟩;refine az.cl ?_;refine zw rfl (aC.bs (fun _ _=>ad) rfl rfl rfl rfl rfl) ?_;rintro _ _ _ ⟨g10,rfl,rfl,rfl⟩;refine zw rfl (aC.cE (CY σ gd v0 v1 v2 acc _ fE c hc (by decide) hb) rfl) ?_;rintro _ dQ _ ⟨_,⟨rfl,bQ,rfl⟩,rfl⟩;refine az.cl ?_;refine aW ?_;exact b8 rfl rfl ⟨rfl,bQ,rfl⟩
def mY (σ:PH) (xv:Value) (lf:Option (Pr×List Int×Li)) (k:Nat) (Γ:List HP):Prop:=match lf with
 |none=>xv=.pointer none∧Γ=[]
 |some (p,inp,L)=>∃gx db pb pc cc,∃gn:Int,xv=ptr gx∧bO 4 yu σ (.slice pc (ak p).length cc) (ak p)∧gK σ gx db pb pc cc (sizes p.vars).toNat p inp L gn Γ∧gn≤k∧fp p inp L k∧um L.b∧jW p.body∧(∀x∈inp,aF x)∧L.b.kept.st=0
theorem Sf (σ:PH) (gd:Nat) (pt:Option Addr) (ct:Nat) (iv xv:Value) (acc:ByteArray) (d:jT) (hx:∀x∈d.text,x.size≤maxLen) (hn:d.text.length≤1000000) (gD:(rn d.text).size≤100000000) (hi:aV σ iv d.input) (qC:∀x∈d.input,aF x) (hT:rP σ) (hE:lp σ) (hb:acc.size+400≤1000000000):
 ae Tryz.prog 40 #[ptr gd] σ [cM 49 gd [.slice pt d.text.length ct,iv,xv] acc,bn 9 1 (.slice pt d.text.length ct) d.text.length (d.text.map Value.string)]
  (aE fun v ag ah=>v=.tuple #[]∧σ.sub ag∧∃SR b7,ah=cM 49 gd [.slice pt d.text.length ct,iv,SR] (cZ acc (iJ d).2)::bn 9 1 (.slice pt d.text.length ct) d.text.length (d.text.map Value.string)::b7∧((iJ d).1=d∧SR=xv∧b7=[]∨(∃p,(iJ d).1={d with tp:=some (p,d.input,L0 (sizes p.vars).toNat)})∧mY ag SR (iJ d).1.tp 0 b7)):=by
 have kh:=tB σ gd pt ct iv xv acc d.text hx hn gD hT hE (by omega)
 cases hP:bZ (rn d.text) with
 |error x=>
  have h0:=nI hP;(have hB:iJ d=(d,[tq x]):=by rw[iJ,hP]);rw[hP] at kh;rw[hB];have e1:decide (xI (Except.error x:uc Pr)=0)=false:=decide_eq_false h0;rw[e1] at kh;refine dF Tryz.func40 ?_;refine bq ?_;refine zw rfl (aC.cE (kh) rfl) ?_;rintro _ dQ _ ⟨_,⟨cs,rfl,hp,bQ,rfl⟩,rfl⟩;refine az.cl ?_;obtain⟨vs,bs,rfl,LN,LO⟩:=hp;obtain⟨WZ,W0,rfl,-,-⟩:=LN.shape;obtain⟨W1,W2,rfl,-,-⟩:=LO.shape;refine bq ?_;refine cR (fun g2=>?_) (ad rfl);refine cg ?_;refine bq ?_;exact N0 rfl ⟨rfl,bQ,_,[],rfl,.inl ⟨rfl,rfl,rfl⟩⟩
 |ok p=>
  obtain⟨Ig,hN⟩:=sI hP;rw[hP] at kh;refine dF Tryz.func40 ?_;refine bq ?_;refine zw rfl (aC.cE (kh) rfl) ?_;rintro _ dQ _ ⟨_,⟨cs,rfl,hp,bQ,rfl⟩,rfl⟩;refine az.cl ?_;have qJ:=hT.mono bQ;have wm:=hi.mono bQ;have Zp:jW p.body:=hp.i;have oq:=hp;obtain⟨vs,bs,rfl,LN,LO⟩:=oq;obtain⟨WZ,W0,rfl,-,-⟩:=LN.shape;obtain⟨W1,W2,rfl,-,-⟩:=LO.shape;obtain⟨pi,ci,rfl,-,-⟩:=wm.shape;refine bq ?_;refine cR (fun g2=>?_) (ad rfl);refine cg ?_;refine bM ?_;(first|refine XA.aY (R:=cM _ _ _ _) zL (cM.o) ?_|refine az.aY (R:=cM _ _ _ _) zL (cM.o) ?_|refine DA.aY (R:=cM _ _ _ _) zL (cM.o) ?_);rintro⟨u,q,cq⟩ hz;(first|refine XA.cl ?_|refine az.cl ?_|refine DA.cl ?_);by_cases Vz:40<d.input.length
  ·(have hB:iJ d=(d,[dG fE 1]):=by rw[iJ,hP];simp only;rw[if_pos Vz]);rw[hB];refine fZ 11 568 [5] (aw.bP (R:=au g2 _ _) zL (aw.bP (R:=au gd _ _) zL (aw.nil _))) ?_;refine b9 ?_;refine aK.bj rfl rfl Gd.free (by kernel_rfl) (aC.cE (Ep dQ _ p _ d.input hp wm (by omega) Ig Vz) rfl) ?_;rintro _ dq _ ⟨_,⟨rfl,bT,rfl⟩,rfl⟩;refine aK.cl ?_;have pE:=qJ.mono bT;refine bH ?_;refine az.eS (aw.fold (S:=cM 49 gd [.slice pt d.text.length ct,.slice pi d.input.length ci,xv] acc) (Θ:=[au gd (k6 u gd::.slice q acc.size cq::[.slice pt d.text.length ct,.slice pi d.input.length ci,xv]) 49,bn 5 1 (.slice q acc.size cq) acc.size (Lib.strCells acc)]) zD (fun m hm=>⟨u,q,cq,hz,hm⟩) (aw.refl _)) ?_;refine zw rfl (aC.cE (mG dq gd _ _ xv acc 1 ⟨by decide,by decide⟩ pE (by omega)) rfl) ?_;rintro _ lB _ ⟨_,⟨rfl,fc,rfl⟩,rfl⟩;refine az.cl ?_;refine aN ?_;refine bq ?_;exact N0 rfl ⟨rfl,bQ.trans (bT.trans fc),_,[],rfl,.inl ⟨rfl,rfl,rfl⟩⟩
  ·have ad3:=A7 p;(have hB:iJ d=({d with tp:=some (p,d.input,L0 (sizes p.vars).toNat)},[WY]):=by rw[iJ,hP];simp only;rw[if_neg Vz]);rw[hB];refine fZ 11 568 [5] (aw.bP (R:=au g2 _ _) zL (aw.bP (R:=au gd _ _) zL (aw.nil _))) ?_;refine b9 ?_;refine aK.bj rfl rfl Gd.free (by kernel_rfl) (aC.cE (LD dQ _ p _ d.input hp wm (by omega) Ig (by omega)) rfl) ?_;rintro _ dq _ ⟨_,⟨gx,db,pb,pc,cc,rfl,bT,mT,mK⟩,rfl⟩;refine aK.cl ?_;have rK:=mK;obtain⟨g,mb,sb,dd,ss,RY,RZ,pj,cj,hQ,RN,hG,EW,EZ,rfl⟩:=mK;(try dsimp only[List.append,List.cons_append,List.nil_append]);have pE:=qJ.mono bT;refine bH ?_;refine az.eS (aw.fold (S:=cM 49 gd [.slice pt d.text.length ct,.slice pi d.input.length ci,xv] acc) (Θ:=[au gd (k6 u gd::.slice q acc.size cq::[.slice pt d.text.length ct,.slice pi d.input.length ci,xv]) 49,bn 5 1 (.slice q acc.size cq) acc.size (Lib.strCells acc)]) zD (fun m hm=>⟨u,q,cq,hz,hm⟩) (aw.refl _)) ?_;have lh:=mG dq gd (.slice pt d.text.length ct) (.slice pi d.input.length ci) xv acc 0 ⟨by decide,by decide⟩ pE (by omega);rw[show tC acc 0=acc from if_pos rfl] at lh;refine zw rfl (aC.cE (lh) rfl) ?_;rintro _ lB _ ⟨_,⟨rfl,fc,rfl⟩,rfl⟩;refine az.cl ?_;refine aN ?_;refine bC ?_;(first|refine XA.aY (R:=cM _ _ _ _) zL (cM.o) ?_|refine az.aY (R:=cM _ _ _ _) zL (cM.o) ?_|refine DA.aY (R:=cM _ _ _ _) zL (cM.o) ?_);rintro⟨u2,q2,Zq⟩ KB;(first|refine XA.cl ?_|refine az.cl ?_|refine DA.cl ?_);refine aO ?_;refine zw rfl (aC.qO (ad rfl) rfl (ad rfl)) ?_;rintro _ _ _ ⟨g30,rfl,rfl,rfl⟩;refine az.eS (aw.fold (S:=cM 49 gd [.slice pt d.text.length ct,.slice pi d.input.length ci,ptr gx] acc) (Θ:=[au gd (k6 u2 gd::.slice q2 acc.size Zq::[.slice pt d.text.length ct,.slice pi d.input.length ci,ptr gx]) 49,bn 5 1 (.slice q2 acc.size Zq) acc.size (Lib.strCells acc)]) zD (fun m hm=>⟨u2,q2,Zq,KB,hm⟩) (aw.refl _)) ?_;refine zw rfl (aC.cE (yN lB gd _ _ (ptr gx) acc _ WY (by show acc.size+2+1≤_;omega)) rfl) ?_;rintro _ LB _ ⟨_,⟨rfl,oW,rfl⟩,rfl⟩;refine az.cl ?_;refine b3 ?_;have Ey:=fc.trans oW;exact fU rfl ⟨rfl,bQ.trans (bT.trans Ey),_,_,rfl,.inr ⟨⟨p,rfl⟩,gx,db,pb,pc,cc,0,rfl,mT.mono Ey (fun _ _ h=>h),rK.mono Ey,Int.le_refl _,Vy Ig d.input (by omega) (by omega),OP _,Zp,qC,rfl⟩⟩
def Grow (b b':Be):Prop:=b'.out.length≤b.out.length+1∧b'.m.cells.length=b.m.cells.length
theorem Ez (inp:List Int) (keep:Bool) (x:In) (b:Be):Grow b (aL inp keep x b):=by
 obtain⟨⟨next,stack,rd,outn,st,cells⟩,kept,out,wrong⟩:=b;(have z:∀{m:Mi} {k:Mi} {w:Bool},m.cells.length=cells.length→Grow ⟨⟨next,stack,rd,outn,st,cells⟩,kept,out,wrong⟩ ⟨m,k,out,w⟩:=fun h=>⟨Nat.le_succ _,h⟩);rw[aL];simp only;by_cases h1:x.op=1
 ·rw[if_pos h1];exact z rfl
 rw[if_neg h1];by_cases h2:x.op=2
 ·rw[if_pos h2];exact z rfl
 rw[if_neg h2];by_cases h3:x.op=3
 ·rw[if_pos h3]
  cases stack with
  |nil=>exact z rfl
  |cons k s=>
   by_cases hq:k<0∨x.b≤k
   ·simp only[if_pos hq];exact z rfl
   ·simp only[if_neg hq];exact z rfl
 rw[if_neg h3];by_cases h4:4≤x.op∧x.op≤8
 ·rw[if_pos h4]
  cases stack with
  |nil=>exact z rfl
  |cons k s=>
   cases s with
   |nil=>exact z rfl
   |cons y s=>exact z rfl
 rw[if_neg h4];by_cases h9:x.op=9
 ·rw[if_pos h9]
  cases stack with
  |nil=>exact z rfl
  |cons k s=>exact z List.length_set
 rw[if_neg h9];by_cases yx:x.op=10
 ·rw[if_pos yx]
  cases stack with
  |nil=>exact z rfl
  |cons n s=>
   cases s with
   |nil=>exact z rfl
   |cons k s=>
    by_cases hq:k<0∨x.b≤k
    ·simp only[if_pos hq];exact z rfl
    ·simp only[if_neg hq];exact z List.length_set
 rw[if_neg yx];by_cases pB:x.op=11
 ·rw[if_pos pB]
  cases stack with
  |nil=>exact z rfl
  |cons n s=>
   by_cases hq:outn=out.length
   ·simp only[if_pos hq];exact⟨by simp,rfl⟩
   ·simp only[if_neg hq];exact z rfl
 rw[if_neg pB];by_cases vB:x.op=12
 ·rw[if_pos vB];by_cases hq:inp.length≤rd
  ·rw[if_pos hq];exact z rfl
  ·rw[if_neg hq];exact z List.length_set
 rw[if_neg vB];by_cases CQ:x.op=13
 ·rw[if_pos CQ]
  cases stack with
  |nil=>exact z rfl
  |cons n s=>
   by_cases hq:n=0
   ·simp only[if_pos hq];exact z rfl
   ·simp only[if_neg hq];exact z rfl
 rw[if_neg CQ];by_cases ud:x.op=14
 ·rw[if_pos ud];exact z rfl
 rw[if_neg ud];by_cases js:x.op=15
 ·rw[if_pos js]
  cases keep with
  |true=>exact z rfl
  |false=>exact z rfl
 rw[if_neg js];by_cases CR:x.op=16
 ·rw[if_pos CR];exact z rfl
 ·rw[if_neg CR];exact z rfl
theorem u5 (code:List In) (inp:List Int):∀(f:Nat) (b:Be),(runM code inp f b).1.out.length≤b.out.length+f∧(runM code inp f b).1.m.cells.length=b.m.cells.length
 |0,b=>⟨Nat.le_refl _,rfl⟩
 |f+1,b=>by
  rw[runM];split
  ·exact⟨by simp only;omega,rfl⟩
  ·obtain⟨h1,h2⟩:=u5 code inp f (b5 code inp false b)
   have h3:Grow b (b5 code inp false b):=by
    rw[b5]
    cases e:code[b.m.next]? with
    |none=>exact⟨Nat.le_succ _,rfl⟩
    |some x=>exact Ez inp false x (bump b)
   exact⟨by simp only;have:=h3.1;omega,by simp only;rw[h2,h3.2]⟩
theorem LP {b:Be} {c:Int} (hw:b.wrong=false) (h:c=0∧b.m.st=1∨c=13∧b.m.st=0∨((c=11∨c=12)∧b.m.st=c+2)):uh b=c∧aF c:=by
 rw[uh,hw];rcases h with ⟨rfl,h⟩|⟨rfl,h⟩|⟨rfl|rfl,h⟩<;>(rw[h];exact⟨by decide,by decide,by decide⟩)
theorem LQ (σ:PH) (gd:Nat) (pt:Option Addr) (ct:Nat) (iv xv:Value) (acc:ByteArray) (d:jT) (fuel:Int) (hf:aF fuel) (hx:∀x∈d.text,x.size≤maxLen) (hn:d.text.length≤1000000) (gD:(rn d.text).size≤100000000) (hi:aV σ iv d.input) (qC:∀x∈d.input,aF x) (hT:rP σ) (hE:lp σ) (hb:acc.size+100000≤1000000000):
 ae Tryz.prog 41 #[ptr gd,i64 fuel] σ [cM 49 gd [.slice pt d.text.length ct,iv,xv] acc,bn 9 1 (.slice pt d.text.length ct) d.text.length (d.text.map Value.string)]
  (aE fun v ag ah=>v=.tuple #[]∧σ.sub ag∧told (jU d fuel)≤100000∧ah=[cM 49 gd [.slice pt d.text.length ct,iv,xv] (cZ acc (jU d fuel)),bn 9 1 (.slice pt d.text.length ct) d.text.length (d.text.map Value.string)]):=by
 have kh:=tB σ gd pt ct iv xv acc d.text hx hn gD hT hE (by omega)
 cases hP:bZ (rn d.text) with
 |error x=>
  have h0:=nI hP;(have hB:jU d fuel=[tq x]:=by rw[jU,hP]);rw[hP] at kh;rw[hB];have e1:decide (xI (Except.error x:uc Pr)=0)=false:=decide_eq_false h0;rw[e1] at kh;refine bS Tryz.func41 ?_;refine bq ?_;refine zw rfl (aC.cE (kh) rfl) ?_;rintro _ dQ _ ⟨_,⟨cs,rfl,hp,bQ,rfl⟩,rfl⟩;refine az.cl ?_;obtain⟨vs,bs,rfl,LN,LO⟩:=hp;obtain⟨WZ,W0,rfl,-,-⟩:=LN.shape;obtain⟨W1,W2,rfl,-,-⟩:=LO.shape;refine bq ?_;refine cR (fun g4=>?_) (ad rfl);refine cg ?_;refine bq ?_;have Sg:=wI (s:=rn d.text);rw[hP] at Sg;have vD:=hZ Sg.1 fE;have zt:=hZ Sg.2 (dG fE x.1);have QQ:fE.size=2:=rfl;exact N0 rfl ⟨rfl,bQ,(by show (dG (dG fE x.1) x.2).size+1+0≤_;change (dG fE x.1).size≤_ at vD;change (dG (dG fE x.1) x.2).size≤_ at zt;omega),rfl⟩
 |ok p=>
  obtain⟨Ig,hN⟩:=sI hP;rw[hP] at kh;refine bS Tryz.func41 ?_;refine bq ?_;refine zw rfl (aC.cE (kh) rfl) ?_;rintro _ dQ _ ⟨_,⟨cs,rfl,hp,bQ,rfl⟩,rfl⟩;refine az.cl ?_;have qJ:=hT.mono bQ;have wm:=hi.mono bQ;have Zp:jW p.body:=hp.i;have oq:=hp;obtain⟨vs,bs,rfl,LN,LO⟩:=oq;obtain⟨WZ,W0,rfl,-,-⟩:=LN.shape;obtain⟨W1,W2,rfl,-,-⟩:=LO.shape;obtain⟨pi,ci,rfl,-,-⟩:=wm.shape;refine bq ?_;refine cR (fun g4=>?_) (ad rfl);refine cg ?_;refine bM ?_;(first|refine XA.aY (R:=cM _ _ _ _) zL (cM.o) ?_|refine az.aY (R:=cM _ _ _ _) zL (cM.o) ?_|refine DA.aY (R:=cM _ _ _ _) zL (cM.o) ?_);rintro⟨u,q,cq⟩ hz;(first|refine XA.cl ?_|refine az.cl ?_|refine DA.cl ?_);by_cases hr:40<d.input.length∨fuel<0∨3000<fuel
  ·(have hB:jU d fuel=[dG fE 1]:=by rw[jU,hP];simp only;rw[if_pos hr]);rw[hB];have eH:=Eh dQ _ p _ d.input fuel hp wm Ig hr;refine XA.join [(6,8),(16,26)] (fun y:Nat=>[(6,ptr y),(7,i64 0),(8,i64 1)]) (fun y ag ah=>dQ.sub ag∧ah=[au y [i64 0,.slice none 0 0,.slice none 0 0] 75,au gd (k6 u gd::.slice q acc.size cq::[.slice pt d.text.length ct,.slice pi d.input.length ci,xv]) 49,bn 5 1 (.slice q acc.size cq) acc.size (Lib.strCells acc),bn 9 1 (.slice pt d.text.length ct) d.text.length (d.text.map Value.string)]) ?_ ?_
   ·skip;refine XA.n7 (by kernel_rfl) _ _ [7,8,9,10,12,13,14] 15 #[false,false,false,false,false,false,false,false,false,false,false,false,false,false,false] rfl rfl (by kernel_rfl) (PH.sub.refl _) (aw.bP (R:=au g4 _ _) zL (aw.bP (R:=au gd _ _) zL (aw.nil _))) ?_;refine qr 0 #[tT,fF,fF,fF,fF,fF,fF,fF,fF,fF,fF,fF,fF,fF,fF] rfl (Rd.Ah rfl) ?_;refine qp 1 #[tT,tT,fF,fF,fF,fF,fF,fF,fF,fF,fF,fF,fF,fF,fF] rfl Rd.mv ?_;refine qp 2 #[tT,tT,tT,fF,fF,fF,fF,fF,fF,fF,fF,fF,fF,fF,fF] rfl (Rd.nilCheck rfl) ?_;refine qp 3 #[tT,tT,tT,tT,fF,fF,fF,fF,fF,fF,fF,fF,fF,fF,fF] rfl (Rd.fA rfl) ?_;refine qr 4 #[tT,tT,tT,tT,tT,fF,fF,fF,fF,fF,fF,fF,fF,fF,fF] rfl (Rd.EN rfl (ad rfl) rfl) ?_;refine qp 5 #[tT,tT,tT,tT,tT,tT,fF,fF,fF,fF,fF,fF,fF,fF,fF] rfl Rd.mv ?_;refine cC.w2 (i:=6) (j:=11) (by kernel_rfl) ?_ ?_
    ·refine qw #[tT,tT,tT,tT,tT,tT,tT,fF,fF,fF,fF,fF,fF,fF,fF] rfl (aC.cE eH rfl) ?_;rintro _ dq _ ⟨_,⟨rfl,bT,rfl⟩,rfl⟩;refine⟨⟨zX,zE⟩,cC.re zC ?_⟩;refine qp 7 #[tT,tT,tT,tT,tT,tT,tT,tT,fF,fF,fF,fF,fF,fF,fF] rfl Rd.mv ?_;refine qp 8 #[tT,tT,tT,tT,tT,tT,tT,tT,tT,fF,fF,fF,fF,fF,fF] rfl (Rd.extract rfl rfl) ?_;refine qp 9 #[tT,tT,tT,tT,tT,tT,tT,tT,tT,tT,fF,fF,fF,fF,fF] rfl (Rd.extract rfl rfl) ?_;refine qp 10 #[tT,tT,tT,tT,tT,tT,tT,tT,tT,tT,tT,fF,fF,fF,fF] rfl (Rd.extract rfl rfl) ?_;refine qa 11 ?_;refine qw #[tT,tT,tT,tT,tT,tT,tT,tT,tT,tT,tT,tT,fF,fF,fF] rfl (aC.alloc (ad rfl)) ?_;rintro _ _ _ ⟨g6,rfl,rfl,rfl⟩;refine⟨⟨zX,zE⟩,cC.re zC ?_⟩;refine qa 12 ?_;refine iN.bj (aQ:=#[tT,tT,tT,tT,tT,tT,tT,tT,tT,tT,tT,tT,tT,fF,fF]) rfl rfl Gd.free (by kernel_rfl) rfl (by kernel_rfl) (aC.st (ad rfl) rfl) ?_;rintro _ _ _ ⟨rfl,rfl,rfl⟩;refine cC.re zC ?_;refine qp 13 #[tT,tT,tT,tT,tT,tT,tT,tT,tT,tT,tT,tT,tT,tT,fF] rfl Rd.BO ?_;refine qp 14 #[tT,tT,tT,tT,tT,tT,tT,tT,tT,tT,tT,tT,tT,tT,tT] rfl Rd.BO ?_;refine cC.nil rfl ?_;refine DA.bE ⟨zK,g6,_,zM,?_,bT,rfl⟩;exact zE
    ·refine qw #[tT,tT,tT,tT,tT,tT,fF,fF,fF,fF,fF,tT,fF,fF,fF] rfl (aC.alloc (ad rfl)) ?_;rintro _ _ _ ⟨g6,rfl,rfl,rfl⟩;refine⟨⟨zX,zE⟩,cC.re zC ?_⟩;refine qa 6 ?_;refine qw #[tT,tT,tT,tT,tT,tT,tT,fF,fF,fF,fF,tT,fF,fF,fF] rfl (aC.cE eH rfl) ?_;rintro _ dq _ ⟨_,⟨rfl,bT,rfl⟩,rfl⟩;refine⟨⟨zX,zE⟩,cC.re zC ?_⟩;refine qp 7 #[tT,tT,tT,tT,tT,tT,tT,tT,fF,fF,fF,tT,fF,fF,fF] rfl Rd.mv ?_;refine qp 8 #[tT,tT,tT,tT,tT,tT,tT,tT,tT,fF,fF,tT,fF,fF,fF] rfl (Rd.extract rfl rfl) ?_;refine qp 9 #[tT,tT,tT,tT,tT,tT,tT,tT,tT,tT,fF,tT,fF,fF,fF] rfl (Rd.extract rfl rfl) ?_;refine qp 10 #[tT,tT,tT,tT,tT,tT,tT,tT,tT,tT,tT,tT,fF,fF,fF] rfl (Rd.extract rfl rfl) ?_;refine qa 12 ?_;refine iN.bj (aQ:=#[tT,tT,tT,tT,tT,tT,tT,tT,tT,tT,tT,tT,tT,fF,fF]) rfl rfl Gd.free (by kernel_rfl) rfl (by kernel_rfl) (aC.st (ad rfl) rfl) ?_;rintro _ _ _ ⟨rfl,rfl,rfl⟩;refine cC.re zC ?_;refine qp 13 #[tT,tT,tT,tT,tT,tT,tT,tT,tT,tT,tT,tT,tT,tT,fF] rfl Rd.BO ?_;refine qp 14 #[tT,tT,tT,tT,tT,tT,tT,tT,tT,tT,tT,tT,tT,tT,tT] rfl Rd.BO ?_;refine cC.nil rfl ?_;refine DA.bE ⟨zK,g6,_,zM,?_,bT,rfl⟩;exact zE
   rintro g6 δ dq _ ⟨bT,rfl⟩;dsimp only[eb,List.foldl];refine b3 ?_;have pE:=qJ.mono bT;refine b9 ?_;refine az.eS (aw.fold (S:=cM 49 gd [.slice pt d.text.length ct,.slice pi d.input.length ci,xv] acc) (Θ:=[au gd (k6 u gd::.slice q acc.size cq::[.slice pt d.text.length ct,.slice pi d.input.length ci,xv]) 49,bn 5 1 (.slice q acc.size cq) acc.size (Lib.strCells acc)]) zD (fun m hm=>⟨u,q,cq,hz,hm⟩) (aw.refl _)) ?_;refine zw rfl (aC.cE (mG dq gd _ _ xv acc 1 ⟨by decide,by decide⟩ pE (by omega)) rfl) ?_;rintro _ lB _ ⟨_,⟨rfl,fc,rfl⟩,rfl⟩;refine az.cl ?_;refine aN ?_;refine bq ?_;exact N0 rfl ⟨rfl,bQ.trans (bT.trans fc),(by have h1:=hZ (n:=1) ⟨by decide,by decide⟩ fE;have h2:fE.size=2:=rfl;show (dG fE 1).size+1+0≤_;omega),rfl⟩
  ·obtain⟨f,rfl⟩:∃f:Nat,fuel=f:=⟨fuel.toNat,by omega⟩;have eH:=RJ dQ _ p _ d.input f hp wm Ig (by omega) (by omega);obtain⟨-,-,nU,zn⟩:=dr Ig;have zp:=dU nU;(have hB:jU d f=wu p d.input f:=by rw[jU,hP];simp only;rw[if_neg hr,Int.toNat_natCast]);rw[hB];refine XA.join [(6,8),(16,26)] (fun y:Nat×((Int×RS)×((Option Addr×Nat)×(Option Addr×Nat)))=>[(6,ptr y.1),(7,i64 ((f:Int)-y.2.1.2.left)),(8,i64 0)]) (fun y ag ah=>dQ.sub ag∧oS p d.input f y.2.1.1 y.2.1.2∧aV ag (.slice y.2.2.1.1 y.2.1.2.out.length y.2.2.1.2) y.2.1.2.out∧aV ag (.slice y.2.2.2.1 y.2.1.2.cells.length y.2.2.2.2) y.2.1.2.cells∧y.2.1.2.left≤f∧ah=[au y.1 [i64 y.2.1.1,.slice y.2.2.1.1 y.2.1.2.out.length y.2.2.1.2,.slice y.2.2.2.1 y.2.1.2.cells.length y.2.2.2.2] 75,au gd (k6 u gd::.slice q acc.size cq::[.slice pt d.text.length ct,.slice pi d.input.length ci,xv]) 49,bn 5 1 (.slice q acc.size cq) acc.size (Lib.strCells acc),bn 9 1 (.slice pt d.text.length ct) d.text.length (d.text.map Value.string)]) ?_ ?_
   ·skip;refine XA.n7 (by kernel_rfl) _ _ [7,8,9,10,12,13,14] 15 #[false,false,false,false,false,false,false,false,false,false,false,false,false,false,false] rfl rfl (by kernel_rfl) (PH.sub.refl _) (aw.bP (R:=au g4 _ _) zL (aw.bP (R:=au gd _ _) zL (aw.nil _))) ?_;refine qr 0 #[tT,fF,fF,fF,fF,fF,fF,fF,fF,fF,fF,fF,fF,fF,fF] rfl (Rd.Ah rfl) ?_;refine qp 1 #[tT,tT,fF,fF,fF,fF,fF,fF,fF,fF,fF,fF,fF,fF,fF] rfl Rd.mv ?_;refine qp 2 #[tT,tT,tT,fF,fF,fF,fF,fF,fF,fF,fF,fF,fF,fF,fF] rfl (Rd.nilCheck rfl) ?_;refine qp 3 #[tT,tT,tT,tT,fF,fF,fF,fF,fF,fF,fF,fF,fF,fF,fF] rfl (Rd.fA rfl) ?_;refine qr 4 #[tT,tT,tT,tT,tT,fF,fF,fF,fF,fF,fF,fF,fF,fF,fF] rfl (Rd.EN rfl (ad rfl) rfl) ?_;refine qp 5 #[tT,tT,tT,tT,tT,tT,fF,fF,fF,fF,fF,fF,fF,fF,fF] rfl Rd.mv ?_;refine cC.w2 (i:=6) (j:=11) (by kernel_rfl) ?_ ?_
    ·refine qw #[tT,tT,tT,tT,tT,tT,tT,fF,fF,fF,fF,fF,fF,fF,fF] rfl (aC.cE eH rfl) ?_;rintro _ dq _ ⟨_,⟨c,s,po,pc,co,cc,SS,rfl,SU,N5,rj,bT,rfl⟩,rfl⟩;refine⟨⟨zX,zE⟩,cC.re zC ?_⟩;refine qp 7 #[tT,tT,tT,tT,tT,tT,tT,tT,fF,fF,fF,fF,fF,fF,fF] rfl Rd.mv ?_;refine qp 8 #[tT,tT,tT,tT,tT,tT,tT,tT,tT,fF,fF,fF,fF,fF,fF] rfl (Rd.extract rfl rfl) ?_;refine qp 9 #[tT,tT,tT,tT,tT,tT,tT,tT,tT,tT,fF,fF,fF,fF,fF] rfl (Rd.extract rfl rfl) ?_;refine qp 10 #[tT,tT,tT,tT,tT,tT,tT,tT,tT,tT,tT,fF,fF,fF,fF] rfl (Rd.extract rfl rfl) ?_;refine qa 11 ?_;refine qw #[tT,tT,tT,tT,tT,tT,tT,tT,tT,tT,tT,tT,fF,fF,fF] rfl (aC.alloc (ad rfl)) ?_;rintro _ _ _ ⟨g6,rfl,rfl,rfl⟩;refine⟨⟨zX,zE⟩,cC.re zC ?_⟩;refine qa 12 ?_;refine iN.bj (aQ:=#[tT,tT,tT,tT,tT,tT,tT,tT,tT,tT,tT,tT,tT,fF,fF]) rfl rfl Gd.free (by kernel_rfl) rfl (by kernel_rfl) (aC.st (ad rfl) rfl) ?_;rintro _ _ _ ⟨rfl,rfl,rfl⟩;refine cC.re zC ?_;refine qp 13 #[tT,tT,tT,tT,tT,tT,tT,tT,tT,tT,tT,tT,tT,tT,fF] rfl Rd.BO ?_;refine qp 14 #[tT,tT,tT,tT,tT,tT,tT,tT,tT,tT,tT,tT,tT,tT,tT] rfl Rd.BO ?_;refine cC.nil rfl ?_;refine DA.bE ⟨zK,(g6,((c,s),((po,co),(pc,cc)))),_,zM,?_,bT,SS,SU,N5,rj,rfl⟩;exact zE
    ·refine qw #[tT,tT,tT,tT,tT,tT,fF,fF,fF,fF,fF,tT,fF,fF,fF] rfl (aC.alloc (ad rfl)) ?_;rintro _ _ _ ⟨g6,rfl,rfl,rfl⟩;refine⟨⟨zX,zE⟩,cC.re zC ?_⟩;refine qa 6 ?_;refine qw #[tT,tT,tT,tT,tT,tT,tT,fF,fF,fF,fF,tT,fF,fF,fF] rfl (aC.cE eH rfl) ?_;rintro _ dq _ ⟨_,⟨c,s,po,pc,co,cc,SS,rfl,SU,N5,rj,bT,rfl⟩,rfl⟩;refine⟨⟨zX,zE⟩,cC.re zC ?_⟩;refine qp 7 #[tT,tT,tT,tT,tT,tT,tT,tT,fF,fF,fF,tT,fF,fF,fF] rfl Rd.mv ?_;refine qp 8 #[tT,tT,tT,tT,tT,tT,tT,tT,tT,fF,fF,tT,fF,fF,fF] rfl (Rd.extract rfl rfl) ?_;refine qp 9 #[tT,tT,tT,tT,tT,tT,tT,tT,tT,tT,fF,tT,fF,fF,fF] rfl (Rd.extract rfl rfl) ?_;refine qp 10 #[tT,tT,tT,tT,tT,tT,tT,tT,tT,tT,tT,tT,fF,fF,fF] rfl (Rd.extract rfl rfl) ?_;refine qa 12 ?_;refine iN.bj (aQ:=#[tT,tT,tT,tT,tT,tT,tT,tT,tT,tT,tT,tT,tT,fF,fF]) rfl rfl Gd.free (by kernel_rfl) rfl (by kernel_rfl) (aC.st (ad rfl) rfl) ?_;rintro _ _ _ ⟨rfl,rfl,rfl⟩;refine cC.re zC ?_;refine qp 13 #[tT,tT,tT,tT,tT,tT,tT,tT,tT,tT,tT,tT,tT,tT,fF] rfl Rd.BO ?_;refine qp 14 #[tT,tT,tT,tT,tT,tT,tT,tT,tT,tT,tT,tT,tT,tT,tT] rfl Rd.BO ?_;refine cC.nil rfl ?_;refine DA.bE ⟨zK,(g6,((c,s),((po,co),(pc,cc)))),_,zM,?_,bT,SS,SU,N5,rj,rfl⟩;exact zE
   rintro⟨g6,⟨c,s⟩,⟨po,co⟩,⟨pc,cc⟩⟩ δ dq _ ⟨bT,SS,SU,N5,rj,rfl⟩;dsimp only[eb,List.foldl];refine b3 ?_;simp only at SS SU N5 rj;obtain⟨b,e1,-,e2,e3,e4,e5⟩:=Lv Ig SS;obtain⟨e6,Il⟩:=LP e4 e5;obtain⟨g1,Zr⟩:=u5 (ak p) d.input f (tl (sizes p.vars).toNat);have W3:=Ht (yQ Zp) qC f (OP (sizes p.vars).toNat)
   have ER:wu p d.input f=dG rm ((f:Int)-s.left)::jI c s.out s.cells:=by
    rw[wu,e1];simp only;rw[e6,e2,e3,show (((f-s.left:Nat):Nat):Int)=(f:Int)-s.left by omega]
   rw[ER];rw[e1] at g1 Zr W3;simp only at g1 Zr W3;rw[e3] at g1;rw[e2] at Zr;(have WR:s.out.length≤3000:=by have:(tl (sizes p.vars).toNat).out.length=0:=rfl;omega);(have xU:s.cells.length≤48:=by have:(tl (sizes p.vars).toNat).m.cells.length=(sizes p.vars).toNat:=List.length_replicate;omega);(have R9:∀x∈s.out,aF x:=by rw[←e3];exact W3.out);(have VF:∀x∈s.cells,aF x:=by rw[←e2];exact W3.m.2);have pE:=qJ.mono bT;have W4:aF ((f:Int)-s.left):=⟨by omega,by omega⟩;have Zs:=iA W4;refine b9 ?_;refine az.eS (aw.fold (S:=cM 49 gd [.slice pt d.text.length ct,.slice pi d.input.length ci,xv] acc) (Θ:=[au gd (k6 u gd::.slice q acc.size cq::[.slice pt d.text.length ct,.slice pi d.input.length ci,xv]) 49,bn 5 1 (.slice q acc.size cq) acc.size (Lib.strCells acc)]) zD (fun m hm=>⟨u,q,cq,hz,hm⟩) (aw.refl _)) ?_;have lh:=mG dq gd (.slice pt d.text.length ct) (.slice pi d.input.length ci) xv acc 0 ⟨by decide,by decide⟩ pE (by omega);rw[show tC acc 0=acc from if_pos rfl] at lh;refine zw rfl (aC.cE (lh) rfl) ?_;rintro _ lB _ ⟨_,⟨rfl,fc,rfl⟩,rfl⟩;refine az.cl ?_;have VG:=pE.mono fc;refine aN ?_;refine bt ?_;refine zw rfl (aC.cE (qA lB _ W4 VG) rfl) ?_;rintro _ _ _ ⟨_,⟨rfl,rfl,rfl⟩,rfl⟩;refine az.cl ?_;refine zw rfl (aC.bs (fun _ _=>ad) rfl rfl rfl rfl rfl) ?_;rintro _ _ _ ⟨g33,rfl,rfl,rfl⟩;refine zw rfl (aC.cE (CY lB gd _ _ xv acc _ rm _ W4 (by decide) (by omega)) rfl) ?_;rintro _ LB _ ⟨_,⟨rfl,oW,rfl⟩,rfl⟩;refine az.cl ?_;have Zt:=SU.mono (fc.trans oW);have Zu:=N5.mono (fc.trans oW);refine b9 ?_
   have Fb:(gH acc (dG rm ((f:Int)-s.left))).size≤acc.size+100:=by
    have z1:wT.size=1:=rfl;have z2:zF.size=1:=rfl;have z3:rm.size=4:=rfl;simp only[gH,dG,ByteArray.size_append];omega
   refine zw rfl (aC.cE (yO LB gd _ _ xv (gH acc (dG rm ((f:Int)-s.left))) c _ _ s.out s.cells Il Zt Zu (VG.mono oW) R9 VF (by omega) (by omega) (by omega)) rfl) ?_;rintro _ Zv _ ⟨_,⟨rfl,SV,rfl⟩,rfl⟩;refine az.cl ?_;refine b3 ?_;exact fU rfl ⟨rfl,bQ.trans (bT.trans (fc.trans (oW.trans SV))),(by have h1:=ry Il R9 VF;have h2:=hZ W4 rm;have h3:rm.size=4:=rfl;rw[told];omega),rfl⟩
theorem nJ (s:oV):aF (bh s):=by
 rw[bh];split
 ·exact⟨by decide,by decide⟩
 split
 ·exact⟨by decide,by decide⟩
 ·exact⟨by decide,by decide⟩
theorem Bq (σ:PH) (gd:Nat) (v0 v1:Value) (acc:ByteArray) (d:jT) (p:Pr) (inp:List Int) (L:Li) (k:Nat) (s:oV) (gx db pb:Nat) (pc:Option Addr) (cc:Nat) (gn:Int) (Γ:List HP) (H6:s.K<9223372036854775808) (zq:0≤s.mask) (AB:s.mask<18446744073709551616)
 (hc:bO 4 yu σ (.slice pc (ak p).length cc) (ak p)) (hL:gK σ gx db pb pc cc (sizes p.vars).toNat p inp L gn Γ) (cU:fp p inp L k) (hk:k+3000≤900000) (uW:gn≤k) (hT:rP σ) (hb:acc.size+400≤1000000000):
 ae Tryz.prog 42 #[ptr gd,.agg #[i64 s.kind,i64 s.n,i64 s.K,.int .u64 s.mask]] σ (cM 49 gd [v0,v1,ptr gx] acc::Γ)
  (aE fun v ag ah=>v=.tuple #[]∧σ.sub ag∧∃(Bh:Int) (b7:List HP),Bh≤(k+(jB (ak p) inp s L).2:Nat)∧gK ag gx db pb pc cc (sizes p.vars).toNat p inp (jB (ak p) inp s L).1 Bh b7∧ah=cM 49 gd [v0,v1,ptr gx] (cZ acc (iz d p inp L s).2)::b7):=by
 have Vp:=Zf σ gx db pb pc cc (sizes p.vars).toNat p inp L gn k s Γ H6 zq AB hc hL cU hk uW;have hn3:=(qu s cU (by omega)).2.1;have E4:aF ((jB (ak p) inp s L).2:Nat):=⟨by omega,by omega⟩;obtain⟨n,hn⟩:∃n,(jB (ak p) inp s L).2=n:=⟨_,rfl⟩;rw[hn] at Vp hn3 E4;obtain⟨g,mb,sb,dd,ss,pi,ci,pj,cj,hQ,RN,hG,hi,hj,rfl⟩:=hL;obtain⟨kd,nn,K,m⟩:=s;simp only at Vp;(refine bS Tryz.func42 ?_;refine aN ?_;refine cN fun g3=>?_;refine bq ?_);(first|refine XA.aY (R:=cM _ _ _ _) zL (cM.o) ?_|refine az.aY (R:=cM _ _ _ _) zL (cM.o) ?_|refine DA.aY (R:=cM _ _ _ _) zL (cM.o) ?_);rintro⟨u,q,cq⟩ hz;(first|refine XA.cl ?_|refine az.cl ?_|refine DA.cl ?_);refine fZ 11 594 [5] (aw.bP (R:=au gd _ _) zL (aw.bP (R:=au g3 _ _) zL (aw.nil _))) ?_;refine b9 ?_;refine aK.bj rfl rfl Gd.free (by kernel_rfl) (aC.cE (Vp) rfl) ?_;rintro _ dQ _ ⟨b7,⟨rfl,bQ,Bh,VH,-,mK⟩,rfl⟩;refine aK.cl ?_;have rK:=mK;obtain⟨g2,WS,WT,dd2,ss2,RY,RZ,WU,WV,Bj,LC,Eo,EW,EZ,rfl⟩:=mK;(try dsimp only[List.append,List.cons_append,List.nil_append]);have qJ:=hT.mono bQ;refine cg ?_;refine az.eS (aw.fold (S:=cM 49 gd [v0,v1,ptr gx] acc) (Θ:=[au gd (k6 u gd::.slice q acc.size cq::[v0,v1,ptr gx]) 49,bn 5 1 (.slice q acc.size cq) acc.size (Lib.strCells acc)]) zD (fun m hm=>⟨u,q,cq,hz,hm⟩) (aw.refl _)) ?_;by_cases hf:bh ⟨kd,nn,K,m⟩=0
 ·(have hS:(iz d p inp L ⟨kd,nn,K,m⟩).2=[dG Es (n:Nat)]:=by rw[iz,if_neg (fun h=>h hf),←hn]);rw[hS];have lh:=mG dQ gd v0 v1 (ptr gx) acc (bh ⟨kd,nn,K,m⟩) (nJ _) qJ (by omega);rw[tC,if_pos hf,decide_eq_false (fun h=>h hf:¬bh ⟨kd,nn,K,m⟩≠0)] at lh;refine zw rfl (aC.cE (lh) rfl) ?_;rintro _ dq _ ⟨_,⟨rfl,bT,rfl⟩,rfl⟩;refine az.cl ?_;have pE:=qJ.mono bT;refine bq ?_;refine bM ?_;refine zw rfl (aC.cE (qA dq _ E4 pE) rfl) ?_;rintro _ _ _ ⟨_,⟨rfl,rfl,rfl⟩,rfl⟩;refine az.cl ?_;refine zw rfl (aC.bs (fun _ _=>ad) rfl rfl rfl rfl rfl) ?_;rintro _ _ _ ⟨g22,rfl,rfl,rfl⟩;refine zw rfl (aC.cE (CY dq gd v0 v1 (ptr gx) acc _ Es _ E4 (by decide) (by omega)) rfl) ?_;rintro _ lB _ ⟨_,⟨rfl,fc,rfl⟩,rfl⟩;refine az.cl ?_;refine b3 ?_;exact fU rfl ⟨rfl,bQ.trans (bT.trans fc),Bh,_,by rw[hn];exact VH,rK.mono (bT.trans fc),rfl⟩
 ·(have hS:(iz d p inp L ⟨kd,nn,K,m⟩).2=[dG fE (bh ⟨kd,nn,K,m⟩)]:=by rw[iz,if_pos hf]);rw[hS];have lh:=mG dQ gd v0 v1 (ptr gx) acc (bh ⟨kd,nn,K,m⟩) (nJ _) qJ (by omega);rw[tC,if_neg hf,decide_eq_true (hf:bh ⟨kd,nn,K,m⟩≠0)] at lh;refine zw rfl (aC.cE (lh) rfl) ?_;rintro _ dq _ ⟨_,⟨rfl,bT,rfl⟩,rfl⟩;refine az.cl ?_;refine bq ?_;refine aN ?_;exact fU rfl ⟨rfl,bQ.trans bT,Bh,_,by rw[hn];exact VH,rK.mono bT,rfl⟩
theorem Br {ws:List ByteArray} {i:Nat} {w:ByteArray} {n:Int} (acc:List Int) (h:gL ws=(gL (ws.drop i)).map (acc++ ·)) (hw:ws[i]? =some w) (hn:gP w=some n):gL ws=(gL (ws.drop (i+1))).map (acc++[n]++ ·):=by
 rw[h,er hw,gL,hn]
 cases gL (ws.drop (i+1)) with
 |none=>rfl
 |some l=>simp
theorem tD {ws:List ByteArray} {i:Nat} {w:ByteArray} {acc:List Int} (h:gL ws=(gL (ws.drop i)).map (acc++ ·)) (hw:ws[i]? =some w) (hn:gP w=none):gL ws=none:=by
 rw[h,er hw,gL,hn];rfl
theorem EA (σ:PH) (v:Value) (ws:List ByteArray) (h:bO 1 n9 σ v ws) (hs:∀w∈ws,w.size≤100000000) (hn:ws.length≤1000000) (hT:rP σ) (hE:lp σ):
 ae Tryz.prog 22 #[v] σ [] (aE fun r ag ah=>σ.sub ag∧ah=[]∧((gL ws=none∧r=.tuple #[.slice none 0 0,.bool false])∨∃l p c,gL ws=some l∧(∀x∈l,aF x)∧l.length≤ws.length∧r=.tuple #[.slice p l.length c,.bool true]∧aV ag (.slice p l.length c) l)):=by
 obtain⟨p0,c0,rfl,h1,h2⟩:=h.shape;(refine dF Tryz.func22 ?_;refine tX ?_;refine XA.eS (aw.fy (e:=2) (size:=1) (aw.refl _)) ?_;refine XA.gen [(2,_),(3,_),(4,_),(9,_),(10,_),(11,_)] jN fun δ=>?_);dsimp only[List.foldl];refine XA.loop [(2,4),(6,8),(11,32)] (fun x:Nat×(Option Addr×Nat)=>[(11,i64 x.1),(4,.slice x.2.1 x.1 x.2.2)]) (fun x ag ah=>σ=ag∧x.1≤ws.length∧∃acc:List Int,acc.length=x.1∧(∀y∈acc,aF y)∧gL ws=(gL (ws.drop x.1)).map (acc++ ·)∧ah=[bn 2 1 (.slice x.2.1 x.1 x.2.2) x.1 (ints acc)]) (fun x=>ws.length-x.1) (0,(none,0)) (by exact⟨rfl,rfl,trivial⟩) (Δ0:=_) ?_ (⟨rfl,Nat.zero_le _,[],rfl,fun y hy=>(by cases hy),by simp,rfl⟩) ?_
 ·exact zE
 rintro⟨i,pl,cl⟩ δ _ _ ⟨rfl,hi,acc,eR,E3,bF,rfl⟩;dsimp only[eb,List.foldl];simp only at hi eR bF;by_cases aT:i<ws.length
 ·obtain⟨w,hw⟩:∃w,ws[i]? =some w:=⟨_,List.getElem?_eq_getElem aT⟩;obtain⟨g,o,row,rfl,⟨rfl,-⟩,-,bL⟩:=h.at hw;rw[Nat.mul_one] at bL;have hws:=hs w (List.mem_of_getElem? hw);refine aO ?_;refine mQ ?_;refine dJ ?_;refine zw rfl (aC.cE (BW σ w hws hE) rfl) ?_;rintro v _ _ ⟨_,⟨vC,rfl,rfl⟩,rfl⟩;refine az.cl ?_;rcases vC with ⟨n,Zw,rfl⟩|⟨xd,n,a,rfl⟩
  ·obtain⟨uz,As⟩:=iP Zw;refine cg ?_;refine zO rfl (Rd.sw lL.choose_spec rfl) ?_;refine aN ?_;(first|refine az.wanted rfl rfl ?_|refine az.wq rfl rfl ?_);refine zw rfl (aC.cE (vz σ n uz As hT) rfl) ?_;rintro _ _ _ ⟨_,⟨rfl,rfl,rfl⟩,rfl⟩;refine az.cl ?_;refine b3 ?_;(first|(refine zG ?_;refine zO rfl (Rd.neqs rfl rfl) ?_)|refine zH ?_);refine bq ?_;by_cases hq:eI n=w
   ·(have QB:¬(eI n≠w):=fun h=>h hq);(have y3:gP w=some n:=by rw[mn Zw,if_pos hq]);refine XA.aR rfl (by first|rfl|exact decide_eq_false QB) ?_;refine b9 ?_;refine zw rfl (aC.qO (ad rfl) rfl (ad rfl)) ?_;rintro _ _ _ ⟨g30,rfl,rfl,rfl⟩
    have HC:∀y∈acc++[n],aF y:=fun y hy=>by
     rcases List.mem_append.1 hy with hy|hy
     ·exact E3 y hy
     ·rw[List.mem_singleton] at hy;subst hy;exact⟨uz,As⟩
    have iM:=Br acc bF hw y3;(have zp:ints (acc++[n])=ints acc++[i64 n]:=by simp[ints]);refine zw rfl (aC.tS (ad rfl) rfl (ad rfl) rfl rfl rfl) ?_;rintro _ _ _ ⟨p31,c31,rfl,rfl,rfl⟩;refine a8 ?_;refine⟨cF,(i+1,(p31,c31)),_,zM,?_,⟨rfl,aT,acc++[n],(by rw[List.length_append,eR];rfl),HC,iM,rfl⟩,(by omega)⟩
    ·rw[zp];exact zE
   ·(have y3:gP w=none:=by rw[mn Zw,if_neg hq]);refine XA.bG rfl (by first|rfl|exact decide_eq_true hq) ?_;refine eP ?_;exact ao.ret (aG.two rfl rfl rfl) (aw.nil _) ⟨.refl _,rfl,.inl ⟨tD bF hw y3,rfl⟩⟩
  ·have y3:gP w=none:=nq xd;refine cg ?_;refine zO rfl (Rd.sv lL.choose_spec rfl) ?_;refine aN ?_;(first|refine zH ?_);refine b3 ?_;(first|(refine zG ?_;refine zO rfl (Rd.neqs rfl rfl) ?_)|refine zH ?_);refine bq ?_;refine dJ ?_;exact ao.ret (aG.two rfl rfl rfl) (aw.nil _) ⟨.refl _,rfl,.inl ⟨tD bF hw y3,rfl⟩⟩
 ·have e:ws.drop i=[]:=List.drop_of_length_le (by omega);rw[e] at bF;subst eR;(have bF:gL ws=some acc:=by rw[bF,gL];simp);refine aO ?_;refine lz ?_;refine eP ?_;refine DA.qM (R:=bn 2 1 _ _ _) zL dp aU ?_;rintro dQ ⟨⟩ hf bQ;exact ao.ret (aG.two rfl rfl rfl) (aw.nil _) ⟨bQ,rfl,.inr ⟨acc,pl,cl,bF,E3,hi,rfl,pl,cl,rfl,hf.1,hf.2.1,hf.2.2.2⟩⟩
section
variable {P:Program} {ρ:Env} {h:Heap} {σ:PH} {Γ:List HP}
theorem Wr.Bs {T e:TypeId} {x:Operand} {ty:TypeId} {r re:Ty} {g o n c:Nat} {z0:Value} {l:List Value} {T':TypeId} (hT:av P T=some r) (hk:r.k=.slice e) (hE:av P e=some re) (hz:re.zero=[z0]) (h1:z0.oneCell'=true) (hx:ev ρ x=.slice (some ⟨g,o,none⟩) n c) (hb:wX h g l T') (hn:0<n) (ey:o+n≤l.length):
 Wr P ρ h (.call {callee:=.builtin .clear,args:=#[x],argTypes:=#[T]}) ty (fun v' h'=>v'=.tuple #[]∧h'=jL h g (aJ l o (List.replicate n z0)) T') X.mI:=by
 (refine Wr.run fun d pos af gd w hw=>?_);obtain⟨dd,i,z,e1,e2,-⟩:=aD hT;obtain⟨tO,i',z',rN,qI,jz,kA,z8,vk,zf⟩:=aD hE;rw[hk] at e2;(cases dd<;>simp[kindOf] at e2);rw[e2] at e1;clear e2;(have hg:w.heap[g]? =some (.cells l.toArray T' (0,0)):=by rw[hw];exact hb.get);have hzc:z'.cells=#[z0]:=by rw[←Array.toList_inj,zf,hz]
 have BH:(Builtin.zeroCells z'.cells n).toList=List.replicate n z0:=by
  rw[hzc];simp[Builtin.zeroCells];apply List.ext_getElem
  ·simp
  ·intro i h1 h2;simp[Nat.mod_one]
 have iM:=run_storeCells_at P g o T' (List.replicate n z0) 0 l.toArray w hg (by simp;omega) (fun v hv=>by rw[List.eq_of_mem_replicate hv];exact h1);have E7:=qK w g l.toArray (l.take o++List.replicate n z0++l.drop (o+n)).toArray T' hg;obtain⟨m,rfl⟩:∃m,n=m+1:=⟨n-1,by omega⟩;refine⟨.tuple #[],w.setRow g (l.take o++List.replicate (m+1) z0++l.drop (o+(m+1))).toArray,?_,⟨rfl,rfl,rfl⟩,rfl,?_⟩
 ·simp only[Nat.add_zero,List.length_replicate] at iM;simp at iM;simp[execOp,resolve,invoke,builtin,hx,Builtin.clear_,run_underlying e1,zeroValue,typeInfo,jz,vk,BH,iM]
 ·rw[E7,hw];simp[aJ,jL]
theorem X.aC.Bs {T e:TypeId} {x:Operand} {ty:TypeId} {r re:Ty} {g o n c:Nat} {z0:Value} {l l':List Value} {T':TypeId} {ah:List HP} (hT:av P T=some r) (hk:r.k=.slice e) (hE:av P e=some re) (hz:re.zero=[z0]) (h1:z0.oneCell'=true) (hx:ev ρ x=.slice (some ⟨g,o,none⟩) n c) (s:b6 Γ (au g l T') ah) (hn:0<n) (ey:o+n≤l.length) (hl:aJ l o (List.replicate n z0)=l'):
 aC P ρ σ Γ (.call {callee:=.builtin .clear,args:=#[x],argTypes:=#[T]}) ty (fun v' ag Δ=>v'=.tuple #[]∧σ=ag∧Δ=au g l' T'::ah) fw:=
 Wr.H0 (Q:=fun h v h'=>v=.tuple #[]∧h'=jL h g l' T') (fun h je=>by subst hl;exact Wr.Bs hT hk hE hz h1 hx (je.au s) hn ey) fun f h v h' je ⟨e1,e2⟩=>⟨σ,_,⟨e1,rfl,rfl⟩,e2▸je.set s l'⟩
end
theorem X.Rd.Bt {P:Program} {ρ:Env} {S:Heap→Prop} {ty:TypeId} {T:TypeId} {x y:Operand} {r re:Ty} {e len cap g:Nat} {i:Nat} {kk:IntKind} (hT:av P T=some r) (hk:r.k=.slice e) (hE:av P e=some re) (bQ:re.size=1) (hx:ev ρ x=.slice (some ⟨g,0,none⟩) len cap) (hy:ev ρ y=.int kk i) (hi:i≤len) (hc:i<cap):Rd P ρ S (.slice T x (some y) none none) ty (.slice (some ⟨g,i,none⟩) (len-i) (cap-i)):=by
 have h:=X.Rd.sliceFrom (P:=P) (ρ:=ρ) (S:=S) (ty:=ty) hT hk hE hx hy ⟨by omega,by omega⟩ (by omega);simpa[bQ] using h
def pC (ws:List ByteArray):List ByteArray:=ws.filter (fun x=>decide (x≠ByteArray.empty))
theorem nK {ws:List ByteArray} {j:Nat} {w:ByteArray} (hw:ws[j]? =some w) (h:w=⟨#[]⟩):pC (ws.take (j+1))=pC (ws.take j):=by
 have hx:decide (w≠ByteArray.empty)=false:=decide_eq_false (fun q=>q h);rw[List.take_add_one,hw,pC,pC,List.filter_append,Option.toList_some,List.filter_cons_of_neg (by rw[hx];decide),List.filter_nil,List.append_nil]
theorem Bu {ws:List ByteArray} {j:Nat} {w:ByteArray} (hw:ws[j]? =some w) (h:¬w=⟨#[]⟩):pC (ws.take (j+1))=pC (ws.take j)++[w]:=by
 have hx:decide (w≠ByteArray.empty)=true:=decide_eq_true h;rw[List.take_add_one,hw,pC,pC,List.filter_append,Option.toList_some,List.filter_cons_of_pos (by exact hx),List.filter_nil]
def ph:List ByteArray→Nat→Option Nat
 |[],_=>none
 |w::r,k=>if w=⟨#[]⟩ then some k else ph r (k+1)
theorem u6:∀(ws:List ByteArray) (k:Nat),ph ws k=none→pC ws=ws
 |[],_,_=>rfl
 |w::r,k,h=>by
  rw[ph] at h;by_cases hw:w=⟨#[]⟩
  ·rw[if_pos hw] at h;cases h
  ·rw[if_neg hw] at h;have hx:decide (w≠ByteArray.empty)=true:=decide_eq_true hw;rw[pC,List.filter_cons_of_pos (by exact hx)];exact congrArg (w:: ·) (u6 r (k+1) h)
theorem u7:∀(ws:List ByteArray) (k j:Nat),ph ws k=some j→∃i,j=k+i∧i<ws.length∧pC (ws.take i)=ws.take i∧ws[i]? =some ⟨#[]⟩
 |[],_,_,h=>by cases h
 |w::r,k,j,h=>by
  rw[ph] at h;by_cases hw:w=⟨#[]⟩
  ·rw[if_pos hw] at h;cases h;exact⟨0,rfl,by simp,rfl,by rw[hw];rfl⟩
  ·rw[if_neg hw] at h;obtain⟨i,h1,h2,h3,h4⟩:=u7 r (k+1) j h;have hx:decide (w≠ByteArray.empty)=true:=decide_eq_true hw;refine⟨i+1,by omega,by simpa using h2,?_,by simpa using h4⟩;rw[List.take_succ_cons,pC,List.filter_cons_of_pos (by exact hx)];exact congrArg (w:: ·) h3
theorem HD (σ:PH) (w:ByteArray):ae Tryz.prog 21 #[.string w] σ [] (aE fun r ag ah=>r=.bool (decide (w=⟨#[]⟩))∧σ=ag∧ah=[]):=by
 refine dF Tryz.func21 ?_;refine bC ?_;refine zO rfl (Rd.eE rfl rfl) ?_;refine bM ?_;exact ao.ret (aG.one rfl rfl) (aw.nil _) ⟨rfl,rfl,rfl⟩
theorem Sh (σ:PH) (g:Nat) (ws:List ByteArray) (hlen:ws.length≤200000000):ae Tryz.prog 36 #[.slice (some ⟨g,0,none⟩) ws.length ws.length,.func (.func 21) #[] #[]] σ [au g (ws.map Value.string) 9] (aE fun r ag ah=>r=i64 (QI (ph ws 0))∧σ=ag∧ah=[au g (ws.map Value.string) 9]):=by
 (refine bS Tryz.func36 ?_;refine dJ ?_;refine XA.gen [(0,_),(1,_),(4,_),(7,_),(8,_)] jN fun δ=>?_);dsimp only[List.foldl];refine XA.loop [(4,5),(8,18)] (fun k:Nat=>[(8,i64 k)]) (fun k ag ah=>σ=ag∧k≤ws.length∧(ph ws 0=ph (ws.drop k) k)∧ah=[au g (ws.map Value.string) 9]) (fun k=>ws.length-k) 0 (by exact⟨rfl,trivial⟩) (Δ0:=_) ?_ (⟨rfl,Nat.zero_le _,rfl,rfl⟩) ?_
 ·exact zE
 rintro k δ _ _ ⟨rfl,hk,bF,rfl⟩;dsimp only[eb,List.foldl];refine aO ?_;refine XA.bI rfl (fun aT=>?_) (fun aT=>?_)
 ·(have aT:k<ws.length:=by omega);obtain⟨w,hw⟩:∃w,ws[k]? =some w:=⟨_,List.getElem?_eq_getElem aT⟩;(have eA:(ws.map Value.string)[k]? =some (.string w):=by rw[List.getElem?_map,hw];rfl);have bF:ph ws 0=ph (ws.drop k) k:=bF;rw[er hw,ph] at bF;refine dE ?_;refine zw rfl (aC.cV (first:=[]) (cap:=[]) rfl (HD σ w) rfl) ?_;rintro _ _ _ ⟨_,⟨rfl,rfl,rfl⟩,rfl⟩;refine az.cl ?_;refine aN ?_;refine XA.bI rfl (fun hc=>?_) (fun hc=>?_)
  ·refine bH ?_;rw[if_pos hc] at bF;exact ao.ret (aG.one rfl rfl) zE ⟨by rw[bF];rfl,rfl,rfl⟩
  ·rw[if_neg hc] at bF;refine bC ?_;refine⟨cF,k+1,_,zM,?_,⟨rfl,aT,bF,rfl⟩,(by omega)⟩
   ·exact zE
 (have tJ:k=ws.length:=by omega);subst tJ;have bF:ph ws 0=ph (ws.drop ws.length) ws.length:=bF;rw[List.drop_length] at bF;refine cg ?_;exact ao.ret (aG.one rfl rfl) zE ⟨by rw[bF];rfl,rfl,rfl⟩
theorem y4 {cells:List Value} {i j:Nat} {v:Value} (WI:i<j) (hj:j≤cells.length):(aJ cells i [v]).length=cells.length∧(aJ cells i [v]).take (i+1)=cells.take i++[v]∧(aJ cells i [v]).drop j=cells.drop j:=by
 (have hl:(cells.take i++[v]).length=i+1:=by simp;omega);refine⟨by simp[aJ];omega,?_,?_⟩
 ·rw[aJ,List.take_append_of_le_length (by omega),List.take_of_length_le (by omega)]
 ·rw[aJ,List.drop_append,hl,List.drop_of_length_le (by omega),List.nil_append,List.drop_drop];congr 1;simp;omega
theorem LR (σ:PH) (g:Nat) (ws:List ByteArray) (hlen:ws.length≤200000000):ae Tryz.prog 19 #[.slice (some ⟨g,0,none⟩) ws.length ws.length,.func (.func 21) #[] #[]] σ [au g (ws.map Value.string) 9] (aE fun r ag ah=>∃cells,r=.slice (some ⟨g,0,none⟩) (pC ws).length ws.length∧cells.length=ws.length∧cells.take (pC ws).length=(pC ws).map Value.string∧(pC ws).length≤ws.length∧σ=ag∧ah=[au g cells 9]):=by
 have W5:=Sh σ g ws hlen;have L6:(pC ws).length≤ws.length:=List.length_filter_le _ _
 cases hE:ph ws 0 with
 |none=>
  rw[hE] at W5;have hf:=u6 ws 0 hE;refine bS Tryz.func19 ?_;refine a8 ?_;refine zw rfl (aC.cE (W5) rfl) ?_;rintro _ _ _ ⟨_,⟨rfl,rfl,rfl⟩,rfl⟩;refine az.cl ?_;refine aW ?_;refine a8 ?_;exact ao.ret (aG.one rfl rfl) zE ⟨_,by rw[hf],by simp,by rw[hf];exact List.take_of_length_le (by simp),L6,rfl,rfl⟩
 |some k=>
  obtain⟨i0,hk,Zx,hf0,zo⟩:=u7 ws 0 k hE;rw[Nat.zero_add] at hk;subst hk;rw[hE,show QI (some k)=(k:Int) from rfl] at W5;refine bS Tryz.func19 ?_;refine a8 ?_;refine zw rfl (aC.cE (W5) rfl) ?_;rintro _ _ _ ⟨_,⟨rfl,rfl,rfl⟩,rfl⟩;refine az.cl ?_;refine aW ?_;refine XA.aR rfl (by first|rfl|exact decide_eq_false (by show ¬((k:Int)=-1);omega)) ?_;(refine cg ?_;refine XA.gen [(0,_),(1,_),(4,_),(5,_),(6,_)] jN fun δ=>?_);dsimp only[List.foldl];refine XA.loop [(5,7),(16,35)] (fun x:(Nat×Nat)×List Value=>[(5,i64 x.1.1),(6,i64 x.1.2)]) (fun x ag ah=>σ=ag∧x.1.1<x.1.2∧x.1.2≤ws.length∧x.2.length=ws.length∧x.2.take x.1.1=(pC (ws.take x.1.2)).map Value.string∧x.1.1=(pC (ws.take x.1.2)).length∧x.2.drop x.1.2=(ws.drop x.1.2).map Value.string∧ah=[au g x.2 9]) (fun x=>ws.length-x.1.2) ((k,k+1),ws.map Value.string) (by exact⟨rfl,rfl,trivial⟩) (Δ0:=_) ?_ (⟨rfl,Nat.lt_succ_self _,Zx,by simp,by rw[nK zo rfl,hf0,List.map_take],by rw[nK zo rfl,hf0,List.length_take,Nat.min_eq_left (Nat.le_of_lt Zx)],by rw[List.map_drop],rfl⟩) ?_
  ·exact zE
  rintro⟨⟨i,j⟩,cells⟩ δ _ _ ⟨rfl,WI,hjn,dY,AK,VI,H9,rfl⟩;dsimp only[eb,List.foldl];simp only at WI hjn dY AK VI H9;by_cases aT:j<ws.length
  ·obtain⟨w,hw⟩:∃w,ws[j]? =some w:=⟨_,List.getElem?_eq_getElem aT⟩
   have eA:cells[j]? =some (.string w):=by
    (have h0:(cells.drop j)[0]? =((ws.drop j).map Value.string)[0]? :=by rw[H9]);rw[List.getElem?_drop,Nat.add_zero,List.getElem?_map,List.getElem?_drop,Nat.add_zero,hw] at h0;exact h0
   have VJ:cells.drop (j+1)=(ws.drop (j+1)).map Value.string:=by
    rw[←List.drop_drop,H9,List.map_drop,List.drop_drop,←List.map_drop]
   refine a8 ?_;refine mQ ?_;refine dE ?_;refine zw rfl (aC.cV (first:=[]) (cap:=[]) rfl (HD σ w) rfl) ?_;rintro _ _ _ ⟨_,⟨rfl,rfl,rfl⟩,rfl⟩;refine az.cl ?_;refine bq ?_;by_cases hq:w=⟨#[]⟩
   ·have e1:=nK hw hq;refine XA.aR rfl (by first|rfl|simp[hq]) ?_;refine a8 ?_;refine⟨cF,((i,j+1),cells),_,zM,?_,⟨rfl,by show i<j+1;omega,aT,dY,by show cells.take i=_;rw[e1];exact AK,by show i=_;rw[e1];exact VI,VJ,rfl⟩,(by show ws.length-(j+1)<ws.length-j;omega)⟩
    ·exact zE
   ·have e1:=Bu hw hq;(have rf:i<ws.length:=by omega);(have ey:i+1≤cells.length:=by omega);obtain⟨c2,fR⟩:∃c2,aJ cells i [Value.string w]=c2:=⟨_,rfl⟩;obtain⟨z1,z2,z3⟩:=y4 (cells:=cells) (i:=i) (j:=j+1) (v:=.string w) (by omega) (by omega);rw[fR] at z1 z2 z3;refine XA.bG rfl (by first|rfl|simp[hq]) ?_;refine oa ?_;refine⟨cF,((i+1,j+1),c2),_,zM,?_,⟨rfl,by show i+1<j+1;omega,aT,z1.trans dY,by show c2.take (i+1)=_;rw[z2,e1,AK,List.map_append];rfl,by show i+1=_;rw[e1,List.length_append,←VI];rfl,by show c2.drop (j+1)=_;rw[z3];exact VJ,rfl⟩,(by show ws.length-(j+1)<ws.length-j;omega)⟩
    ·exact zE
  ·(have E0:j=ws.length:=by omega);subst E0;rw[List.take_length] at AK VI;subst VI;have lH:(pC ws).length+(ws.length-(pC ws).length)≤cells.length:=by omega
   have VK:(aJ cells (pC ws).length (List.replicate (ws.length-(pC ws).length) (Value.string ⟨#[]⟩))).length=ws.length∧(aJ cells (pC ws).length (List.replicate (ws.length-(pC ws).length) (Value.string ⟨#[]⟩))).take (pC ws).length=(pC ws).map Value.string:=by
    refine⟨by simp[aJ];omega,?_⟩;rw[aJ,List.append_assoc,List.take_append_of_le_length (by simp;omega),List.take_of_length_le (by simp;omega)];exact AK
   refine a8 ?_;refine lz ?_;refine a8 ?_;refine zO rfl (X.Rd.Bt (ad rfl) rfl (ad rfl) rfl rfl rfl (by omega) (by omega)) ?_;refine zw rfl (X.aC.Bs (ad rfl) rfl (ad rfl) rfl rfl rfl zL (by omega) lH rfl) ?_;rintro _ _ _ ⟨rfl,rfl,rfl⟩;refine aO ?_;refine zO rfl (Rd.n8 (ad rfl) rfl (ad rfl) rfl rfl (by omega)) ?_;refine bM ?_;exact ao.ret (aG.one rfl rfl) zE ⟨_,rfl,VK.1,VK.2,L6,rfl,rfl⟩
end Go.Proofs.YtgeoiflbjcehcaaGreatDoor
