import Derived.Test.YtgeoiflbjcehcaaGreatDoorDd22
import Derived.Lib.SliceRun
set_option maxHeartbeats 4000000
set_option maxRecDepth 2000
set_option linter.unusedVariables false
set_option linter.unusedSimpArgs false
namespace Go.Proofs.YtgeoiflbjcehcaaGreatDoor
open Go X
def Grow (b b':Be):Prop:=b'.out.length≤b.out.length+1∧b'.m.cells.length=b.m.cells.length
theorem Ke (inp:List Int) (keep:Bool) (x:In) (b:Be):Grow b (aN inp keep x b):=by
 obtain⟨⟨next,stack,rd,outn,st,cells⟩,kept,out,wrong⟩:=b;(have z:∀{m:Mi} {k:Mi} {w:Bool},m.cells.length=cells.length→Grow ⟨⟨next,stack,rd,outn,st,cells⟩,kept,out,wrong⟩ ⟨m,k,out,w⟩:=fun h=>⟨Nat.le_succ _,h⟩);rw[aN];simp only;by_cases h1:x.op=1
 ·rw[aq h1];exact z rfl
 rw[ag h1];by_cases h2:x.op=2
 ·rw[aq h2];exact z rfl
 rw[ag h2];by_cases h3:x.op=3
 ·rw[aq h3]
  cases stack with
  |nil=>exact z rfl
  |cons k s=>
   by_cases hq:k<0∨x.b≤k
   ·simp only[aq hq];exact z rfl
   ·simp only[ag hq];exact z rfl
 rw[ag h3];by_cases h4:4≤x.op∧x.op≤8
 ·rw[aq h4]
  cases stack with
  |nil=>exact z rfl
  |cons k s=>
   cases s with
   |nil=>exact z rfl
   |cons y s=>exact z rfl
 rw[ag h4];by_cases h9:x.op=9
 ·rw[aq h9]
  cases stack with
  |nil=>exact z rfl
  |cons k s=>exact z List.length_set
 rw[ag h9];by_cases wL:x.op=10
 ·rw[aq wL]
  cases stack with
  |nil=>exact z rfl
  |cons n s=>
   cases s with
   |nil=>exact z rfl
   |cons k s=>
    by_cases hq:k<0∨x.b≤k
    ·simp only[aq hq];exact z rfl
    ·simp only[ag hq];exact z List.length_set
 rw[ag wL];by_cases rD:x.op=11
 ·rw[aq rD]
  cases stack with
  |nil=>exact z rfl
  |cons n s=>
   by_cases hq:outn=out.length
   ·simp only[aq hq];exact⟨aZ,rfl⟩
   ·simp only[ag hq];exact z rfl
 rw[ag rD];by_cases xF:x.op=12
 ·rw[aq xF];by_cases hq:inp.length≤rd
  ·rw[aq hq];exact z rfl
  ·rw[ag hq];exact z List.length_set
 rw[ag xF];by_cases CH:x.op=13
 ·rw[aq CH]
  cases stack with
  |nil=>exact z rfl
  |cons n s=>
   by_cases hq:n=0
   ·simp only[aq hq];exact z rfl
   ·simp only[ag hq];exact z rfl
 rw[ag CH];by_cases wo:x.op=14
 ·rw[aq wo];exact z rfl
 rw[ag wo];by_cases ki:x.op=15
 ·rw[aq ki]
  cases keep with
  |true=>exact z rfl
  |false=>exact z rfl
 rw[ag ki];by_cases CI:x.op=16
 ·rw[aq CI];exact z rfl
 ·rw[ag CI];exact z rfl
theorem vm (code:List In) (inp:List Int):∀(f:Nat) (b:Be),(runM code inp f b).1.out.length≤b.out.length+f∧(runM code inp f b).1.m.cells.length=b.m.cells.length
 |0,b=>⟨bX _,rfl⟩
 |f+1,b=>by
  rw[runM];split
  ·exact⟨gF,rfl⟩
  ·obtain⟨h1,h2⟩:=vm code inp f (cW code inp false b)
   have h3:Grow b (cW code inp false b):=by
    rw[cW]
    cases e:code[b.m.next]? with
    |none=>exact⟨Nat.le_succ _,rfl⟩
    |some x=>exact Ke inp false x (bump b)
   exact⟨by simp only;have:=h3.1;omega,by simp only;rw[h2,h3.2]⟩
theorem Qw {b:Be} {c:Int} (hw:b.wrong=false) (h:c=0∧b.m.st=1∨c=13∧b.m.st=0∨((c=11∨c=12)∧b.m.st=c+2)):qg b=c∧aG c:=by
 rw[qg,hw];rcases h with ⟨rfl,h⟩|⟨rfl,h⟩|⟨rfl|rfl,h⟩<;>(rw[h];exact⟨au,au,au⟩)
theorem Qx (σ:PH) (gd:Nat) (pt:Option Addr) (ct:Nat) (iv xv:Value) (acc:ByteArray) (d:nt) (fuel:Int) (hf:aG fuel) (hx:∀x∈d.text,x.size≤maxLen) (hn:d.text.length≤1000000) (gO:(jW d.text).size≤100000000) (hi:a7 σ iv d.input) (lN:∀x∈d.input,aG x) (hT:py σ) (hE:kT σ) (hb:acc.size+100000≤1000000000):
 ah Tryz.prog 41 #[ptr gd,i64 fuel] σ [eF 49 gd [.slice pt d.text.length ct,iv,xv] acc,aS 9 1 (.slice pt d.text.length ct) d.text.length (d.text.map Value.string)]
  (aA fun v aj al=>v=.tuple #[]∧σ.sub aj∧told (iL d fuel)≤100000∧al=[eF 49 gd [.slice pt d.text.length ct,iv,xv] (dR acc (iL d fuel)),aS 9 1 (.slice pt d.text.length ct) d.text.length (d.text.map Value.string)]):=by
 have kU:=yD σ gd pt ct iv xv acc d.text hx hn gO hT hE ad
 cases hP:br (jW d.text) with
 |error x=>
  have h0:=kl hP;(have hB:iL d fuel=[oQ x]:=by rw[iL,hP]);rw[hP] at kU;rw[hB];have e1:decide (pN (Except.error x:wg Pr)=0)=false:=aE h0;rw[e1] at kU;refine cw Tryz.func41 ?_;refine cx ?_;refine zw rfl (ax.cE (kU) rfl) ?_;rintro _ cO _ ⟨_,⟨cs,rfl,hp,bz,rfl⟩,rfl⟩;refine az.cl ?_;obtain⟨vs,bs,rfl,Ck,Cl⟩:=hp;obtain⟨OE,OF,rfl,-,-⟩:=Ck.shape;obtain⟨OG,OH,rfl,-,-⟩:=Cl.shape;refine cx ?_;refine di (fun g4=>?_) (ae rfl);refine eA ?_;have OI:=wP (s:=jW d.text);rw[hP] at OI;have Bw:=gW OI.1 eM;have n9:=gW OI.2 (cD eM x.1);have sG:eM.size=2:=rfl;exact On rfl ⟨rfl,bz,(by show (cD (cD eM x.1) x.2).size+1+0≤_;change (cD eM x.1).size≤_ at Bw;change (cD (cD eM x.1) x.2).size≤_ at n9;omega),rfl⟩
 |ok p=>
  obtain⟨Fc,hN⟩:=oG hP;rw[hP] at kU;refine cw Tryz.func41 ?_;refine cx ?_;refine zw rfl (ax.cE (kU) rfl) ?_;rintro _ cO _ ⟨_,⟨cs,rfl,hp,bz,rfl⟩,rfl⟩;refine az.cl ?_;have oW:=hT.mono bz;have wM:=hi.mono bz;have Ux:kY p.body:=hp.i;have lG:=hp;obtain⟨vs,bs,rfl,Ck,Cl⟩:=lG;obtain⟨OE,OF,rfl,-,-⟩:=Ck.shape;obtain⟨OG,OH,rfl,-,-⟩:=Cl.shape;obtain⟨pi,ci,rfl,-,-⟩:=wM.shape;refine cx ?_;refine di (fun g4=>?_) (ae rfl);refine dh ?_;(first|refine XA.aW (R:=eF _ _ _ _) zL (eF.o) ?_|refine az.aW (R:=eF _ _ _ _) zL (eF.o) ?_|refine DA.aW (R:=eF _ _ _ _) zL (eF.o) ?_);rintro⟨u,q,cq⟩ hz;refine gX ?_;by_cases hr:40<d.input.length∨fuel<0∨3000<fuel
  ·(have hB:iL d fuel=[cD eM 1]:=by rw[iL,hP];simp only;rw[aq hr]);rw[hB];have cZ:=J3 cO _ p _ d.input fuel hp wM Fc hr;refine XA.join [(6,8),(16,26)] (fun y:Nat=>[(6,ptr y),(7,i64 0),(8,i64 1)]) (fun y aj al=>cO.sub aj∧al=[aw y [i64 0,.slice none 0 0,.slice none 0 0] 75,aw gd (oR u gd::.slice q acc.size cq::[.slice pt d.text.length ct,.slice pi d.input.length ci,xv]) 49,aS 5 1 (.slice q acc.size cq) acc.size (Lib.strCells acc),aS 9 1 (.slice pt d.text.length ct) d.text.length (d.text.map Value.string)]) ?_ ?_
   ·skip;refine XA.mM aC _ _ [7,8,9,10,12,13,14] 15 #[false,false,false,false,false,false,false,false,false,false,false,false,false,false,false] rfl rfl aC (PH.sub.refl _) (ar.bB (R:=aw g4 _ _) zL (ar.bB (R:=aw gd _ _) zL (ar.nil _))) ?_;refine qr 0 #[tT,fF,fF,fF,fF,fF,fF,fF,fF,fF,fF,fF,fF,fF,fF] rfl (Rd.Bl rfl) ?_;refine qp 1 #[tT,tT,fF,fF,fF,fF,fF,fF,fF,fF,fF,fF,fF,fF,fF] rfl Rd.mv ?_;refine qp 2 #[tT,tT,tT,fF,fF,fF,fF,fF,fF,fF,fF,fF,fF,fF,fF] rfl (Rd.nilCheck rfl) ?_;refine qp 3 #[tT,tT,tT,tT,fF,fF,fF,fF,fF,fF,fF,fF,fF,fF,fF] rfl (Rd.fA rfl) ?_;refine qr 4 #[tT,tT,tT,tT,tT,fF,fF,fF,fF,fF,fF,fF,fF,fF,fF] rfl (Rd.yZ rfl (ae rfl) rfl) ?_;refine qp 5 #[tT,tT,tT,tT,tT,tT,fF,fF,fF,fF,fF,fF,fF,fF,fF] rfl Rd.mv ?_;refine cX.w2 (i:=6) (j:=11) aC ?_ ?_
    ·refine qw #[tT,tT,tT,tT,tT,tT,tT,fF,fF,fF,fF,fF,fF,fF,fF] rfl (ax.cE cZ rfl) ?_;rintro _ cL _ ⟨_,⟨rfl,bT,rfl⟩,rfl⟩;refine⟨⟨zX,zE⟩,cX.re zC ?_⟩;refine qp 7 #[tT,tT,tT,tT,tT,tT,tT,tT,fF,fF,fF,fF,fF,fF,fF] rfl Rd.mv ?_;refine qp 8 #[tT,tT,tT,tT,tT,tT,tT,tT,tT,fF,fF,fF,fF,fF,fF] rfl (Rd.extract rfl rfl) ?_;refine qp 9 #[tT,tT,tT,tT,tT,tT,tT,tT,tT,tT,fF,fF,fF,fF,fF] rfl (Rd.extract rfl rfl) ?_;refine qp 10 #[tT,tT,tT,tT,tT,tT,tT,tT,tT,tT,tT,fF,fF,fF,fF] rfl (Rd.extract rfl rfl) ?_;refine qa 11 ?_;refine qw #[tT,tT,tT,tT,tT,tT,tT,tT,tT,tT,tT,tT,fF,fF,fF] rfl (ax.alloc (ae rfl)) ?_;rintro _ _ _ ⟨g6,rfl,rfl,rfl⟩;refine⟨⟨zX,zE⟩,cX.re zC ?_⟩;refine qa 12 ?_;refine ji.b7 (bc:=#[tT,tT,tT,tT,tT,tT,tT,tT,tT,tT,tT,tT,tT,fF,fF]) rfl rfl Gd.free aC rfl aC (ax.st (ae rfl) rfl) ?_;rintro _ _ _ ⟨rfl,rfl,rfl⟩;refine cX.re zC ?_;refine qp 13 #[tT,tT,tT,tT,tT,tT,tT,tT,tT,tT,tT,tT,tT,tT,fF] rfl Rd.CZ ?_;refine qp 14 #[tT,tT,tT,tT,tT,tT,tT,tT,tT,tT,tT,tT,tT,tT,tT] rfl Rd.CZ ?_;refine cX.nil rfl ?_;refine DA.bI ⟨zK,g6,_,zM,?_,bT,rfl⟩;exact zE
    ·refine qw #[tT,tT,tT,tT,tT,tT,fF,fF,fF,fF,fF,tT,fF,fF,fF] rfl (ax.alloc (ae rfl)) ?_;rintro _ _ _ ⟨g6,rfl,rfl,rfl⟩;refine⟨⟨zX,zE⟩,cX.re zC ?_⟩;refine qa 6 ?_;refine qw #[tT,tT,tT,tT,tT,tT,tT,fF,fF,fF,fF,tT,fF,fF,fF] rfl (ax.cE cZ rfl) ?_;rintro _ cL _ ⟨_,⟨rfl,bT,rfl⟩,rfl⟩;refine⟨⟨zX,zE⟩,cX.re zC ?_⟩;refine qp 7 #[tT,tT,tT,tT,tT,tT,tT,tT,fF,fF,fF,tT,fF,fF,fF] rfl Rd.mv ?_;refine qp 8 #[tT,tT,tT,tT,tT,tT,tT,tT,tT,fF,fF,tT,fF,fF,fF] rfl (Rd.extract rfl rfl) ?_;refine qp 9 #[tT,tT,tT,tT,tT,tT,tT,tT,tT,tT,fF,tT,fF,fF,fF] rfl (Rd.extract rfl rfl) ?_;refine qp 10 #[tT,tT,tT,tT,tT,tT,tT,tT,tT,tT,tT,tT,fF,fF,fF] rfl (Rd.extract rfl rfl) ?_;refine qa 12 ?_;refine ji.b7 (bc:=#[tT,tT,tT,tT,tT,tT,tT,tT,tT,tT,tT,tT,tT,fF,fF]) rfl rfl Gd.free aC rfl aC (ax.st (ae rfl) rfl) ?_;rintro _ _ _ ⟨rfl,rfl,rfl⟩;refine cX.re zC ?_;refine qp 13 #[tT,tT,tT,tT,tT,tT,tT,tT,tT,tT,tT,tT,tT,tT,fF] rfl Rd.CZ ?_;refine qp 14 #[tT,tT,tT,tT,tT,tT,tT,tT,tT,tT,tT,tT,tT,tT,tT] rfl Rd.CZ ?_;refine cX.nil rfl ?_;refine DA.bI ⟨zK,g6,_,zM,?_,bT,rfl⟩;exact zE
   rintro g6 δ cL _ ⟨bT,rfl⟩;dsimp only[dq,List.foldl];refine bS ?_;have n8:=oW.mono bT;refine dc ?_;refine az.eX (ar.fold (S:=eF 49 gd [.slice pt d.text.length ct,.slice pi d.input.length ci,xv] acc) (Θ:=[aw gd (oR u gd::.slice q acc.size cq::[.slice pt d.text.length ct,.slice pi d.input.length ci,xv]) 49,aS 5 1 (.slice q acc.size cq) acc.size (Lib.strCells acc)]) zD (fun m hm=>⟨u,q,cq,hz,hm⟩) (ar.refl _)) ?_;refine zw rfl (ax.cE (qT cL gd _ _ xv acc 1 ⟨au,au⟩ n8 ad) rfl) ?_;rintro _ fZ _ ⟨_,⟨rfl,cQ,rfl⟩,rfl⟩;refine az.cl ?_;refine dc ?_;exact On rfl ⟨rfl,bz.trans (bT.trans cQ),(by have h1:=gW (n:=1) ⟨au,au⟩ eM;have h2:eM.size=2:=rfl;show (cD eM 1).size+1+0≤_;omega),rfl⟩
  ·obtain⟨f,rfl⟩:∃f:Nat,fuel=f:=⟨fuel.toNat,ad⟩;have cZ:=Ue cO _ p _ d.input f hp wM Fc ad ad;obtain⟨-,-,mK,y5⟩:=dw Fc;have um:=ef mK;(have hB:iL d f=sn p d.input f:=by rw[iL,hP];simp only;rw[ag hr,Int.toNat_natCast]);rw[hB];refine XA.join [(6,8),(16,26)] (fun y:Nat×((Int×RS)×((Option Addr×Nat)×(Option Addr×Nat)))=>[(6,ptr y.1),(7,i64 ((f:Int)-y.2.1.2.left)),(8,i64 0)]) (fun y aj al=>cO.sub aj∧tX p d.input f y.2.1.1 y.2.1.2∧a7 aj (.slice y.2.2.1.1 y.2.1.2.out.length y.2.2.1.2) y.2.1.2.out∧a7 aj (.slice y.2.2.2.1 y.2.1.2.cells.length y.2.2.2.2) y.2.1.2.cells∧y.2.1.2.left≤f∧al=[aw y.1 [i64 y.2.1.1,.slice y.2.2.1.1 y.2.1.2.out.length y.2.2.1.2,.slice y.2.2.2.1 y.2.1.2.cells.length y.2.2.2.2] 75,aw gd (oR u gd::.slice q acc.size cq::[.slice pt d.text.length ct,.slice pi d.input.length ci,xv]) 49,aS 5 1 (.slice q acc.size cq) acc.size (Lib.strCells acc),aS 9 1 (.slice pt d.text.length ct) d.text.length (d.text.map Value.string)]) ?_ ?_
   ·skip;refine XA.mM aC _ _ [7,8,9,10,12,13,14] 15 #[false,false,false,false,false,false,false,false,false,false,false,false,false,false,false] rfl rfl aC (PH.sub.refl _) (ar.bB (R:=aw g4 _ _) zL (ar.bB (R:=aw gd _ _) zL (ar.nil _))) ?_;refine qr 0 #[tT,fF,fF,fF,fF,fF,fF,fF,fF,fF,fF,fF,fF,fF,fF] rfl (Rd.Bl rfl) ?_;refine qp 1 #[tT,tT,fF,fF,fF,fF,fF,fF,fF,fF,fF,fF,fF,fF,fF] rfl Rd.mv ?_;refine qp 2 #[tT,tT,tT,fF,fF,fF,fF,fF,fF,fF,fF,fF,fF,fF,fF] rfl (Rd.nilCheck rfl) ?_;refine qp 3 #[tT,tT,tT,tT,fF,fF,fF,fF,fF,fF,fF,fF,fF,fF,fF] rfl (Rd.fA rfl) ?_;refine qr 4 #[tT,tT,tT,tT,tT,fF,fF,fF,fF,fF,fF,fF,fF,fF,fF] rfl (Rd.yZ rfl (ae rfl) rfl) ?_;refine qp 5 #[tT,tT,tT,tT,tT,tT,fF,fF,fF,fF,fF,fF,fF,fF,fF] rfl Rd.mv ?_;refine cX.w2 (i:=6) (j:=11) aC ?_ ?_
    ·refine qw #[tT,tT,tT,tT,tT,tT,tT,fF,fF,fF,fF,fF,fF,fF,fF] rfl (ax.cE cZ rfl) ?_;rintro _ cL _ ⟨_,⟨c,s,po,pc,co,cc,VF,rfl,Kf,Bs,vO,bT,rfl⟩,rfl⟩;refine⟨⟨zX,zE⟩,cX.re zC ?_⟩;refine qp 7 #[tT,tT,tT,tT,tT,tT,tT,tT,fF,fF,fF,fF,fF,fF,fF] rfl Rd.mv ?_;refine qp 8 #[tT,tT,tT,tT,tT,tT,tT,tT,tT,fF,fF,fF,fF,fF,fF] rfl (Rd.extract rfl rfl) ?_;refine qp 9 #[tT,tT,tT,tT,tT,tT,tT,tT,tT,tT,fF,fF,fF,fF,fF] rfl (Rd.extract rfl rfl) ?_;refine qp 10 #[tT,tT,tT,tT,tT,tT,tT,tT,tT,tT,tT,fF,fF,fF,fF] rfl (Rd.extract rfl rfl) ?_;refine qa 11 ?_;refine qw #[tT,tT,tT,tT,tT,tT,tT,tT,tT,tT,tT,tT,fF,fF,fF] rfl (ax.alloc (ae rfl)) ?_;rintro _ _ _ ⟨g6,rfl,rfl,rfl⟩;refine⟨⟨zX,zE⟩,cX.re zC ?_⟩;refine qa 12 ?_;refine ji.b7 (bc:=#[tT,tT,tT,tT,tT,tT,tT,tT,tT,tT,tT,tT,tT,fF,fF]) rfl rfl Gd.free aC rfl aC (ax.st (ae rfl) rfl) ?_;rintro _ _ _ ⟨rfl,rfl,rfl⟩;refine cX.re zC ?_;refine qp 13 #[tT,tT,tT,tT,tT,tT,tT,tT,tT,tT,tT,tT,tT,tT,fF] rfl Rd.CZ ?_;refine qp 14 #[tT,tT,tT,tT,tT,tT,tT,tT,tT,tT,tT,tT,tT,tT,tT] rfl Rd.CZ ?_;refine cX.nil rfl ?_;refine DA.bI ⟨zK,(g6,((c,s),((po,co),(pc,cc)))),_,zM,?_,bT,VF,Kf,Bs,vO,rfl⟩;exact zE
    ·refine qw #[tT,tT,tT,tT,tT,tT,fF,fF,fF,fF,fF,tT,fF,fF,fF] rfl (ax.alloc (ae rfl)) ?_;rintro _ _ _ ⟨g6,rfl,rfl,rfl⟩;refine⟨⟨zX,zE⟩,cX.re zC ?_⟩;refine qa 6 ?_;refine qw #[tT,tT,tT,tT,tT,tT,tT,fF,fF,fF,fF,tT,fF,fF,fF] rfl (ax.cE cZ rfl) ?_;rintro _ cL _ ⟨_,⟨c,s,po,pc,co,cc,VF,rfl,Kf,Bs,vO,bT,rfl⟩,rfl⟩;refine⟨⟨zX,zE⟩,cX.re zC ?_⟩;refine qp 7 #[tT,tT,tT,tT,tT,tT,tT,tT,fF,fF,fF,tT,fF,fF,fF] rfl Rd.mv ?_;refine qp 8 #[tT,tT,tT,tT,tT,tT,tT,tT,tT,fF,fF,tT,fF,fF,fF] rfl (Rd.extract rfl rfl) ?_;refine qp 9 #[tT,tT,tT,tT,tT,tT,tT,tT,tT,tT,fF,tT,fF,fF,fF] rfl (Rd.extract rfl rfl) ?_;refine qp 10 #[tT,tT,tT,tT,tT,tT,tT,tT,tT,tT,tT,tT,fF,fF,fF] rfl (Rd.extract rfl rfl) ?_;refine qa 12 ?_;refine ji.b7 (bc:=#[tT,tT,tT,tT,tT,tT,tT,tT,tT,tT,tT,tT,tT,fF,fF]) rfl rfl Gd.free aC rfl aC (ax.st (ae rfl) rfl) ?_;rintro _ _ _ ⟨rfl,rfl,rfl⟩;refine cX.re zC ?_;refine qp 13 #[tT,tT,tT,tT,tT,tT,tT,tT,tT,tT,tT,tT,tT,tT,fF] rfl Rd.CZ ?_;refine qp 14 #[tT,tT,tT,tT,tT,tT,tT,tT,tT,tT,tT,tT,tT,tT,tT] rfl Rd.CZ ?_;refine cX.nil rfl ?_;refine DA.bI ⟨zK,(g6,((c,s),((po,co),(pc,cc)))),_,zM,?_,bT,VF,Kf,Bs,vO,rfl⟩;exact zE
   rintro⟨g6,⟨c,s⟩,⟨po,co⟩,⟨pc,cc⟩⟩ δ cL _ ⟨bT,VF,Kf,Bs,vO,rfl⟩;dsimp only[dq,List.foldl];refine bS ?_;simp only at VF Kf Bs vO;obtain⟨b,e1,-,e2,e3,e4,e5⟩:=Qc Fc VF;obtain⟨e6,Ff⟩:=Qw e4 e5;obtain⟨g1,g2'⟩:=vm (ak p) d.input f (sj (sizes p.vars).toNat);have Nz:=Gx (ud Ux) lN f (IB (sizes p.vars).toNat)
   have mP:sn p d.input f=cD k9 ((f:Int)-s.left)::jr c s.out s.cells:=by
    rw[sn,e1];simp only;rw[e6,e2,e3,show (((f-s.left:Nat):Nat):Int)=(f:Int)-s.left by omega]
   rw[mP];rw[e1] at g1 g2' Nz;simp only at g1 g2' Nz;rw[e3] at g1;rw[e2] at g2';(have TU:s.out.length≤3000:=by have:(sj (sizes p.vars).toNat).out.length=0:=rfl;omega);(have tz:s.cells.length≤48:=by have:(sj (sizes p.vars).toNat).m.cells.length=(sizes p.vars).toNat:=List.length_replicate;omega);(have Qr:∀x∈s.out,aG x:=by rw[←e3];exact Nz.out);(have Yk:∀x∈s.cells,aG x:=by rw[←e2];exact Nz.m.2);have n8:=oW.mono bT;have RZ:aG ((f:Int)-s.left):=⟨ad,ad⟩;have VG:=eP RZ;refine dc ?_;refine az.eX (ar.fold (S:=eF 49 gd [.slice pt d.text.length ct,.slice pi d.input.length ci,xv] acc) (Θ:=[aw gd (oR u gd::.slice q acc.size cq::[.slice pt d.text.length ct,.slice pi d.input.length ci,xv]) 49,aS 5 1 (.slice q acc.size cq) acc.size (Lib.strCells acc)]) zD (fun m hm=>⟨u,q,cq,hz,hm⟩) (ar.refl _)) ?_;have o8:=qT cL gd (.slice pt d.text.length ct) (.slice pi d.input.length ci) xv acc 0 ⟨au,au⟩ n8 ad;rw[show yI acc 0=acc from aq rfl] at o8;refine zw rfl (ax.cE (o8) rfl) ?_;rintro _ fZ _ ⟨_,⟨rfl,cQ,rfl⟩,rfl⟩;refine az.cl ?_;have Uy:=n8.mono cQ;refine bt ?_;refine yC (vk fZ _ RZ Uy) ?_;refine zw rfl (ax.bs (fun _ _=>ae) rfl rfl rfl rfl rfl) ?_;rintro _ _ _ ⟨g33,rfl,rfl,rfl⟩;refine zw rfl (ax.cE (Iz fZ gd _ _ xv acc _ k9 _ RZ au ad) rfl) ?_;rintro _ qf _ ⟨_,⟨rfl,jU,rfl⟩,rfl⟩;refine az.cl ?_;have ach:=Kf.mono (cQ.trans jU);have aci:=Bs.mono (cQ.trans jU);refine dc ?_
   have Cu:(fq acc (cD k9 ((f:Int)-s.left))).size≤acc.size+100:=by
    have z1:wN.size=1:=rfl;have z2:vR.size=1:=rfl;have z3:k9.size=4:=rfl;simp only[fq,cD,jX];omega
   refine zw rfl (ax.cE (Em qf gd _ _ xv (fq acc (cD k9 ((f:Int)-s.left))) c _ _ s.out s.cells Ff ach aci (Uy.mono jU) Qr Yk ad ad ad) rfl) ?_;rintro _ Uz _ ⟨_,⟨rfl,CL,rfl⟩,rfl⟩;refine az.cl ?_;refine bS ?_;exact iN rfl ⟨rfl,bz.trans (bT.trans (cQ.trans (jU.trans CL))),(by have h1:=vW Ff Qr Yk;have h2:=gW RZ k9;have h3:k9.size=4:=rfl;rw[told];omega),rfl⟩
theorem oS (s:oP):aG (aO s):=by
 rw[aO];split
 ·exact⟨au,au⟩
 split
 ·exact⟨au,au⟩
 ·exact⟨au,au⟩
theorem Gy (σ:PH) (gd:Nat) (v0 v1:Value) (acc:ByteArray) (d:nt) (p:Pr) (inp:List Int) (L:Li) (k:Nat) (s:oP) (gx db pb:Nat) (pc:Option Addr) (cc:Nat) (gn:Int) (Γ:List HP) (Oq:s.K<9223372036854775808) (wm:0≤s.mask) (wE:s.mask<18446744073709551616)
 (hc:bV 4 tR σ (.slice pc (ak p).length cc) (ak p)) (hL:j6 σ gx db pb pc cc (sizes p.vars).toNat p inp L gn Γ) (cR:fX p inp L k) (hk:k+3000≤900000) (AL:gn≤k) (hT:py σ) (hb:acc.size+400≤1000000000):
 ah Tryz.prog 42 #[ptr gd,.agg #[i64 s.kind,i64 s.n,i64 s.K,.int .u64 s.mask]] σ (eF 49 gd [v0,v1,ptr gx] acc::Γ)
  (aA fun v aj al=>v=.tuple #[]∧σ.sub aj∧∃(Gm:Int) (cr:List HP),Gm≤(k+(jV (ak p) inp s L).2:Nat)∧j6 aj gx db pb pc cc (sizes p.vars).toNat p inp (jV (ak p) inp s L).1 Gm cr∧al=eF 49 gd [v0,v1,ptr gx] (dR acc (ia d p inp L s).2)::cr):=by
 have MP:=ab5 σ gx db pb pc cc (sizes p.vars).toNat p inp L gn k s Γ Oq wm wE hc hL cR hk AL;have hn3:=(mw s cR ad).2.1;have Fg:aG ((jV (ak p) inp s L).2:Nat):=⟨ad,ad⟩;obtain⟨n,hn⟩:∃n,(jV (ak p) inp s L).2=n:=⟨_,rfl⟩;rw[hn] at MP hn3 Fg;obtain⟨g,mb,sb,dd,ss,pi,ci,pj,cj,hQ,Ug,hG,hi,hj,rfl⟩:=hL;obtain⟨kd,nn,K,m⟩:=s;simp only at MP;(refine cw Tryz.func42 ?_;refine aU ?_;refine cP fun g3=>?_;refine cx ?_);(first|refine XA.aW (R:=eF _ _ _ _) zL (eF.o) ?_|refine az.aW (R:=eF _ _ _ _) zL (eF.o) ?_|refine DA.aW (R:=eF _ _ _ _) zL (eF.o) ?_);rintro⟨u,q,cq⟩ hz;refine gX ?_;refine et 11 594 [5] (ar.bB (R:=aw gd _ _) zL (ar.bB (R:=aw g3 _ _) zL (ar.nil _))) ?_;refine dc ?_;refine aP.b7 rfl rfl Gd.free aC (ax.cE (MP) rfl) ?_;rintro _ cO _ ⟨cr,⟨rfl,bz,Gm,Yl,-,kN⟩,rfl⟩;refine aP.cl ?_;have wz:=kN;obtain⟨g2,ZI,ZJ,dd2,ss2,Qi,Qj,ZK,ZL,Gp,Qk,J9,vC,wD,rfl⟩:=kN;(try dsimp only[List.append,List.cons_append,List.nil_append]);have oW:=hT.mono bz;refine cp ?_;refine az.eX (ar.fold (S:=eF 49 gd [v0,v1,ptr gx] acc) (Θ:=[aw gd (oR u gd::.slice q acc.size cq::[v0,v1,ptr gx]) 49,aS 5 1 (.slice q acc.size cq) acc.size (Lib.strCells acc)]) zD (fun m hm=>⟨u,q,cq,hz,hm⟩) (ar.refl _)) ?_;by_cases hf:aO ⟨kd,nn,K,m⟩=0
 ·(have hS:(ia d p inp L ⟨kd,nn,K,m⟩).2=[cD zx (n:Nat)]:=by rw[ia,ag (fun h=>h hf),←hn]);rw[hS];have o8:=qT cO gd v0 v1 (ptr gx) acc (aO ⟨kd,nn,K,m⟩) (oS _) oW ad;rw[yI,aq hf,aE (fun h=>h hf:¬aO ⟨kd,nn,K,m⟩≠0)] at o8;refine zw rfl (ax.cE (o8) rfl) ?_;rintro _ cL _ ⟨_,⟨rfl,bT,rfl⟩,rfl⟩;refine az.cl ?_;have n8:=oW.mono bT;refine bg ?_;refine yC (vk cL _ Fg n8) ?_;refine zw rfl (ax.bs (fun _ _=>ae) rfl rfl rfl rfl rfl) ?_;rintro _ _ _ ⟨g22,rfl,rfl,rfl⟩;refine zw rfl (ax.cE (Iz cL gd v0 v1 (ptr gx) acc _ zx _ Fg au ad) rfl) ?_;rintro _ fZ _ ⟨_,⟨rfl,cQ,rfl⟩,rfl⟩;refine az.cl ?_;refine bS ?_;exact iN rfl ⟨rfl,bz.trans (bT.trans cQ),Gm,_,by rw[hn];exact Yl,wz.mono (bT.trans cQ),rfl⟩
 ·(have hS:(ia d p inp L ⟨kd,nn,K,m⟩).2=[cD eM (aO ⟨kd,nn,K,m⟩)]:=by rw[ia,aq hf]);rw[hS];have o8:=qT cO gd v0 v1 (ptr gx) acc (aO ⟨kd,nn,K,m⟩) (oS _) oW ad;rw[yI,ag hf,aM (hf:aO ⟨kd,nn,K,m⟩≠0)] at o8;refine zw rfl (ax.cE (o8) rfl) ?_;rintro _ cL _ ⟨_,⟨rfl,bT,rfl⟩,rfl⟩;refine az.cl ?_;refine dc ?_;exact iN rfl ⟨rfl,bz.trans bT,Gm,_,by rw[hn];exact Yl,wz.mono bT,rfl⟩
theorem yJ {ws:List ByteArray} {i:Nat} {w:ByteArray} {n:Int} (acc:List Int) (h:jc ws=(jc (ws.drop i)).map (acc++ ·)) (hw:ws[i]? =some w) (hn:eY w=some n):jc ws=(jc (ws.drop (i+1))).map (acc++[n]++ ·):=by
 rw[h,eC hw,jc,hn]
 cases jc (ws.drop (i+1)) with
 |none=>rfl
 |some l=>simp
theorem sr {ws:List ByteArray} {i:Nat} {w:ByteArray} {acc:List Int} (h:jc ws=(jc (ws.drop i)).map (acc++ ·)) (hw:ws[i]? =some w) (hn:eY w=none):jc ws=none:=by
 rw[h,eC hw,jc,hn];rfl
theorem NA {w:ByteArray} {n:Int} (h:eY w=some n):aG n:=by
 rw[eY] at h;split at h
 ·rename_i m hp;split at h
  ·cases h;exact iR hp
  ·cases h
 ·cases h
theorem Kg (σ:PH) (v:Value) (ws:List ByteArray) (h:bV 1 pw σ v ws) (hs:∀w∈ws,w.size≤100000000) (hn:ws.length≤1000000) (hT:py σ) (hE:kT σ):
 ah Tryz.prog 22 #[v] σ [] (aA fun r aj al=>σ.sub aj∧al=[]∧((jc ws=none∧r=.tuple #[.slice none 0 0,.bool false])∨∃l p c,jc ws=some l∧(∀x∈l,aG x)∧l.length≤ws.length∧r=.tuple #[.slice p l.length c,.bool true]∧a7 aj (.slice p l.length c) l)):=by
 obtain⟨p0,c0,rfl,h1,h2⟩:=h.shape;(refine cM Tryz.func22 ?_;refine mI ?_;refine XA.eX (ar.dU (e:=2) (size:=1) (ar.refl _)) ?_;refine XA.gen [(2,_),(3,_),(4,_),(9,_),(10,_),(11,_)] iX fun δ=>?_);dsimp only[List.foldl];refine XA.loop [(2,4),(6,8),(11,32)] (fun x:Nat×(Option Addr×Nat)=>[(11,i64 x.1),(4,.slice x.2.1 x.1 x.2.2)]) (fun x aj al=>σ=aj∧x.1≤ws.length∧∃acc:List Int,acc.length=x.1∧(∀y∈acc,aG y)∧jc ws=(jc (ws.drop x.1)).map (acc++ ·)∧al=[aS 2 1 (.slice x.2.1 x.1 x.2.2) x.1 (ints acc)]) (fun x=>ws.length-x.1) (0,(none,0)) mO (Δ0:=_) ?_ (⟨rfl,cg _,[],rfl,fun y hy=>(by cases hy),aZ,rfl⟩) ?_
 ·exact zE
 rintro⟨i,pl,cl⟩ δ _ _ ⟨rfl,hi,acc,dr,yG,bu,rfl⟩;dsimp only[dq,List.foldl];simp only at hi dr bu;by_cases aV:i<ws.length
 ·obtain⟨w,hw⟩:∃w,ws[i]? =some w:=⟨_,b9 aV⟩;obtain⟨g,o,row,rfl,⟨rfl,-⟩,-,bG⟩:=h.at hw;rw[Nat.mul_one] at bG;have hws:=hs w (fg hw);refine a8 ?_;refine iQ ?_;refine eA ?_;refine zw rfl (ax.cE (Bv σ w hws hE) rfl) ?_;rintro v _ _ ⟨_,⟨s9,rfl,rfl⟩,rfl⟩;refine az.cl ?_;rcases s9 with ⟨n,hpn,rfl⟩|⟨zc,n,a,rfl⟩
  ·obtain⟨o5,rQ⟩:=iR hpn;refine cp ?_;refine zO rfl (Rd.uI nb.choose_spec rfl) ?_;refine aU ?_;refine zG ?_;refine yC (uJ σ n o5 rQ hT) ?_;refine bS ?_;(first|(refine zG ?_;refine zO rfl (Rd.neqs rfl rfl) ?_)|refine zH ?_);refine cx ?_;by_cases hq:cY n=w
   ·(have Pn:¬(cY n≠w):=fun h=>h hq);(have Ew:eY w=some n:=by rw[nH hpn,aq hq]);refine XA.aI rfl (by first|rfl|exact aE Pn) ?_;refine dc ?_;refine zw rfl (ax.jY (ae rfl) rfl (ae rfl)) ?_;rintro _ _ _ ⟨g30,rfl,rfl,rfl⟩
    have Gz:∀y∈acc++[n],aG y:=fun y hy=>by
     rcases List.mem_append.1 hy with hy|hy
     ·exact yG y hy
     ·rw[List.mem_singleton] at hy;subst hy;exact⟨o5,rQ⟩
    have gP:=yJ acc bu hw Ew;(have um:ints (acc++[n])=ints acc++[i64 n]:=by simp[ints]);refine zw rfl (ax.kM (ae rfl) rfl (ae rfl) rfl rfl rfl) ?_;rintro _ _ _ ⟨p31,c31,rfl,rfl,rfl⟩;refine bt ?_;refine⟨bQ,(i+1,(p31,c31)),_,zM,?_,⟨rfl,aV,acc++[n],(by rw[bq,dr];rfl),Gz,gP,rfl⟩,ad⟩
    ·rw[um];exact zE
   ·(have Ew:eY w=none:=by rw[nH hpn,ag hq]);refine XA.aY rfl (by first|rfl|exact aM hq) ?_;refine dB ?_;exact ao.ret (aB.two rfl rfl rfl) (ar.nil _) ⟨.refl _,rfl,.inl ⟨sr bu hw Ew,rfl⟩⟩
  ·have Ew:eY w=none:=oA zc;refine cp ?_;refine zO rfl (Rd.uH nb.choose_spec rfl) ?_;refine bY ?_;(first|(refine zG ?_;refine zO rfl (Rd.neqs rfl rfl) ?_)|refine zH ?_);refine dV ?_;exact ao.ret (aB.two rfl rfl rfl) (ar.nil _) ⟨.refl _,rfl,.inl ⟨sr bu hw Ew,rfl⟩⟩
 ·have e:ws.drop i=[]:=List.drop_of_length_le ad;rw[e] at bu;subst dr;(have bu:jc ws=some acc:=by rw[bu,jc];simp);refine a8 ?_;refine ik ?_;refine dB ?_;refine DA.mX (R:=aS 2 1 _ _ _) zL cm aH ?_;rintro cO ⟨⟩ hf bz;exact ao.ret (aB.two rfl rfl rfl) (ar.nil _) ⟨bz,rfl,.inr ⟨acc,pl,cl,bu,yG,hi,rfl,pl,cl,rfl,hf.1,hf.2.1,hf.2.2.2⟩⟩
section
variable {P:Program} {ρ:Env} {h:Heap} {σ:PH} {Γ:List HP}
theorem Wr.GC {T e:TypeId} {x:Operand} {ty:TypeId} {r re:Ty} {g o n c:Nat} {z0:Value} {l:List Value} {T':TypeId} (hT:aX P T=some r) (hk:r.k=.slice e) (hE:aX P e=some re) (hz:re.zero=[z0]) (h1:z0.oneCell'=true) (hx:ev ρ x=.slice (some ⟨g,o,none⟩) n c) (hb:CO h g l T') (hn:0<n) (gf:o+n≤l.length):
 Wr P ρ h (.call {callee:=.builtin .clear,args:=#[x],argTypes:=#[T]}) ty (fun v' h'=>v'=.tuple #[]∧h'=mW h g (aQ l o (List.replicate n z0)) T') X.qY:=by
 (refine Wr.run fun d pos af gd w hw=>?_);obtain⟨dd,i,z,e1,e2,-⟩:=aF hT;obtain⟨wW,i',z',sA,rI,mH,oa,Fo,Bh,E4⟩:=aF hE;rw[hk] at e2;(cases dd<;>simp[kindOf] at e2);rw[e2] at e1;clear e2;(have hg:w.heap[g]? =some (.cells l.toArray T' (0,0)):=by rw[hw];exact hb.get);have hzc:z'.cells=#[z0]:=by rw[←Array.toList_inj,E4,hz]
 have Cv:(Builtin.zeroCells z'.cells n).toList=List.replicate n z0:=by
  rw[hzc];simp[Builtin.zeroCells];apply List.ext_getElem
  ·simp
  ·intro i h1 h2;simp[Nat.mod_one]
 have gP:=run_storeCells_at P g o T' (List.replicate n z0) 0 l.toArray w hg sU (fun v hv=>by rw[List.eq_of_mem_replicate hv];exact h1);have KO:=vv w g l.toArray (l.take o++List.replicate n z0++l.drop (o+n)).toArray T' hg;obtain⟨m,rfl⟩:∃m,n=m+1:=⟨n-1,ad⟩;refine⟨.tuple #[],w.setRow g (l.take o++List.replicate (m+1) z0++l.drop (o+(m+1))).toArray,?_,⟨rfl,rfl,rfl⟩,rfl,?_⟩
 ·simp only[Nat.add_zero,List.length_replicate] at gP;simp at gP;simp[execOp,resolve,invoke,builtin,hx,Builtin.clear_,run_underlying e1,zeroValue,typeInfo,mH,Bh,Cv,gP]
 ·rw[KO,hw];simp[aQ,mW]
theorem X.ax.GC {T e:TypeId} {x:Operand} {ty:TypeId} {r re:Ty} {g o n c:Nat} {z0:Value} {l l':List Value} {T':TypeId} {al:List HP} (hT:aX P T=some r) (hk:r.k=.slice e) (hE:aX P e=some re) (hz:re.zero=[z0]) (h1:z0.oneCell'=true) (hx:ev ρ x=.slice (some ⟨g,o,none⟩) n c) (s:dm Γ (aw g l T') al) (hn:0<n) (gf:o+n≤l.length) (hl:aQ l o (List.replicate n z0)=l'):
 ax P ρ σ Γ (.call {callee:=.builtin .clear,args:=#[x],argTypes:=#[T]}) ty (fun v' aj Δ=>v'=.tuple #[]∧σ=aj∧Δ=aw g l' T'::al) ig:=
 Wr.Ok (Q:=fun h v h'=>v=.tuple #[]∧h'=mW h g l' T') (fun h kR=>by subst hl;exact Wr.GC hT hk hE hz h1 hx (kR.aw s) hn gf) fun f h v h' kR ⟨e1,e2⟩=>⟨σ,_,⟨e1,rfl,rfl⟩,e2▸kR.set s l'⟩
end
theorem X.Rd.GD {P:Program} {ρ:Env} {S:Heap→Prop} {ty:TypeId} {T:TypeId} {x y:Operand} {r re:Ty} {e len cap g:Nat} {i:Nat} {kk:IntKind} (hT:aX P T=some r) (hk:r.k=.slice e) (hE:aX P e=some re) (bz:re.size=1) (hx:ev ρ x=.slice (some ⟨g,0,none⟩) len cap) (hy:ev ρ y=.int kk i) (hi:i≤len) (hc:i<cap):Rd P ρ S (.slice T x (some y) none none) ty (.slice (some ⟨g,i,none⟩) (len-i) (cap-i)):=by
 have h:=X.Rd.sliceFrom (P:=P) (ρ:=ρ) (S:=S) (ty:=ty) hT hk hE hx hy ⟨ad,ad⟩ ad;simpa[bz] using h
def ur (ws:List ByteArray):List ByteArray:=ws.filter (fun x=>decide (x≠ByteArray.empty))
theorem su {ws:List ByteArray} {j:Nat} {w:ByteArray} (hw:ws[j]? =some w) (h:w=⟨#[]⟩):ur (ws.take (j+1))=ur (ws.take j):=by
 have hx:decide (w≠ByteArray.empty)=false:=aE (fun q=>q h);rw[List.take_add_one,hw,ur,ur,List.filter_append,Option.toList_some,List.filter_cons_of_neg (by rw[hx];decide),List.filter_nil,List.append_nil]
theorem GF {ws:List ByteArray} {j:Nat} {w:ByteArray} (hw:ws[j]? =some w) (h:¬w=⟨#[]⟩):ur (ws.take (j+1))=ur (ws.take j)++[w]:=by
 have hx:decide (w≠ByteArray.empty)=true:=aM h;rw[List.take_add_one,hw,ur,ur,List.filter_append,Option.toList_some,List.filter_cons_of_pos (by exact hx),List.filter_nil]
def uh:List ByteArray→Nat→Option Nat
 |[],_=>none
 |w::r,k=>if w=⟨#[]⟩ then some k else uh r (k+1)
theorem AT:∀(ws:List ByteArray) (k:Nat),uh ws k=none→ur ws=ws
 |[],_,_=>rfl
 |w::r,k,h=>by
  rw[uh] at h;by_cases hw:w=⟨#[]⟩
  ·rw[aq hw] at h;cases h
  ·rw[ag hw] at h;have hx:decide (w≠ByteArray.empty)=true:=aM hw;rw[ur,List.filter_cons_of_pos (by exact hx)];exact congrArg (w:: ·) (AT r (k+1) h)
theorem AU:∀(ws:List ByteArray) (k j:Nat),uh ws k=some j→∃i,j=k+i∧i<ws.length∧ur (ws.take i)=ws.take i∧ws[i]? =some ⟨#[]⟩
 |[],_,_,h=>by cases h
 |w::r,k,j,h=>by
  rw[uh] at h;by_cases hw:w=⟨#[]⟩
  ·rw[aq hw] at h;cases h;exact⟨0,rfl,aZ,rfl,by rw[hw];rfl⟩
  ·rw[ag hw] at h;obtain⟨i,h1,h2,h3,h4⟩:=AU r (k+1) j h;have hx:decide (w≠ByteArray.empty)=true:=aM hw;refine⟨i+1,ad,by simpa using h2,?_,by simpa using h4⟩;rw[List.take_succ_cons,ur,List.filter_cons_of_pos (by exact hx)];exact congrArg (w:: ·) h3
theorem NB (σ:PH) (w:ByteArray):ah Tryz.prog 21 #[.string w] σ [] (aA fun r aj al=>r=.bool (decide (w=⟨#[]⟩))∧σ=aj∧al=[]):=by
 refine cM Tryz.func21 ?_;refine bJ ?_;refine zO rfl (Rd.fE rfl rfl) ?_;refine bY ?_;exact ao.ret (aB.one rfl rfl) (ar.nil _) ⟨rfl,rfl,rfl⟩
theorem UA (σ:PH) (g:Nat) (ws:List ByteArray) (hlen:ws.length≤200000000):ah Tryz.prog 36 #[.slice (some ⟨g,0,none⟩) ws.length ws.length,.func (.func 21) #[] #[]] σ [aw g (ws.map Value.string) 9] (aA fun r aj al=>r=i64 (SY (uh ws 0))∧σ=aj∧al=[aw g (ws.map Value.string) 9]):=by
 (refine cw Tryz.func36 ?_;refine eA ?_;refine XA.gen [(0,_),(1,_),(4,_),(7,_),(8,_)] iX fun δ=>?_);dsimp only[List.foldl];refine XA.loop [(4,5),(8,18)] (fun k:Nat=>[(8,i64 k)]) (fun k aj al=>σ=aj∧k≤ws.length∧(uh ws 0=uh (ws.drop k) k)∧al=[aw g (ws.map Value.string) 9]) (fun k=>ws.length-k) 0 eb (Δ0:=_) ?_ (⟨rfl,cg _,rfl,rfl⟩) ?_
 ·exact zE
 rintro k δ _ _ ⟨rfl,hk,bu,rfl⟩;dsimp only[dq,List.foldl];refine a8 ?_;refine XA.bE rfl (fun aV=>?_) (fun aV=>?_)
 ·(have aV:k<ws.length:=by omega);obtain⟨w,hw⟩:∃w,ws[k]? =some w:=⟨_,b9 aV⟩;(have eL:(ws.map Value.string)[k]? =some (.string w):=by rw[List.getElem?_map,hw];rfl);have bu:uh ws 0=uh (ws.drop k) k:=bu;rw[eC hw,uh] at bu;refine dV ?_;refine zw rfl (ax.cV (first:=[]) (cap:=[]) rfl (NB σ w) rfl) ?_;rintro _ _ _ ⟨_,⟨rfl,rfl,rfl⟩,rfl⟩;refine az.cl ?_;refine aU ?_;refine XA.bE rfl (fun hc=>?_) (fun hc=>?_)
  ·refine bm ?_;rw[aq hc] at bu;exact ao.ret (aB.one rfl rfl) zE ⟨by rw[bu];rfl,rfl,rfl⟩
  ·rw[ag hc] at bu;refine bJ ?_;refine⟨bQ,k+1,_,zM,?_,⟨rfl,aV,bu,rfl⟩,ad⟩
   ·exact zE
 (have sC:k=ws.length:=by omega);subst sC;have bu:uh ws 0=uh (ws.drop ws.length) ws.length:=bu;rw[List.drop_length] at bu;refine cp ?_;exact ao.ret (aB.one rfl rfl) zE ⟨by rw[bu];rfl,rfl,rfl⟩
theorem Ey {cells:List Value} {i j:Nat} {v:Value} (Zz:i<j) (hj:j≤cells.length):(aQ cells i [v]).length=cells.length∧(aQ cells i [v]).take (i+1)=cells.take i++[v]∧(aQ cells i [v]).drop j=cells.drop j:=by
 (have hl:(cells.take i++[v]).length=i+1:=by simp;omega);refine⟨by simp[aQ];omega,?_,?_⟩
 ·rw[aQ,List.take_append_of_le_length ad,List.take_of_length_le ad]
 ·rw[aQ,List.drop_append,hl,List.drop_of_length_le ad,List.nil_append,List.drop_drop];congr 1;simp;omega
theorem Qy (σ:PH) (g:Nat) (ws:List ByteArray) (hlen:ws.length≤200000000):ah Tryz.prog 19 #[.slice (some ⟨g,0,none⟩) ws.length ws.length,.func (.func 21) #[] #[]] σ [aw g (ws.map Value.string) 9] (aA fun r aj al=>∃cells,r=.slice (some ⟨g,0,none⟩) (ur ws).length ws.length∧cells.length=ws.length∧cells.take (ur ws).length=(ur ws).map Value.string∧(ur ws).length≤ws.length∧σ=aj∧al=[aw g cells 9]):=by
 have ZO:=UA σ g ws hlen;have QS:(ur ws).length≤ws.length:=List.length_filter_le _ _
 cases hE:uh ws 0 with
 |none=>
  rw[hE] at ZO;have hf:=AT ws 0 hE;refine cw Tryz.func19 ?_;refine bt ?_;refine yC (ZO) ?_;refine iA ?_;exact ao.ret (aB.one rfl rfl) zE ⟨_,by rw[hf],aZ,by rw[hf];exact List.take_of_length_le aZ,QS,rfl,rfl⟩
 |some k=>
  obtain⟨i0,hk,OJ,hf0,E9⟩:=AU ws 0 k hE;rw[Nat.zero_add] at hk;subst hk;rw[hE,show SY (some k)=(k:Int) from rfl] at ZO;refine cw Tryz.func19 ?_;refine bt ?_;refine yC (ZO) ?_;refine aR ?_;refine XA.aI rfl (by first|rfl|exact aE (by show ¬((k:Int)=-1);omega)) ?_;(refine cp ?_;refine XA.gen [(0,_),(1,_),(4,_),(5,_),(6,_)] iX fun δ=>?_);dsimp only[List.foldl];refine XA.loop [(5,7),(16,35)] (fun x:(Nat×Nat)×List Value=>[(5,i64 x.1.1),(6,i64 x.1.2)]) (fun x aj al=>σ=aj∧x.1.1<x.1.2∧x.1.2≤ws.length∧x.2.length=ws.length∧x.2.take x.1.1=(ur (ws.take x.1.2)).map Value.string∧x.1.1=(ur (ws.take x.1.2)).length∧x.2.drop x.1.2=(ws.drop x.1.2).map Value.string∧al=[aw g x.2 9]) (fun x=>ws.length-x.1.2) ((k,k+1),ws.map Value.string) mO (Δ0:=_) ?_ (⟨rfl,Nat.lt_succ_self _,OJ,aZ,by rw[su E9 rfl,hf0,List.map_take],by rw[su E9 rfl,hf0,List.length_take,Nat.min_eq_left (Nat.le_of_lt OJ)],by rw[List.map_drop],rfl⟩) ?_
  ·exact zE
  rintro⟨⟨i,j⟩,cells⟩ δ _ _ ⟨rfl,Zz,hjn,fG,DH,Ym,HR,rfl⟩;dsimp only[dq,List.foldl];simp only at Zz hjn fG DH Ym HR;by_cases aV:j<ws.length
  ·obtain⟨w,hw⟩:∃w,ws[j]? =some w:=⟨_,b9 aV⟩
   have eL:cells[j]? =some (.string w):=by
    (have h0:(cells.drop j)[0]? =((ws.drop j).map Value.string)[0]? :=by rw[HR]);rw[List.getElem?_drop,Nat.add_zero,List.getElem?_map,List.getElem?_drop,Nat.add_zero,hw] at h0;exact h0
   have Yn:cells.drop (j+1)=(ws.drop (j+1)).map Value.string:=by
    rw[←List.drop_drop,HR,List.map_drop,List.drop_drop,←List.map_drop]
   refine bt ?_;refine iQ ?_;refine dV ?_;refine zw rfl (ax.cV (first:=[]) (cap:=[]) rfl (NB σ w) rfl) ?_;rintro _ _ _ ⟨_,⟨rfl,rfl,rfl⟩,rfl⟩;refine az.cl ?_;refine cx ?_;by_cases hq:w=⟨#[]⟩
   ·have e1:=su hw hq;refine XA.aI rfl (by first|rfl|simp[hq]) ?_;refine bt ?_;refine⟨bQ,((i,j+1),cells),_,zM,?_,⟨rfl,by show i<j+1;omega,aV,fG,by show cells.take i=_;rw[e1];exact DH,by show i=_;rw[e1];exact Ym,Yn,rfl⟩,(by show ws.length-(j+1)<ws.length-j;omega)⟩
    ·exact zE
   ·have e1:=GF hw hq;(have pB:i<ws.length:=by omega);(have gf:i+1≤cells.length:=by omega);obtain⟨c2,iP⟩:∃c2,aQ cells i [Value.string w]=c2:=⟨_,rfl⟩;obtain⟨z1,z2,z3⟩:=Ey (cells:=cells) (i:=i) (j:=j+1) (v:=.string w) ad ad;rw[iP] at z1 z2 z3;refine XA.aY rfl (by first|rfl|simp[hq]) ?_;refine px ?_;refine⟨bQ,((i+1,j+1),c2),_,zM,?_,⟨rfl,by show i+1<j+1;omega,aV,z1.trans fG,by show c2.take (i+1)=_;rw[z2,e1,DH,List.map_append];rfl,by show i+1=_;rw[e1,bq,←Ym];rfl,by show c2.drop (j+1)=_;rw[z3];exact Yn,rfl⟩,(by show ws.length-(j+1)<ws.length-j;omega)⟩
    ·exact zE
  ·(have uP:j=ws.length:=by omega);subst uP;rw[List.take_length] at DH Ym;subst Ym;have pH:(ur ws).length+(ws.length-(ur ws).length)≤cells.length:=by omega
   have Yo:(aQ cells (ur ws).length (List.replicate (ws.length-(ur ws).length) (Value.string ⟨#[]⟩))).length=ws.length∧(aQ cells (ur ws).length (List.replicate (ws.length-(ur ws).length) (Value.string ⟨#[]⟩))).take (ur ws).length=(ur ws).map Value.string:=by
    refine⟨by simp[aQ];omega,?_⟩;rw[aQ,List.append_assoc,List.take_append_of_le_length sU,List.take_of_length_le sU];exact DH
   refine bt ?_;refine ik ?_;refine bt ?_;refine zO rfl (X.Rd.GD (ae rfl) rfl (ae rfl) rfl rfl rfl ad ad) ?_;refine zw rfl (X.ax.GC (ae rfl) rfl (ae rfl) rfl rfl rfl zL ad pH rfl) ?_;rintro _ _ _ ⟨rfl,rfl,rfl⟩;refine a8 ?_;refine zO rfl (Rd.sS (ae rfl) rfl (ae rfl) rfl rfl ad) ?_;refine bY ?_;exact ao.ret (aB.one rfl rfl) zE ⟨_,rfl,Yo.1,Yo.2,QS,rfl,rfl⟩
section
variable {C:List In} {inp:List Int}
theorem NC (k:Bool) (x:In) (b:Be):b.out<+:(aN inp k x b).out:=by
 obtain⟨⟨nx,st,rd,on,sta,ce⟩,ke,ou,wr⟩:=b;rw[aN];by_cases q0:x.op=1
 ·simp only[aq q0];first|exact List.prefix_rfl|(repeat' split)<;>first|exact List.prefix_rfl|exact List.prefix_append _ _
 by_cases q1:x.op=2
 ·simp only[ag q0,aq q1];first|exact List.prefix_rfl|(repeat' split)<;>first|exact List.prefix_rfl|exact List.prefix_append _ _
 by_cases q2:x.op=3
 ·simp only[ag q0,ag q1,aq q2];first|exact List.prefix_rfl|(repeat' split)<;>first|exact List.prefix_rfl|exact List.prefix_append _ _
 by_cases q3:4≤x.op∧x.op≤8
 ·simp only[ag q0,ag q1,ag q2,aq q3];first|exact List.prefix_rfl|(repeat' split)<;>first|exact List.prefix_rfl|exact List.prefix_append _ _
 by_cases q4:x.op=9
 ·simp only[ag q0,ag q1,ag q2,ag q3,aq q4];first|exact List.prefix_rfl|(repeat' split)<;>first|exact List.prefix_rfl|exact List.prefix_append _ _
 by_cases q5:x.op=10
 ·simp only[ag q0,ag q1,ag q2,ag q3,ag q4,aq q5];first|exact List.prefix_rfl|(repeat' split)<;>first|exact List.prefix_rfl|exact List.prefix_append _ _
 by_cases q6:x.op=11
 ·simp only[ag q0,ag q1,ag q2,ag q3,ag q4,ag q5,aq q6];first|exact List.prefix_rfl|(repeat' split)<;>first|exact List.prefix_rfl|exact List.prefix_append _ _
 by_cases q7:x.op=12
 ·simp only[ag q0,ag q1,ag q2,ag q3,ag q4,ag q5,ag q6,aq q7];first|exact List.prefix_rfl|(repeat' split)<;>first|exact List.prefix_rfl|exact List.prefix_append _ _
 by_cases q8:x.op=13
 ·simp only[ag q0,ag q1,ag q2,ag q3,ag q4,ag q5,ag q6,ag q7,aq q8];first|exact List.prefix_rfl|(repeat' split)<;>first|exact List.prefix_rfl|exact List.prefix_append _ _
 by_cases q9:x.op=14
 ·simp only[ag q0,ag q1,ag q2,ag q3,ag q4,ag q5,ag q6,ag q7,ag q8,aq q9];first|exact List.prefix_rfl|(repeat' split)<;>first|exact List.prefix_rfl|exact List.prefix_append _ _
 by_cases q10:x.op=15
 ·simp only[ag q0,ag q1,ag q2,ag q3,ag q4,ag q5,ag q6,ag q7,ag q8,ag q9,aq q10];first|exact List.prefix_rfl|(repeat' split)<;>first|exact List.prefix_rfl|exact List.prefix_append _ _
 by_cases q11:x.op=16
 ·simp only[ag q0,ag q1,ag q2,ag q3,ag q4,ag q5,ag q6,ag q7,ag q8,ag q9,ag q10,aq q11];first|exact List.prefix_rfl|(repeat' split)<;>first|exact List.prefix_rfl|exact List.prefix_append _ _
 simp only[ag q0,ag q1,ag q2,ag q3,ag q4,ag q5,ag q6,ag q7,ag q8,ag q9,ag q10,ag q11];exact List.prefix_rfl
end
theorem rm {α β:Type} {c:Prop} [Decidable c] (f:α→β) {a b a' b':α} (ha:f a=f a') (hb:f b=f b'):f (if c then a else b)=f (if c then a' else b'):=by
 by_cases h:c
 ·rw[aq h,aq h];exact ha
 ·rw[ag h,ag h];exact hb
theorem UB (inp:List Int) (k k':Bool) (x:In) (m a a':Mi) (o o':List Int) (w w':Bool):(aN inp k x ⟨m,a,o,w⟩).m=(aN inp k' x ⟨m,a',o',w'⟩).m:=by
 obtain⟨next,stack,rd,outn,st,cells⟩:=m;simp only[aN];refine rm Be.m rfl ?_;refine rm Be.m rfl ?_;refine rm Be.m ?_ ?_
 ·cases stack with
  |nil=>rfl
  |cons k s=>exact rm Be.m rfl rfl
 refine rm Be.m ?_ ?_
 ·rcases stack with _|⟨y,_|⟨z,s⟩⟩<;>rfl
 refine rm Be.m ?_ ?_
 ·cases stack<;>rfl
 refine rm Be.m ?_ ?_
 ·rcases stack with _|⟨y,_|⟨z,s⟩⟩
  ·rfl
  ·rfl
  ·exact rm Be.m rfl rfl
 refine rm Be.m ?_ ?_
 ·cases stack with
  |nil=>rfl
  |cons n s=>
   simp only;split<;>split<;>rfl
 refine rm Be.m (rm Be.m rfl rfl) ?_;refine rm Be.m ?_ ?_
 ·cases stack with
  |nil=>rfl
  |cons n s=>exact rm Be.m rfl rfl
 refine rm Be.m rfl ?_;refine rm Be.m ?_ ?_
 ·cases k<;>cases k'<;>rfl
 exact rm Be.m rfl rfl
theorem qU (inp:List Int) (k:Bool) (x:In) (m a:Mi) (o:List Int) (w:Bool) (rD:x.op≠11):(aN inp k x ⟨m,a,o,w⟩).out=o∧(aN inp k x ⟨m,a,o,w⟩).wrong=w∧(aN inp k x ⟨m,a,o,w⟩).m.outn=m.outn:=by
 obtain⟨next,stack,rd,outn,st,cells⟩:=m;show (fun b':Be=>b'.out=o∧b'.wrong=w∧b'.m.outn=outn) _;simp only[aN];refine fD (Q:=fun b':Be=>b'.out=o∧b'.wrong=w∧b'.m.outn=outn) ⟨rfl,rfl,rfl⟩ ?_;refine fD (Q:=fun b':Be=>b'.out=o∧b'.wrong=w∧b'.m.outn=outn) ⟨rfl,rfl,rfl⟩ ?_;refine fD (Q:=fun b':Be=>b'.out=o∧b'.wrong=w∧b'.m.outn=outn) ?_ ?_
 ·cases stack with
  |nil=>exact⟨rfl,rfl,rfl⟩
  |cons k s=>exact fD (Q:=fun b':Be=>b'.out=o∧b'.wrong=w∧b'.m.outn=outn) ⟨rfl,rfl,rfl⟩ ⟨rfl,rfl,rfl⟩
 refine fD (Q:=fun b':Be=>b'.out=o∧b'.wrong=w∧b'.m.outn=outn) ?_ ?_
 ·rcases stack with _|⟨y,_|⟨z,s⟩⟩<;>exact⟨rfl,rfl,rfl⟩
 refine fD (Q:=fun b':Be=>b'.out=o∧b'.wrong=w∧b'.m.outn=outn) ?_ ?_
 ·cases stack<;>exact⟨rfl,rfl,rfl⟩
 refine fD (Q:=fun b':Be=>b'.out=o∧b'.wrong=w∧b'.m.outn=outn) ?_ ?_
 ·rcases stack with _|⟨y,_|⟨z,s⟩⟩
  ·exact⟨rfl,rfl,rfl⟩
  ·exact⟨rfl,rfl,rfl⟩
  ·exact fD (Q:=fun b':Be=>b'.out=o∧b'.wrong=w∧b'.m.outn=outn) ⟨rfl,rfl,rfl⟩ ⟨rfl,rfl,rfl⟩
 rw[ag rD];refine fD (Q:=fun b':Be=>b'.out=o∧b'.wrong=w∧b'.m.outn=outn) (fD (Q:=fun b':Be=>b'.out=o∧b'.wrong=w∧b'.m.outn=outn) ⟨rfl,rfl,rfl⟩ ⟨rfl,rfl,rfl⟩) ?_;refine fD (Q:=fun b':Be=>b'.out=o∧b'.wrong=w∧b'.m.outn=outn) ?_ ?_
 ·cases stack with
  |nil=>exact⟨rfl,rfl,rfl⟩
  |cons k s=>exact fD (Q:=fun b':Be=>b'.out=o∧b'.wrong=w∧b'.m.outn=outn) ⟨rfl,rfl,rfl⟩ ⟨rfl,rfl,rfl⟩
 refine fD (Q:=fun b':Be=>b'.out=o∧b'.wrong=w∧b'.m.outn=outn) ⟨rfl,rfl,rfl⟩ ?_;refine fD (Q:=fun b':Be=>b'.out=o∧b'.wrong=w∧b'.m.outn=outn) ?_ ?_
 ·cases k<;>exact⟨rfl,rfl,rfl⟩
 exact fD (Q:=fun b':Be=>b'.out=o∧b'.wrong=w∧b'.m.outn=outn) ⟨rfl,rfl,rfl⟩ ⟨rfl,rfl,rfl⟩
theorem oT (inp:List Int) (k:Bool) (x:In) (b:Be) (rD:x.op=11):aN inp k x b=match b.m.stack with
 |[]=>b
 |n::s=>
  if b.m.outn=b.out.length then {b with m:={b.m with stack:=s,outn:=b.m.outn+1},out:=b.out++[n]}
  else {b with m:={b.m with stack:=s,outn:=b.m.outn+1},wrong:=b.wrong||decide (b.out.getD b.m.outn 0≠n)}:=by
 obtain⟨op,a1,a2,a3⟩:=x;simp only at rD;subst rD;rfl
def Calm (c:Be):Prop:=c.m.outn=c.out.length∧c.wrong=false
theorem Ez (inp:List Int) (k:Bool) (x:In) {b c:Be} (hm:b.m=c.m) (hc:Calm c) (hw:b.wrong=false):
 Calm (aN inp false x c)∧(aN inp k x b).m=(aN inp false x c).m∧(aN inp k x b).wrong=false∨¬(b.out=c.out∨(aN inp false x c).out<+:b.out):=by
 obtain⟨m,a,o,w⟩:=b;obtain⟨m',a',o',w'⟩:=c;obtain⟨h1,h2⟩:=hc;simp only at hm h1 h2 hw;subst hm h2 hw;by_cases rD:x.op=11
 ·have e1:=oT inp k x ⟨m,a,o,false⟩ rD;have e2:=oT inp false x ⟨m,a',o',false⟩ rD;rw[e1,e2]
  cases hs:m.stack with
  |nil=>exact .inl ⟨⟨h1,rfl⟩,rfl,rfl⟩
  |cons n s=>
   simp only[hs,h1,if_true];by_cases ho:o=o'
   ·left;subst ho;refine⟨⟨aZ,rfl⟩,aZ,aZ⟩
   ·by_cases hp:(o'++[n])<+:o
    ·left;have hl:=hp.length_le;rw[bq,dZ] at hl;have ix:¬(o'.length=o.length):=by omega
     have hg:o.getD o'.length 0=n:=by
      obtain⟨t,rfl⟩:=hp;simp
     refine⟨⟨aZ,rfl⟩,by rw[ag ix],by rw[ag ix,hg];simp⟩
    ·right;rintro(q|q)
     ·exact ho q
     ·exact hp q
 ·obtain⟨p1,p2,p3⟩:=qU inp k x m a o false rD;obtain⟨q1,q2,q3⟩:=qU inp false x m a' o' false rD;exact .inl ⟨⟨by rw[q3,q1,h1],q2⟩,UB inp k false x m a a' o o' false false,p2⟩
theorem wA (inp:List Int) (k:Bool) (x:In) {b c:Be} (hm:b.m=c.m) (hc:Calm c):
 (b.out=c.out→(aN inp k x b).out=(aN inp false x c).out)∧((aN inp false x c).out<+:b.out→(aN inp k x b).out=b.out):=by
 obtain⟨m,a,o,w⟩:=b;obtain⟨m',a',o',w'⟩:=c;obtain⟨h1,h2⟩:=hc;simp only at hm h1 h2;subst hm h2;by_cases rD:x.op=11
 ·have e1:=oT inp k x ⟨m,a,o,w⟩ rD;have e2:=oT inp false x ⟨m,a',o',false⟩ rD;rw[e1,e2]
  cases hs:m.stack with
  |nil=>exact⟨fun h=>h,fun _=>rfl⟩
  |cons n s=>
   simp only[hs,h1,if_true];refine⟨fun h=>?_,fun hp=>?_⟩
   ·subst h;rw[aq rfl]
   ·have hl:=hp.length_le;rw[bq,dZ] at hl;rw[ag ad]
 ·obtain⟨p1,p2,p3⟩:=qU inp k x m a o w rD;obtain⟨q1,q2,q3⟩:=qU inp false x m a' o' false rD;rw[p1,q1];exact⟨fun h=>h,fun _=>rfl⟩
section
variable {C:List In} {inp:List Int}
def tr (C:List In) (inp:List Int) (b:Be):Nat→Be
 |0=>b
 |n+1=>bp C inp false (tr C inp b n)
theorem ND (b:Be):∀(n j:Nat),(tr C inp b n).out<+:(tr C inp b (n+j)).out
 |n,0=>List.prefix_refl _
 |n,j+1=>by
  refine(ND b n j).trans ?_;show _<+:(bp C inp false (tr C inp b (n+j))).out;rw[bp];split
  ·rw[cW];split
   ·exact List.prefix_refl _
   ·exact NC false _ (bump _)
  ·exact List.prefix_refl _
theorem NF (b:Be) {n k:Nat} (h:n≤k):(tr C inp b n).out<+:(tr C inp b k).out:=by
 obtain⟨j,rfl⟩:=Nat.exists_eq_add_of_le h;exact ND b n j
structure UC (T:Nat→Be) (n q N:Nat) (b:Be):Prop where
 m:b.m=(T n).m
 kept:b.kept=(T q).m
 out:b.out=(T N).out
 wrong:b.wrong=false
 nN:n≤N
 qN:q≤N
theorem ui {b c:Be} (k:Bool) (hm:b.m=c.m) (hc:Calm c) (hw:b.wrong=false) (ho:b.out=c.out∨(bp C inp false c).out<+:b.out):
 Calm (bp C inp false c)∧(bp C inp k b).m=(bp C inp false c).m∧(bp C inp k b).wrong=false∧(b.out=c.out→(bp C inp k b).out=(bp C inp false c).out)∧((bp C inp false c).out<+:b.out→(bp C inp k b).out=b.out):=by
 by_cases h0:c.m.st=0
 ·(have Yp:b.m.st=0:=by rw[hm];exact h0);have e1:bp C inp k b=cW C inp k b:=aq Yp;have e2:bp C inp false c=cW C inp false c:=aq h0;rw[e1];rw[e2] at ho⊢;(have s1:cW C inp k b=match C[c.m.next]? with|none=>b|some x=>aN inp k x (bump b):=by rw[cW,hm];rfl);(have s2:cW C inp false c=match C[c.m.next]? with|none=>c|some x=>aN inp false x (bump c):=rfl);rw[s1,s2];rw[s2] at ho
  cases hx:C[c.m.next]? with
  |none=>exact⟨hc,hm,hw,fun h=>h,fun _=>rfl⟩
  |some x=>
   rw[hx] at ho;simp only at ho⊢;(have hm':(bump b).m=(bump c).m:=by simp only[bump,hm]);have Ku:Calm (bump c):=hc;obtain⟨r1,r2⟩:=wA inp k x hm' Ku;rcases Ez inp k x hm' Ku (show (bump b).wrong=false from hw) with ⟨q1,q2,q3⟩|q
   ·exact⟨q1,q2,q3,r1,r2⟩
   ·exact absurd ho q
 ·(have Yp:¬(b.m.st=0):=by rw[hm];exact h0);have e1:bp C inp k b=b:=ag Yp;have e2:bp C inp false c=c:=ag h0;rw[e1,e2];exact⟨hc,hm,hw,fun h=>h,fun _=>rfl⟩
theorem Cm {b:Be} (h:Calm b):∀n,Calm (tr C inp b n)
 |0=>h
 |n+1=>(ui (C:=C) (inp:=inp) false rfl (Cm h n) (Cm h n).2 (.inl rfl)).1
theorem UC.next {b0 b:Be} {n q N:Nat} (h0:Calm b0) (h:UC (tr C inp b0) n q N b) (hs:b.m.st=0):∃q',UC (tr C inp b0) (n+1) q' (max N (n+1)) (bp C inp true b):=by
 obtain⟨hm,hk,ho,hw,hn,hq⟩:=h;have hc:=Cm (C:=C) (inp:=inp) h0 n
 have Yq:b.out=(tr C inp b0 n).out∨(bp C inp false (tr C inp b0 n)).out<+:b.out:=by
  by_cases e:n=N
  ·left;rw[ho,e]
  ·right;rw[ho];exact NF b0 (n:=n+1) ad
 obtain⟨-,g2,g3,g4,g5⟩:=ui (C:=C) (inp:=inp) true hm hc hw Yq
 have Yr:(bp C inp true b).out=(tr C inp b0 (max N (n+1))).out:=by
  by_cases e:n=N
  ·subst e;rw[g4 ho,Nat.max_eq_right ad];rfl
  ·rw[g5 (by rw[ho];exact NF b0 (n:=n+1) ad),ho,Nat.max_eq_left ad]
 by_cases ki:∃x,C[b.m.next]? =some x∧x.op=15
 ·obtain⟨x,hx,acn⟩:=ki;refine⟨n+1,g2,?_,Yr,g3,ad,ad⟩;(have e:bp C inp true b={bump b with kept:=(bump b).m}:=by rw[bp,aq hs,qh hx acn];rfl);rw[e] at g2;rw[e];exact g2
 ·refine⟨q,g2,?_,Yr,g3,ad,ad⟩;rw[bp,aq hs,cW]
  cases hx:C[b.m.next]? with
  |none=>exact hk
  |some x=>exact(AK inp true x (bump b) (fun e=>ki ⟨x,hx,e⟩)).trans hk
end
theorem EA (σ:PH) (s:oP):ah Tryz.prog 54 #[.agg #[i64 s.kind,i64 s.n,i64 s.K,.int .u64 s.mask]] σ [] (aA fun v aj al=>v=i64 (aO s)∧σ=aj∧al=[]):=by
 obtain⟨kd,n,K,m⟩:=s;by_cases b1:kd<1
 ·(have hf:aO ⟨kd,n,K,m⟩=2:=by rw[aO,aq (.inl b1)]);rw[hf];(refine cM Tryz.func54 ?_;refine aU ?_;refine cP fun g1=>?_;refine dC ?_);refine XA.aY rfl (by first|rfl|exact aM b1) ?_;refine bg ?_;exact bC rfl rfl ⟨rfl,rfl,rfl⟩
 by_cases b2:3<kd
 ·(have hf:aO ⟨kd,n,K,m⟩=2:=by rw[aO,aq (.inr b2)]);rw[hf];(refine cM Tryz.func54 ?_;refine aU ?_;refine cP fun g1=>?_;refine dC ?_);refine XA.aY rfl (by first|rfl|exact aM b2) ?_;refine bg ?_;exact bC rfl rfl ⟨rfl,rfl,rfl⟩
 (have hb:¬(kd<1∨3<kd):=by omega);by_cases k2:kd=2
 ·subst k2;(have hf:aO ⟨2,n,K,m⟩=0:=by rw[aO,ag hb,ag];rintro(⟨q,-⟩|⟨q,-⟩);exact q rfl;cases q);rw[hf];(refine cM Tryz.func54 ?_;refine aU ?_;refine cP fun g1=>?_;refine dC ?_;refine ik ?_;refine jZ ?_;refine ik ?_;refine bJ ?_);exact bC rfl rfl ⟨rfl,rfl,rfl⟩
 (have hk:kd=1∨kd=3:=by omega);by_cases n0:n<0
 ·(have hf:aO ⟨kd,n,K,m⟩=1:=by rw[aO,ag hb,aq (.inl ⟨k2,.inl n0⟩)]);rw[hf];rcases hk with rfl|rfl
  ·refine cM Tryz.func54 ?_;(refine aU ?_;refine cP fun g1=>?_;refine dC ?_;refine ik ?_;refine jZ ?_);refine XA.aY rfl (by first|rfl|exact aM n0) ?_;refine bg ?_;exact bC rfl rfl ⟨rfl,rfl,rfl⟩
  ·refine cM Tryz.func54 ?_;(refine aU ?_;refine cP fun g1=>?_;refine dC ?_;refine ik ?_;refine jZ ?_);refine XA.aY rfl (by first|rfl|exact aM n0) ?_;refine bg ?_;exact bC rfl rfl ⟨rfl,rfl,rfl⟩
 by_cases n1:3000<n
 ·(have hf:aO ⟨kd,n,K,m⟩=1:=by rw[aO,ag hb,aq (.inl ⟨k2,.inr n1⟩)]);rw[hf];rcases hk with rfl|rfl
  ·refine cM Tryz.func54 ?_;(refine aU ?_;refine cP fun g1=>?_;refine dC ?_;refine ik ?_;refine jZ ?_);refine XA.aY rfl (by first|rfl|exact aM n1) ?_;refine bg ?_;exact bC rfl rfl ⟨rfl,rfl,rfl⟩
  ·refine cM Tryz.func54 ?_;(refine aU ?_;refine cP fun g1=>?_;refine dC ?_;refine ik ?_;refine jZ ?_);refine XA.aY rfl (by first|rfl|exact aM n1) ?_;refine bg ?_;exact bC rfl rfl ⟨rfl,rfl,rfl⟩
 rcases hk with rfl|rfl
 ·have hf:aO ⟨1,n,K,m⟩=0:=by
   rw[aO,ag hb,ag];rintro(⟨-,q⟩|⟨q,-⟩)
   ·simp only at q;omega
   ·cases q
  rw[hf];(refine cM Tryz.func54 ?_;refine aU ?_;refine cP fun g1=>?_;refine dC ?_;refine ik ?_;refine jZ ?_;refine ik ?_;refine bJ ?_);exact bC rfl rfl ⟨rfl,rfl,rfl⟩
 by_cases q0:K<0
 ·(have hf:aO ⟨3,n,K,m⟩=1:=by rw[aO,ag hb,aq (.inr ⟨rfl,q0⟩)]);rw[hf];(refine cM Tryz.func54 ?_;refine aU ?_;refine cP fun g1=>?_;refine dC ?_;refine ik ?_;refine jZ ?_);refine XA.aY rfl (by first|rfl|exact aM q0) ?_;refine bg ?_;exact bC rfl rfl ⟨rfl,rfl,rfl⟩
 have hf:aO ⟨3,n,K,m⟩=0:=by
  rw[aO,ag hb,ag];rintro(⟨-,q⟩|⟨-,q⟩)
  ·simp only at q;omega
  ·exact q0 q
 rw[hf];(refine cM Tryz.func54 ?_;refine aU ?_;refine cP fun g1=>?_;refine dC ?_;refine ik ?_;refine jZ ?_;refine ik ?_;refine bJ ?_);exact bC rfl rfl ⟨rfl,rfl,rfl⟩
end Go.Proofs.YtgeoiflbjcehcaaGreatDoor
