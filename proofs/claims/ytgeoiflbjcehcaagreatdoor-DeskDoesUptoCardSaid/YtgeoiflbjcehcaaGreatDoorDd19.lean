import Derived.Test.YtgeoiflbjcehcaaGreatDoorDd18
set_option maxHeartbeats 4000000
set_option maxRecDepth 2000
set_option linter.unusedVariables false
set_option linter.unusedSimpArgs false
namespace Go.Proofs.YtgeoiflbjcehcaaGreatDoor
open Go X
theorem Gf (σ:PH) (g mb sb db pb:Nat) (cv iv:Value) (left:Int) (bR:Bool) (d:av) (s:eZ) (M:Me) (h4:M.ld 4≠0):
 ah Tryz.prog 156 #[ptr g] σ [aw g [ptr mb,cv,iv,ptr pb,i64 left,.bool bR] 179,gJ mb sb db d s M] (aA fun v aj al=>v=.bool false∧σ=aj∧al=[aw g [ptr mb,cv,iv,ptr pb,i64 left,.bool bR] 179,gJ mb sb db d s M]):=by
 refine cM Tryz.func156 ?_;refine bm ?_;refine yC (jM σ mb sb db d s M 4) ?_;refine cx ?_;refine XA.aY rfl (aM h4) ?_;refine bg ?_;exact bC rfl rfl ⟨rfl,rfl,rfl⟩
theorem T7 {out:List Int} {wrong:Bool} {outn:Nat} {n:Int} (h:outn≤out.length):Fb out wrong outn n=(if outn=out.length then (out++[n],wrong) else (out,wrong||decide (out.getD outn 0≠n))):=by
 rw[Fb];by_cases h1:outn=out.length
 ·rw[aq ad,aq h1]
 ·rw[ag ad,ag h1,Int.toNat_natCast];by_cases h2:out.getD outn 0=n
  ·rw[ag (by rintro(q|q|q);omega;omega;exact q h2),aE (fun q=>q h2),Bool.or_false]
  ·rw[aq (.inr (.inr h2)),aM h2,Bool.or_true]
section
variable (σ:PH) (g mb sb db pb:Nat) (pc pi:Option Addr) (cc ci:Nat) (code:List In) (inp:List Int) (left:Int) (bR:Bool) (d:av) (s:eZ) (M:Me) (b:Be) (x:In)
theorem T8 (hc:bV 4 tR σ (.slice pc code.length cc) code) (hi:a7 σ (.slice pi inp.length ci) inp) (pB:inp.length≤1000000) (hS:cG M.C b.m) (hk:np code inp b x) (hs:b.m.stack.length<59) (ki:x.op≠15):
 ah Tryz.prog 156 #[ptr g] σ [aw g [ptr mb,.slice pc code.length cc,.slice pi inp.length ci,ptr pb,i64 left,.bool bR] 179,gJ mb sb db d s M,dp pb b.out b.wrong] (aA fun v aj al=>v=.bool true∧σ=aj∧al=[aw g [ptr mb,.slice pc code.length cc,.slice pi inp.length ci,ptr pb,i64 left,.bool bR] 179,gJ mb sb db d s (M.nU code inp),dp pb (cW code inp false b).out (cW code inp false b).wrong]):=by
 obtain⟨⟨next,stack,rd,outn,st,cells⟩,kept,out,wrong⟩:=b;obtain⟨gP,hx,b8,⟨eL,jO⟩,jC,uq,fG,ns,oY,Gb,OB⟩:=hk;have y5:=hS.lc;simp only at gP hx b8 eL jO uq fG ns oY Gb OB hs hS y5;subst gP;obtain⟨kO,xa,xb,xn⟩:=x;simp only at b8 eL jO jC ki;have aV:=(List.getElem?_eq_some_iff.1 hx).1;obtain⟨gc,si,row,rfl,mJ,mZ,bG⟩:=hc.at hx;obtain rfl:row=[i64 kO,i64 xa,i64 xb,i64 xn]:=mJ
 have hB:cW code inp false ⟨⟨next,stack,rd,outn,0,cells⟩,kept,out,wrong⟩=aN inp false ⟨kO,xa,xb,xn⟩ ⟨⟨next+1,stack,rd,outn,0,cells⟩,kept,out,wrong⟩:=by
  rw[cW,hx];rfl
 rw[hB];clear hB;have e0:M.ld 0=next:=hS.nx;have hM:M.nU code inp=(M.put 0 ((next:Int)+1)).oN inp ⟨kO,xa,xb,xn⟩:=by rw[Me.nU,e0,Int.toNat_natCast,hx]
 have hw:cG (M.put 0 (((next:Nat):Int)+1)).C ⟨next+1,stack,rd,outn,0,cells⟩:=by
  have:=hS.P8 (next+1);rw[Int.natCast_add] at this;exact this
 have y6:=jM σ mb sb db d s M 4;rw[show M.ld 4=0 from hS.st] at y6;have mr:=yq σ g mb sb db pb (.slice (some ⟨gc,si,none⟩) code.length cc) (.slice pi inp.length ci) left bR d s M 0 1;rw[e0,X.wrap64_in ad ad] at mr;rw[hM];clear hM hS e0 hc;generalize M.put 0 (((next:Nat):Int)+1)=M1 at hw mr⊢;dsimp only;refine cM Tryz.func156 ?_;refine bm ?_;refine yC (y6) ?_;refine bg ?_;refine XA.join [(3,3),(11,18)] (fun y:Nat=>[(3,ptr y)]) (fun y aj al=>σ=aj∧al=[aw y [i64 kO,i64 xa,i64 xb,i64 xn] 219,aw g [ptr mb,.slice (some ⟨gc,si,none⟩) code.length cc,.slice pi inp.length ci,ptr pb,i64 left,.bool bR] 179,gJ mb sb db d s M1,dp pb out wrong]) ?_ ?_
 ·skip;refine XA.mM aC _ _ [9] 10 #[false,false,false,false,false,false,false,false,false,false] rfl rfl aC (PH.sub.refl _) (ar.bB (R:=aw g _ _) zL (ar.nil _)) ?_;refine qp 0 #[tT,fF,fF,fF,fF,fF,fF,fF,fF,fF] rfl Rd.mv ?_;refine qp 1 #[tT,tT,fF,fF,fF,fF,fF,fF,fF,fF] rfl (Rd.nilCheck rfl) ?_;refine qp 2 #[tT,tT,tT,fF,fF,fF,fF,fF,fF,fF] rfl (Rd.fA rfl) ?_;refine qr 3 #[tT,tT,tT,tT,fF,fF,fF,fF,fF,fF] rfl (Rd.yZ rfl (ae rfl) rfl) ?_;refine qp 4 #[tT,tT,tT,tT,tT,fF,fF,fF,fF,fF] rfl Rd.mv ?_;refine cX.w2 (i:=5) (j:=8) aC ?_ ?_
  ·refine qw #[tT,tT,tT,tT,tT,tT,fF,fF,fF,fF] rfl (ax.cE mr rfl) ?_;rintro _ _ _ ⟨_,⟨rfl,rfl,rfl⟩,rfl⟩;refine⟨⟨zX,zE⟩,cX.re zC ?_⟩;refine qp 6 #[tT,tT,tT,tT,tT,tT,tT,fF,fF,fF] rfl (Rd.K8 rfl rfl) ?_;refine qr 7 #[tT,tT,tT,tT,tT,tT,tT,tT,fF,fF] rfl (Rd.Bl rfl) ?_;refine qa 8 ?_;refine qw #[tT,tT,tT,tT,tT,tT,tT,tT,tT,fF] rfl (ax.alloc (ae rfl)) ?_;rintro _ _ _ ⟨g3,rfl,rfl,rfl⟩;refine⟨⟨zX,zE⟩,cX.re zC ?_⟩;refine qa 9 ?_;refine ji.b7 (bc:=#[tT,tT,tT,tT,tT,tT,tT,tT,tT,tT]) rfl rfl Gd.free aC rfl aC (ax.st (ae rfl) rfl) ?_;rintro _ _ _ ⟨rfl,rfl,rfl⟩;refine cX.re zC ?_;refine cX.nil rfl ?_;refine DA.bI ⟨zK,g3,_,zM,?_,rfl,rfl⟩;exact zE
  ·refine qw #[tT,tT,tT,tT,tT,fF,fF,fF,tT,fF] rfl (ax.alloc (ae rfl)) ?_;rintro _ _ _ ⟨g3,rfl,rfl,rfl⟩;refine⟨⟨zX,zE⟩,cX.re zC ?_⟩;refine qa 5 ?_;refine qw #[tT,tT,tT,tT,tT,tT,fF,fF,tT,fF] rfl (ax.cE mr rfl) ?_;rintro _ _ _ ⟨_,⟨rfl,rfl,rfl⟩,rfl⟩;refine⟨⟨zX,zE⟩,cX.re zC ?_⟩;refine qp 6 #[tT,tT,tT,tT,tT,tT,tT,fF,tT,fF] rfl (Rd.K8 rfl rfl) ?_;refine qr 7 #[tT,tT,tT,tT,tT,tT,tT,tT,tT,fF] rfl (Rd.Bl rfl) ?_;refine qa 9 ?_;refine ji.b7 (bc:=#[tT,tT,tT,tT,tT,tT,tT,tT,tT,tT]) rfl rfl Gd.free aC rfl aC (ax.st (ae rfl) rfl) ?_;rintro _ _ _ ⟨rfl,rfl,rfl⟩;refine cX.re zC ?_;refine cX.nil rfl ?_;refine DA.bI ⟨zK,g3,_,zM,?_,rfl,rfl⟩;exact zE
 rintro g3 δ _ _ ⟨rfl,rfl⟩;dsimp only[dq,List.foldl];refine dh ?_;by_cases h1:kO=1
 ·subst h1;clear hx;rw[show M1.oN inp ⟨1,xa,xb,xn⟩=M1.hZ xn from rfl];rw[show aN inp false ⟨1,xa,xb,xn⟩ ⟨⟨next+1,stack,rd,outn,0,cells⟩,kept,out,wrong⟩=⟨⟨next+1,xn::stack,rd,outn,0,cells⟩,kept,out,wrong⟩ from rfl];refine dc ?_;refine yC (B5 σ g mb sb db pb (.slice (some ⟨gc,si,none⟩) code.length cc) (.slice pi inp.length ci) left bR d s M1 hw hs xn) ?_;refine bt ?_;exact bC rfl rfl ⟨rfl,rfl,rfl⟩
 by_cases h4:kO=4
 ·subst h4;clear hx
  obtain⟨y,z,l,rfl⟩:∃y z s,stack=y::z::s:=by
   cases stack with
   |nil=>simp[cF] at b8
   |cons y s=>cases s with
    |nil=>simp[cF] at b8
    |cons z s=>exact⟨y,z,s,rfl⟩
  rw[show M1.oN inp ⟨4,xa,xb,xn⟩=M1.bA.bA.hZ (il 4 M1.bA.ek M1.ek) from rfl,hw.ek,hw.bA.ek];rw[show aN inp false ⟨4,xa,xb,xn⟩ ⟨⟨next+1,y::z::l,rd,outn,0,cells⟩,kept,out,wrong⟩=⟨⟨next+1,il 4 z y::l,rd,outn,0,cells⟩,kept,out,wrong⟩ from rfl];refine dC ?_;refine yC (D6 σ g mb sb db pb (.slice (some ⟨gc,si,none⟩) code.length cc) (.slice pi inp.length ci) left bR d s M1 4 au hw) ?_;refine bt ?_;exact bC rfl rfl ⟨rfl,rfl,rfl⟩
 by_cases h5:kO=5
 ·subst h5;clear hx
  obtain⟨y,z,l,rfl⟩:∃y z s,stack=y::z::s:=by
   cases stack with
   |nil=>simp[cF] at b8
   |cons y s=>cases s with
    |nil=>simp[cF] at b8
    |cons z s=>exact⟨y,z,s,rfl⟩
  rw[show M1.oN inp ⟨5,xa,xb,xn⟩=M1.bA.bA.hZ (il 5 M1.bA.ek M1.ek) from rfl,hw.ek,hw.bA.ek];rw[show aN inp false ⟨5,xa,xb,xn⟩ ⟨⟨next+1,y::z::l,rd,outn,0,cells⟩,kept,out,wrong⟩=⟨⟨next+1,il 5 z y::l,rd,outn,0,cells⟩,kept,out,wrong⟩ from rfl];refine rM ?_;refine yC (D6 σ g mb sb db pb (.slice (some ⟨gc,si,none⟩) code.length cc) (.slice pi inp.length ci) left bR d s M1 5 au hw) ?_;refine bt ?_;exact bC rfl rfl ⟨rfl,rfl,rfl⟩
 by_cases h6:kO=6
 ·subst h6;clear hx
  obtain⟨y,z,l,rfl⟩:∃y z s,stack=y::z::s:=by
   cases stack with
   |nil=>simp[cF] at b8
   |cons y s=>cases s with
    |nil=>simp[cF] at b8
    |cons z s=>exact⟨y,z,s,rfl⟩
  rw[show M1.oN inp ⟨6,xa,xb,xn⟩=M1.bA.bA.hZ (il 6 M1.bA.ek M1.ek) from rfl,hw.ek,hw.bA.ek];rw[show aN inp false ⟨6,xa,xb,xn⟩ ⟨⟨next+1,y::z::l,rd,outn,0,cells⟩,kept,out,wrong⟩=⟨⟨next+1,il 6 z y::l,rd,outn,0,cells⟩,kept,out,wrong⟩ from rfl];refine jZ ?_;refine yC (D6 σ g mb sb db pb (.slice (some ⟨gc,si,none⟩) code.length cc) (.slice pi inp.length ci) left bR d s M1 6 au hw) ?_;refine bt ?_;exact bC rfl rfl ⟨rfl,rfl,rfl⟩
 by_cases h7:kO=7
 ·subst h7;clear hx
  obtain⟨y,z,l,rfl⟩:∃y z s,stack=y::z::s:=by
   cases stack with
   |nil=>simp[cF] at b8
   |cons y s=>cases s with
    |nil=>simp[cF] at b8
    |cons z s=>exact⟨y,z,s,rfl⟩
  rw[show M1.oN inp ⟨7,xa,xb,xn⟩=M1.bA.bA.hZ (il 7 M1.bA.ek M1.ek) from rfl,hw.ek,hw.bA.ek];rw[show aN inp false ⟨7,xa,xb,xn⟩ ⟨⟨next+1,y::z::l,rd,outn,0,cells⟩,kept,out,wrong⟩=⟨⟨next+1,il 7 z y::l,rd,outn,0,cells⟩,kept,out,wrong⟩ from rfl];refine aaA ?_;refine yC (D6 σ g mb sb db pb (.slice (some ⟨gc,si,none⟩) code.length cc) (.slice pi inp.length ci) left bR d s M1 7 au hw) ?_;refine bt ?_;exact bC rfl rfl ⟨rfl,rfl,rfl⟩
 by_cases h8:kO=8
 ·subst h8;clear hx
  obtain⟨y,z,l,rfl⟩:∃y z s,stack=y::z::s:=by
   cases stack with
   |nil=>simp[cF] at b8
   |cons y s=>cases s with
    |nil=>simp[cF] at b8
    |cons z s=>exact⟨y,z,s,rfl⟩
  rw[show M1.oN inp ⟨8,xa,xb,xn⟩=M1.bA.bA.hZ (il 8 M1.bA.ek M1.ek) from rfl,hw.ek,hw.bA.ek];rw[show aN inp false ⟨8,xa,xb,xn⟩ ⟨⟨next+1,y::z::l,rd,outn,0,cells⟩,kept,out,wrong⟩=⟨⟨next+1,il 8 z y::l,rd,outn,0,cells⟩,kept,out,wrong⟩ from rfl];refine Jf ?_;refine yC (D6 σ g mb sb db pb (.slice (some ⟨gc,si,none⟩) code.length cc) (.slice pi inp.length ci) left bR d s M1 8 au hw) ?_;refine bt ?_;exact bC rfl rfl ⟨rfl,rfl,rfl⟩
 by_cases rD:kO=11
 ·subst rD;clear hx
  obtain⟨n,l,rfl⟩:∃n s,stack=n::s:=by
   cases stack with
   |nil=>simp[cF] at b8
   |cons n s=>exact⟨n,s,rfl⟩
  rw[show M1.oN inp ⟨11,xa,xb,xn⟩=M1.bA.put 3 (M1.bA.ld 3+1) from rfl];have e3:M1.bA.ld 3=outn:=hw.bA.on;rw[e3];have RH:=yq σ g mb sb db pb (.slice (some ⟨gc,si,none⟩) code.length cc) (.slice pi inp.length ci) left bR d s M1.bA 3 1;rw[e3,X.wrap64_in ad ad] at RH;have FO:=T7 (wrong:=wrong) (n:=n) OB
  obtain⟨eo,ew⟩:(aN inp false ⟨11,xa,xb,xn⟩ ⟨⟨next+1,n::l,rd,outn,0,cells⟩,kept,out,wrong⟩).out=(Fb out wrong outn n).1∧(aN inp false ⟨11,xa,xb,xn⟩ ⟨⟨next+1,n::l,rd,outn,0,cells⟩,kept,out,wrong⟩).wrong=(Fb out wrong outn n).2:=by
   rw[FO];by_cases JV:outn=out.length<;>simp[aN,JV]
  rw[eo,ew];refine aaE ?_;refine yC (o7 σ g mb sb db pb (.slice (some ⟨gc,si,none⟩) code.length cc) (.slice pi inp.length ci) left bR d s M1 hw) ?_;refine cx ?_;refine XA.draw aC _ _ [7] [(0,.pu),(1,.pu),(2,.pu),(3,.rd),(4,.pu),(6,.pu),(5,.wr),(7,.wr)] aC (PH.sub.refl _) (ar.bB (R:=aw g _ _) zL (ar.nil _)) ?_;refine a8 ?_;refine aP.fw rfl rfl Gd.free (ax.cE (RH) rfl) ?_;rintro _ _ _ ⟨_,⟨rfl,rfl,rfl⟩,rfl⟩;refine stays (aP.cl ?_);refine aP.b7 rfl rfl Gd.free aC (ax.cE (T5 σ pb out wrong outn n Gb) rfl) ?_;rintro _ _ _ ⟨_,⟨rfl,rfl,rfl⟩,rfl⟩;refine aP.cl ?_;refine bt ?_;exact bC rfl rfl ⟨rfl,rfl,rfl⟩
 by_cases CH:kO=13
 ·subst CH;clear hx
  obtain⟨n,l,rfl⟩:∃n s,stack=n::s:=by
   cases stack with
   |nil=>simp[cF] at b8
   |cons n s=>exact⟨n,s,rfl⟩
  rw[show M1.oN inp ⟨13,xa,xb,xn⟩=(if M1.ek=0 then M1.bA.put 0 xa else M1.bA) from rfl,hw.ek];by_cases o5:n=0
  ·rw[aq o5,show aN inp false ⟨13,xa,xb,xn⟩ ⟨⟨next+1,n::l,rd,outn,0,cells⟩,kept,out,wrong⟩=⟨⟨xa.toNat,l,rd,outn,0,cells⟩,kept,out,wrong⟩ from by simp[aN,o5]];refine SF ?_;refine yC (o7 σ g mb sb db pb (.slice (some ⟨gc,si,none⟩) code.length cc) (.slice pi inp.length ci) left bR d s M1 hw) ?_;refine cx ?_;refine XA.aY rfl (aM o5) ?_;refine et 7 1728 [6] (ar.bB (R:=aw g _ _) zL (ar.bB (R:=aw g3 _ _) zL (ar.nil _))) ?_;refine a8 ?_;refine aP.b7 rfl rfl Gd.free aC (ax.cE (vH σ mb sb db d s M1.bA 0 xa) rfl) ?_;rintro _ _ _ ⟨_,⟨rfl,rfl,rfl⟩,rfl⟩;refine aP.cl ?_;refine bt ?_;exact bC rfl rfl ⟨rfl,rfl,rfl⟩
  rw[ag o5,show aN inp false ⟨13,xa,xb,xn⟩ ⟨⟨next+1,n::l,rd,outn,0,cells⟩,kept,out,wrong⟩=⟨⟨next+1,l,rd,outn,0,cells⟩,kept,out,wrong⟩ from by simp[aN,o5]];refine SF ?_;refine yC (o7 σ g mb sb db pb (.slice (some ⟨gc,si,none⟩) code.length cc) (.slice pi inp.length ci) left bR d s M1 hw) ?_;refine cx ?_;refine XA.aI rfl (aE o5) ?_;refine bt ?_;exact bC rfl rfl ⟨rfl,rfl,rfl⟩
 by_cases wo:kO=14
 ·subst wo;clear hx;rw[show M1.oN inp ⟨14,xa,xb,xn⟩=M1.put 0 xa from rfl];rw[show aN inp false ⟨14,xa,xb,xn⟩ ⟨⟨next+1,stack,rd,outn,0,cells⟩,kept,out,wrong⟩=⟨⟨xa.toNat,stack,rd,outn,0,cells⟩,kept,out,wrong⟩ from rfl];refine zj ?_;refine et 7 1728 [6] (ar.bB (R:=aw g _ _) zL (ar.bB (R:=aw g3 _ _) zL (ar.nil _))) ?_;refine a8 ?_;refine aP.b7 rfl rfl Gd.free aC (ax.cE (vH σ mb sb db d s M1 0 xa) rfl) ?_;rintro _ _ _ ⟨_,⟨rfl,rfl,rfl⟩,rfl⟩;refine aP.cl ?_;refine bt ?_;exact bC rfl rfl ⟨rfl,rfl,rfl⟩
 by_cases CI:kO=16
 ·subst CI;clear hx;rw[show M1.oN inp ⟨16,xa,xb,xn⟩=M1.put 4 1 from rfl];rw[show aN inp false ⟨16,xa,xb,xn⟩ ⟨⟨next+1,stack,rd,outn,0,cells⟩,kept,out,wrong⟩=⟨⟨next+1,stack,rd,outn,1,cells⟩,kept,out,wrong⟩ from rfl];refine W2 ?_;refine bg ?_;refine bg ?_;refine cx ?_;refine yC (B1 σ g mb sb db pb (.slice (some ⟨gc,si,none⟩) code.length cc) (.slice pi inp.length ci) left bR d s M1 1) ?_;refine bt ?_;exact bC rfl rfl ⟨rfl,rfl,rfl⟩
 by_cases h2:kO=2
 ·subst h2;clear hx;obtain⟨Dh,CD⟩:=eL (.inl rfl);rw[show M1.oN inp ⟨2,xa,xb,xn⟩=M1.hZ (M1.ld (5+xa)) from rfl];rw[show aN inp false ⟨2,xa,xb,xn⟩ ⟨⟨next+1,stack,rd,outn,0,cells⟩,kept,out,wrong⟩=⟨⟨next+1,cells.getD xa.toNat 0::stack,rd,outn,0,cells⟩,kept,out,wrong⟩ from rfl];refine bJ ?_;(iterate 3 (refine bg ?_));refine a8 ?_;(iterate 5 (refine bg ?_));refine bY ?_;refine yC (MX σ g mb sb db pb (.slice (some ⟨gc,si,none⟩) code.length cc) (.slice pi inp.length ci) left bR d s M1 xa xb xn ⟨Dh,ad⟩ hw hs) ?_;refine bt ?_;exact bC rfl rfl ⟨rfl,rfl,rfl⟩
 by_cases h3:kO=3
 ·subst h3;clear hx
  obtain⟨n,l,rfl⟩:∃n s,stack=n::s:=by
   cases stack with
   |nil=>simp[cF] at b8
   |cons n s=>exact⟨n,s,rfl⟩
  obtain⟨Lw,Ml,X6⟩:=jO au;rw[show M1.oN inp ⟨3,xa,xb,xn⟩=(if M1.ek<0∨xb≤M1.ek then M1.bA.put 4 13 else M1.bA.hZ (M1.bA.ld (5+xa+M1.ek))) from rfl,hw.ek]
  obtain⟨eo,ew⟩:(aN inp false ⟨3,xa,xb,xn⟩ ⟨⟨next+1,n::l,rd,outn,0,cells⟩,kept,out,wrong⟩).out=out∧(aN inp false ⟨3,xa,xb,xn⟩ ⟨⟨next+1,n::l,rd,outn,0,cells⟩,kept,out,wrong⟩).wrong=wrong:=by
   by_cases JV:n<0∨xb≤n<;>simp[aN,JV]
  rw[eo,ew];refine bJ ?_;(iterate 3 (refine bg ?_));refine a8 ?_;(iterate 5 (refine bg ?_));refine bY ?_;refine yC (MY σ g mb sb db pb (.slice (some ⟨gc,si,none⟩) code.length cc) (.slice pi inp.length ci) left bR d s M1 xa xb xn n l ⟨Lw,Ml,ad⟩ hw) ?_;refine bt ?_;exact bC rfl rfl ⟨rfl,rfl,rfl⟩
 by_cases h9:kO=9
 ·subst h9;clear hx
  obtain⟨n,l,rfl⟩:∃n s,stack=n::s:=by
   cases stack with
   |nil=>simp[cF] at b8
   |cons n s=>exact⟨n,s,rfl⟩
  obtain⟨Dh,CD⟩:=eL au;rw[show M1.oN inp ⟨9,xa,xb,xn⟩=M1.bA.put (5+xa) M1.ek from rfl,hw.ek];rw[show aN inp false ⟨9,xa,xb,xn⟩ ⟨⟨next+1,n::l,rd,outn,0,cells⟩,kept,out,wrong⟩=⟨⟨next+1,l,rd,outn,0,cells.set xa.toNat n⟩,kept,out,wrong⟩ from rfl];refine bJ ?_;(iterate 3 (refine bg ?_));refine a8 ?_;(iterate 5 (refine bg ?_));refine bY ?_;refine yC (MZ σ g mb sb db pb (.slice (some ⟨gc,si,none⟩) code.length cc) (.slice pi inp.length ci) left bR d s M1 xa xb xn n l ⟨Dh,ad⟩ hw) ?_;refine bt ?_;exact bC rfl rfl ⟨rfl,rfl,rfl⟩
 by_cases wL:kO=10
 ·subst wL;clear hx
  obtain⟨y,z,l,rfl⟩:∃y z s,stack=y::z::s:=by
   cases stack with
   |nil=>simp[cF] at b8
   |cons y s=>cases s with
    |nil=>simp[cF] at b8
    |cons z s=>exact⟨y,z,s,rfl⟩
  obtain⟨Lw,Ml,X6⟩:=jO au;rw[show M1.oN inp ⟨10,xa,xb,xn⟩=(if M1.bA.ek<0∨xb≤M1.bA.ek then M1.bA.bA.put 4 13 else M1.bA.bA.put (5+xa+M1.bA.ek) M1.ek) from rfl,hw.ek,hw.bA.ek]
  obtain⟨eo,ew⟩:(aN inp false ⟨10,xa,xb,xn⟩ ⟨⟨next+1,y::z::l,rd,outn,0,cells⟩,kept,out,wrong⟩).out=out∧(aN inp false ⟨10,xa,xb,xn⟩ ⟨⟨next+1,y::z::l,rd,outn,0,cells⟩,kept,out,wrong⟩).wrong=wrong:=by
   by_cases JV:z<0∨xb≤z<;>simp[aN,JV]
  rw[eo,ew];refine bJ ?_;(iterate 3 (refine bg ?_));refine a8 ?_;(iterate 5 (refine bg ?_));refine bY ?_;refine yC (JW σ g mb sb db pb (.slice (some ⟨gc,si,none⟩) code.length cc) (.slice pi inp.length ci) left bR d s M1 xa xb xn y z l ⟨Lw,Ml,ad⟩ hw) ?_;refine bt ?_;exact bC rfl rfl ⟨rfl,rfl,rfl⟩
 by_cases xF:kO=12
 ·subst xF;clear hx;obtain⟨Dh,CD⟩:=eL au;rw[show M1.oN inp ⟨12,xa,xb,xn⟩=(if (inp.length:Int)≤M1.ld 2 then M1.put 4 14 else (M1.put 2 (M1.ld 2+1)).put (5+xa) (inp.getD (M1.ld 2).toNat 0)) from rfl]
  obtain⟨eo,ew⟩:(aN inp false ⟨12,xa,xb,xn⟩ ⟨⟨next+1,stack,rd,outn,0,cells⟩,kept,out,wrong⟩).out=out∧(aN inp false ⟨12,xa,xb,xn⟩ ⟨⟨next+1,stack,rd,outn,0,cells⟩,kept,out,wrong⟩).wrong=wrong:=by
   by_cases JV:inp.length≤rd<;>simp[aN,JV]
  rw[eo,ew];refine bJ ?_;(iterate 3 (refine bg ?_));refine a8 ?_;(iterate 5 (refine bg ?_));refine bY ?_;refine yC (JX σ g mb sb db pb (.slice (some ⟨gc,si,none⟩) code.length cc) left bR d s M1 pi ci inp xa xb xn ⟨Dh,ad⟩ hi pB hw) ?_;refine bt ?_;exact bC rfl rfl ⟨rfl,rfl,rfl⟩
 have X8:¬(4≤kO∧kO≤8):=by omega
 rw[show M1.oN inp ⟨kO,xa,xb,xn⟩=M1 from by
  simp only[Me.oN]
  rw[ag h1,ag h2,ag h3,ag X8,ag h9,ag wL,ag rD,ag xF,ag CH,ag wo,ag ki,ag CI]]
 rw[show aN inp false ⟨kO,xa,xb,xn⟩ ⟨⟨next+1,stack,rd,outn,0,cells⟩,kept,out,wrong⟩=⟨⟨next+1,stack,rd,outn,0,cells⟩,kept,out,wrong⟩ from by
  simp only[aN]
  rw[ag h1,ag h2,ag h3,ag X8,ag h9,ag wL,ag rD,ag xF,ag CH,ag wo,ag ki,ag CI]]
 clear hx;refine XA.aI rfl (aE h1) ?_;refine bg ?_;refine XA.aI rfl (aE h4) ?_;refine a8 ?_;refine XA.aI rfl (aE h5) ?_;refine a8 ?_;refine XA.aI rfl (aE h6) ?_;refine a8 ?_;refine XA.aI rfl (aE h7) ?_;refine dc ?_;refine XA.aI rfl (aE h8) ?_;refine a8 ?_;refine XA.aI rfl (aE rD) ?_;refine a8 ?_;refine XA.aI rfl (aE CH) ?_;refine a8 ?_;refine XA.aI rfl (aE wo) ?_;refine a8 ?_;refine XA.aI rfl (aE ki) ?_;refine a8 ?_;refine XA.aI rfl (aE CI) ?_;refine cx ?_;refine yC (M4 σ g mb sb db pb (.slice (some ⟨gc,si,none⟩) code.length cc) (.slice pi inp.length ci) left bR d s M1 kO xa xb xn h2 h3 h9 wL xF) ?_;refine bt ?_;exact bC rfl rfl ⟨rfl,rfl,rfl⟩
theorem Qb (hc:bV 4 tR σ (.slice pc code.length cc) code) (hg:s.gen<4611686018427387904) (hS:cG M.C b.m) (hk:np code inp b x) (ki:x.op=15):
 ah Tryz.prog 156 #[ptr g] σ [aw g [ptr mb,.slice pc code.length cc,.slice pi inp.length ci,ptr pb,i64 0,.bool bR] 179,gJ mb sb db d s M] (aA fun v aj al=>∃(d':av) (s':eZ),v=.bool true∧s'.gen=s.gen+1∧dP d' s'=(M.nU code inp).C∧Good d' s'∧σ.sub aj∧al=[aw g [ptr mb,.slice pc code.length cc,.slice pi inp.length ci,ptr pb,i64 0,.bool false] 179,gJ mb sb db d' s' (M.nU code inp)]):=by
 obtain⟨⟨next,stack,rd,outn,st,cells⟩,kept,out,wrong⟩:=b;obtain⟨gP,hx,-,-,-,-,-,ns,-,-,-⟩:=hk;simp only at gP hx ns hS;subst gP;obtain⟨kO,xa,xb,xn⟩:=x;simp only at ki;subst ki;have aV:=(List.getElem?_eq_some_iff.1 hx).1;obtain⟨gc,si,row,rfl,mJ,mZ,bG⟩:=hc.at hx;obtain rfl:row=[i64 15,i64 xa,i64 xb,i64 xn]:=mJ;have e0:M.ld 0=next:=hS.nx;(have hM:M.nU code inp=⟨(M.put 0 ((next:Int)+1)).C,wu⟩:=by rw[Me.nU,e0,Int.toNat_natCast,hx];rfl);have y6:=jM σ mb sb db d s M 4;rw[show M.ld 4=0 from hS.st] at y6;have mr:=yq σ g mb sb db pb (.slice (some ⟨gc,si,none⟩) code.length cc) (.slice pi inp.length ci) 0 bR d s M 0 1;rw[e0,X.wrap64_in ad ad] at mr;rw[hM];clear hM hS e0 hc hx;generalize M.put 0 (((next:Nat):Int)+1)=M1 at mr⊢;refine cM Tryz.func156 ?_;refine bm ?_;refine yC (y6) ?_;refine bg ?_;refine XA.join [(3,3),(11,18)] (fun y:Nat=>[(3,ptr y)]) (fun y aj al=>σ=aj∧al=[aw y [i64 15,i64 xa,i64 xb,i64 xn] 219,aw g [ptr mb,.slice (some ⟨gc,si,none⟩) code.length cc,.slice pi inp.length ci,ptr pb,i64 0,.bool bR] 179,gJ mb sb db d s M1]) ?_ ?_
 ·skip;refine XA.mM aC _ _ [9] 10 #[false,false,false,false,false,false,false,false,false,false] rfl rfl aC (PH.sub.refl _) (ar.bB (R:=aw g _ _) zL (ar.nil _)) ?_;refine qp 0 #[tT,fF,fF,fF,fF,fF,fF,fF,fF,fF] rfl Rd.mv ?_;refine qp 1 #[tT,tT,fF,fF,fF,fF,fF,fF,fF,fF] rfl (Rd.nilCheck rfl) ?_;refine qp 2 #[tT,tT,tT,fF,fF,fF,fF,fF,fF,fF] rfl (Rd.fA rfl) ?_;refine qr 3 #[tT,tT,tT,tT,fF,fF,fF,fF,fF,fF] rfl (Rd.yZ rfl (ae rfl) rfl) ?_;refine qp 4 #[tT,tT,tT,tT,tT,fF,fF,fF,fF,fF] rfl Rd.mv ?_;refine cX.w2 (i:=5) (j:=8) aC ?_ ?_
  ·refine qw #[tT,tT,tT,tT,tT,tT,fF,fF,fF,fF] rfl (ax.cE mr rfl) ?_;rintro _ _ _ ⟨_,⟨rfl,rfl,rfl⟩,rfl⟩;refine⟨⟨zX,zE⟩,cX.re zC ?_⟩;refine qp 6 #[tT,tT,tT,tT,tT,tT,tT,fF,fF,fF] rfl (Rd.K8 rfl rfl) ?_;refine qr 7 #[tT,tT,tT,tT,tT,tT,tT,tT,fF,fF] rfl (Rd.Bl rfl) ?_;refine qa 8 ?_;refine qw #[tT,tT,tT,tT,tT,tT,tT,tT,tT,fF] rfl (ax.alloc (ae rfl)) ?_;rintro _ _ _ ⟨g3,rfl,rfl,rfl⟩;refine⟨⟨zX,zE⟩,cX.re zC ?_⟩;refine qa 9 ?_;refine ji.b7 (bc:=#[tT,tT,tT,tT,tT,tT,tT,tT,tT,tT]) rfl rfl Gd.free aC rfl aC (ax.st (ae rfl) rfl) ?_;rintro _ _ _ ⟨rfl,rfl,rfl⟩;refine cX.re zC ?_;refine cX.nil rfl ?_;refine DA.bI ⟨zK,g3,_,zM,?_,rfl,rfl⟩;exact zE
  ·refine qw #[tT,tT,tT,tT,tT,fF,fF,fF,tT,fF] rfl (ax.alloc (ae rfl)) ?_;rintro _ _ _ ⟨g3,rfl,rfl,rfl⟩;refine⟨⟨zX,zE⟩,cX.re zC ?_⟩;refine qa 5 ?_;refine qw #[tT,tT,tT,tT,tT,tT,fF,fF,tT,fF] rfl (ax.cE mr rfl) ?_;rintro _ _ _ ⟨_,⟨rfl,rfl,rfl⟩,rfl⟩;refine⟨⟨zX,zE⟩,cX.re zC ?_⟩;refine qp 6 #[tT,tT,tT,tT,tT,tT,tT,fF,tT,fF] rfl (Rd.K8 rfl rfl) ?_;refine qr 7 #[tT,tT,tT,tT,tT,tT,tT,tT,tT,fF] rfl (Rd.Bl rfl) ?_;refine qa 9 ?_;refine ji.b7 (bc:=#[tT,tT,tT,tT,tT,tT,tT,tT,tT,tT]) rfl rfl Gd.free aC rfl aC (ax.st (ae rfl) rfl) ?_;rintro _ _ _ ⟨rfl,rfl,rfl⟩;refine cX.re zC ?_;refine cX.nil rfl ?_;refine DA.bI ⟨zK,g3,_,zM,?_,rfl,rfl⟩;exact zE
 rintro g3 δ _ _ ⟨rfl,rfl⟩;dsimp only[dq,List.foldl];refine zj ?_;(iterate 3 (refine bg ?_));refine cx ?_;refine zw rfl (ax.cE (MW σ g mb sb db pb _ _ bR d s M1 hg) rfl) ?_;rintro _ cO _ ⟨_,⟨d',s',rfl,q1,q2,q3,q4,rfl⟩,rfl⟩;refine az.cl ?_;refine bt ?_;exact bC rfl rfl ⟨d',s',rfl,q1,q2,q3,q4,rfl⟩
end
section
variable {C:List In} {inp:List Int}
structure zq (inp:List Int) (pc:Nat) (s:RS) (b:Be):Prop where
 next:b.m.next=pc
 stack:b.m.stack=[]
 outn:b.m.outn=s.out.length
 st:b.m.st=0
 cells:b.m.cells=s.cells
 out:b.out=s.out
 wrong:b.wrong=false
 inp:s.inp=inp.drop b.m.rd
def JY (c:Int) (s:RS) (b:Be):Prop:=b.m.cells=s.cells∧b.out=s.out∧b.wrong=false∧Fin c s.left b
theorem tY {vs:List Va} {nv:Nat} {x:Ex} (hV:uo nv x) {pc:Nat} {b:Be} {s:RS} (hC:CJ C pc (ay vs x)) (hn:b.m.next=pc) (h0:b.m.st=0) (hc:b.m.cells=s.cells) (ho:b.out=s.out) (hw:b.wrong=false):
 (∀v s',qQ vs x s=.ok (v,s')→iz C inp s.left b s'.left (gI b (pc+(ay vs x).length) (v::b.m.stack))∧s'={s with left:=s'.left})∧
 (∀c s',qQ vs x s=.error (c,s')→∃b',iz C inp s.left b s'.left b'∧JY c s' b'):=by
 obtain⟨h1,h2⟩:=TY (inp:=inp) vs x hV pc b s.left hC hn h0;rw[hc] at h1 h2;rw[qQ]
 cases e:dx vs s.cells x s.left with
 |error q=>
  obtain⟨c,k⟩:=q;refine⟨fun v s' h=>(by cases h),fun c' s' h=>?_⟩;cases h;obtain⟨b',g,a1,a2,a3,a4⟩:=h2 _ _ e;exact⟨b',g,a1.trans hc,a2.trans ho,a3.trans hw,a4⟩
 |ok q=>
  obtain⟨v,k⟩:=q;refine⟨fun v' s' h=>?_,fun c' s' h=>(by cases h)⟩;cases h;exact⟨h1 _ _ e,rfl⟩
theorem lB {f:Nat} {b b1:Be} {s1:RS} {x:In} (g:iz C inp f b s1.left b1) (h0:b1.m.st=0) (hx:C[b1.m.next]? =some x) (hc:b1.m.cells=s1.cells) (ho:b1.out=s1.out) (hw:b1.wrong=false):
 (∀s2,dQ s1=.ok s2→iz C inp f b s2.left (aN inp false x (bump b1))∧s2={s1 with left:=s2.left})∧
 (∀c s2,dQ s1=.error (c,s2)→∃b',iz C inp f b s2.left b'∧JY c s2 b'):=by
 obtain⟨cells,i,o,left⟩:=s1
 cases left with
 |zero=>
  refine⟨fun s2 h=>(by cases h),fun c s2 h=>?_⟩;cases h;exact⟨b1,g,hc,ho,hw,.inl ⟨rfl,rfl,h0⟩⟩
 |succ left=>
  refine⟨fun s2 h=>?_,fun c s2 h=>?_⟩
  ·(have e:dQ ⟨cells,i,o,left+1⟩=.ok ⟨cells,i,o,left⟩:=by simp[dQ]);rw[e] at h;cases h;exact⟨g.trans (iz.step h0 hx),rfl⟩
  ·(have e:dQ ⟨cells,i,o,left+1⟩=.ok ⟨cells,i,o,left⟩:=by simp[dQ]);rw[e] at h;cases h
theorem M5 {vs:List Va} {nv:Nat} {x:Ex} (hV:uo nv x) {pc t:Nat} {b:Be} {s:RS} (hC:CJ C pc (ay vs x++[⟨13,(t:Nat),0,0⟩])) (hR:zq inp pc s b):
 (∀v s',y7 vs x s=.ok (v,s')→∃b',iz C inp s.left b s'.left b'∧zq inp (if v then pc+(ay vs x).length+1 else t) s' b')∧
 (∀c s',y7 vs x s=.error (c,s')→∃b',iz C inp s.left b s'.left b'∧JY c s' b'):=by
 obtain⟨h1,h2⟩:=tY (inp:=inp) hV hC.left hR.next hR.st hR.cells hR.out hR.wrong;rw[y7]
 cases e:qQ vs x s with
 |error q=>
  refine⟨fun v s' h=>(by cases h),fun c' s' h=>?_⟩;cases h;exact h2 _ _ e
 |ok q=>
  obtain⟨n,s1⟩:=q;obtain⟨g1,e1⟩:=h1 _ _ e;simp only;obtain⟨k1,k2⟩:=lB g1 hR.st hC.right.one (by rw[e1];exact hR.cells) (by rw[e1];exact hR.out) hR.wrong
  cases e2:dQ s1 with
  |error q=>
   refine⟨fun v s' h=>(by cases h),fun c' s' h=>?_⟩;cases h;exact k2 _ _ e2
  |ok s2=>
   obtain⟨g2,e3⟩:=k1 _ e2;refine⟨fun v s' h=>?_,fun c' s' h=>(by cases h)⟩;cases h;refine⟨_,g2,?_⟩;(have bT:s2={s with left:=s2.left}:=by rw[e1] at e3;exact e3);(have ho:s2.out=s.out:=by rw[bT]);(have hc:s2.cells=s.cells:=by rw[bT]);(have hi:s2.inp=s.inp:=by rw[bT]);by_cases hn:n=0
   ·subst hn;rw[ag au];have ed:aN inp false ⟨13,(t:Nat),0,0⟩ (bump (gI b (pc+(ay vs x).length) (0::b.m.stack)))=gI b t b.m.stack:=rfl;rw[ed];exact⟨rfl,hR.stack,by rw[ho];exact hR.outn,hR.st,by rw[hc];exact hR.cells,by rw[ho];exact hR.out,hR.wrong,by rw[hi];exact hR.inp⟩
   ·rw[aq (by simpa using hn)];have ed:aN inp false ⟨13,(t:Nat),0,0⟩ (bump (gI b (pc+(ay vs x).length) (n::b.m.stack)))=gI b (pc+(ay vs x).length+1) b.m.stack:=ag hn;rw[ed];exact⟨rfl,hR.stack,by rw[ho];exact hR.outn,hR.st,by rw[hc];exact hR.cells,by rw[ho];exact hR.out,hR.wrong,by rw[hi];exact hR.inp⟩
def RI (C:List In) (inp:List Int) (vs:List Va) (F:St→RS→Option RR) (x:St):Prop:=∀(pc:Nat) (b:Be) (s:RS) (r:RR),F x s=some r→CJ C pc (bj vs x pc)→zq inp pc s b→
 (∀s',r=.ok s'→∃b',iz C inp s.left b s'.left b'∧zq inp (pc+(bj vs x pc).length) s' b')∧(∀c s',r=.error (c,s')→∃b',iz C inp s.left b s'.left b'∧JY c s' b')
theorem qe {vs:List Va} {F:St→RS→Option RR}:∀(l:List St),(∀x∈l,RI C inp vs F x)→∀(pc:Nat) (b:Be) (s:RS) (r:RR),fJ F l s=some r→CJ C pc (aK vs l pc)→zq inp pc s b→
 (∀s',r=.ok s'→∃b',iz C inp s.left b s'.left b'∧zq inp (pc+(aK vs l pc).length) s' b')∧(∀c s',r=.error (c,s')→∃b',iz C inp s.left b s'.left b'∧JY c s' b')
 |[],_,pc,b,s,r,h,_,hR=>by
  cases h;exact⟨fun s' e=>by cases e;exact⟨b,iz.refl _ _,hR⟩,fun c s' e=>(by cases e)⟩
 |x::l,hx,pc,b,s,r,h,hC,hR=>by
  rw[aK] at hC⊢;rw[fJ] at h
  cases e:F x s with
  |none=>rw[e] at h;cases h
  |some q=>
   obtain⟨k1,k2⟩:=hx x aZ pc b s q e hC.left hR;rw[e] at h
   cases q with
   |error q=>
    cases h;refine⟨fun s' e=>(by cases e),fun c s' e=>?_⟩;exact k2 c s' e
   |ok s1=>
    obtain⟨b1,g1,R1⟩:=k1 s1 rfl;obtain⟨j1,j2⟩:=qe l (fun y hy=>hx y (by simp[hy])) (pc+(bj vs x pc).length) b1 s1 r h hC.right R1;refine⟨fun s' e=>?_,fun c s' e=>?_⟩
    ·obtain⟨b',g,R⟩:=j1 s' e;exact⟨b',g1.trans g,by rw[bq,←Nat.add_assoc];exact R⟩
    ·obtain⟨b',g,R⟩:=j2 c s' e;exact⟨b',g1.trans g,R⟩
end
section
variable {C:List In} {inp:List Int}
theorem oO {pc n:Nat} {b:Be} {s s1:RS} (hR:zq inp pc s b) (e:s1={s with left:=s1.left}):zq inp n s1 (gI b n []):=by
 (have ho:s1.out=s.out:=by rw[e]);(have hc:s1.cells=s.cells:=by rw[e]);(have hi:s1.inp=s.inp:=by rw[e]);exact⟨rfl,rfl,by rw[ho];exact hR.outn,hR.st,by rw[hc];exact hR.cells,by rw[ho];exact hR.out,hR.wrong,by rw[hi];exact hR.inp⟩
theorem drop_cons {l:List Int} {n:Nat} {x:Int} {r:List Int} (h:x::r=l.drop n):n<l.length∧l.getD n 0=x∧r=l.drop (n+1):=by
 have hn:n<l.length:=by
  rcases Nat.lt_or_ge n l.length with h1|h1
  ·exact h1
  ·rw[List.drop_of_length_le h1] at h;cases h
 rw[List.drop_eq_getElem_cons hn] at h;simp only[List.cons.injEq] at h;exact⟨hn,by rw[ey,b9 hn];exact h.1.symm,h.2⟩
theorem T9 (vs:List Va) (nv:Nat):∀(g:Nat) (x:St),D1 nv x→RI C inp vs (jA vs g) x:=by
 intro g
 induction g with
 |zero=>intro x _ pc b s r h;cases h
 |succ g ih=>
 intro x hV pc b s r hr hC hR;obtain⟨op,v,e,f,body,dn⟩:=x;have hV0:=hV;rw[D1] at hV;obtain⟨uF,hv,he,hf,-,-,o6,mG⟩:=hV;(have Mv:op=1∨op=2∨op=3∨op=4∨op=5∨op=6∨op=7:=by omega);rcases Mv with rfl|rfl|rfl|rfl|rfl|rfl|rfl
 ·(have hc:bj vs (.mk 1 v e f body dn) pc=ay vs e++[⟨9,cellOf vs v,0,0⟩]:=by rw[bj];rfl);rw[hc] at hC⊢;rw[jA,aq rfl] at hr;cases hr;obtain⟨h1,h2⟩:=tY (inp:=inp) (he rfl).1 hC.left hR.next hR.st hR.cells hR.out hR.wrong;rw[BQ]
  cases e1:qQ vs e s with
  |error q=>exact⟨fun s' h=>(by cases h),fun c s' h=>by cases h;exact h2 _ _ e1⟩
  |ok q=>
   obtain⟨n,s1⟩:=q;obtain⟨g1,q1⟩:=h1 _ _ e1;rw[hR.stack] at g1;have R1:=oO (n:=pc+(ay vs e).length) hR q1;obtain⟨k1,k2⟩:=lB (b1:=gI b (pc+(ay vs e).length) [n]) g1 R1.st hC.right.one R1.cells R1.out R1.wrong;simp only
   cases e2:dQ s1 with
   |error q=>exact⟨fun s' h=>(by cases h),fun c s' h=>by cases h;exact k2 _ _ e2⟩
   |ok s2=>
    obtain⟨g2,q2⟩:=k1 _ e2;refine⟨fun s' h=>?_,fun c s' h=>(by cases h)⟩;cases h;refine⟨_,g2,?_⟩;have ed:aN inp false ⟨9,cellOf vs v,0,0⟩ (bump (gI b (pc+(ay vs e).length) [n]))={b with m:={b.m with next:=pc+(ay vs e).length+1,stack:=[],cells:=b.m.cells.set (cellOf vs v).toNat n}}:=rfl;rw[ed];(have h3:s2={s with left:=s2.left}:=by rw[q1] at q2;exact q2);(have ho:s2.out=s.out:=by rw[h3]);(have BX:s2.cells=s.cells:=by rw[h3]);(have hi:s2.inp=s.inp:=by rw[h3]);exact⟨by simp[Nat.add_assoc],rfl,by show b.m.outn=s2.out.length;rw[ho];exact hR.outn,hR.st,by show b.m.cells.set _ n=s2.cells.set _ n;rw[BX,hR.cells],by show b.out=s2.out;rw[ho];exact hR.out,hR.wrong,by show s2.inp=_;rw[hi];exact hR.inp⟩
 ·(have hc:bj vs (.mk 2 v e f body dn) pc=ay vs e++(ay vs f++[⟨10,cellOf vs v,ir vs v,0⟩]):=by rw[bj,←List.append_assoc];rfl);rw[hc] at hC⊢;rw[jA,ag au,aq rfl] at hr;cases hr;obtain⟨h1,h2⟩:=tY (inp:=inp) (he rfl).1 hC.left hR.next hR.st hR.cells hR.out hR.wrong;rw[u3]
  cases e1:qQ vs e s with
  |error q=>exact⟨fun s' h=>(by cases h),fun c s' h=>by cases h;exact h2 _ _ e1⟩
  |ok q=>
   obtain⟨k,s1⟩:=q;obtain⟨g1,q1⟩:=h1 _ _ e1;rw[hR.stack] at g1;have R1:=oO (n:=pc+(ay vs e).length) hR q1;have hC2:=hC.right;obtain⟨j1,j2⟩:=tY (inp:=inp) (b:=gI b (pc+(ay vs e).length) [k]) (s:=s1) (hf rfl).1 hC2.left rfl R1.st R1.cells R1.out R1.wrong;simp only
   cases e2:qQ vs f s1 with
   |error q=>exact⟨fun s' h=>(by cases h),fun c s' h=>by cases h;obtain⟨b',g2,d⟩:=j2 _ _ e2;exact⟨b',g1.trans g2,d⟩⟩
   |ok q=>
    obtain⟨n,s2⟩:=q;obtain⟨g2,q2⟩:=j1 _ _ e2;(have q12:s2={s with left:=s2.left}:=by rw[q1] at q2;exact q2);have R2:=oO (n:=pc+(ay vs e).length+(ay vs f).length) hR q12;have g12:=g1.trans g2;obtain⟨k1,k2⟩:=lB (b1:=gI b (pc+(ay vs e).length+(ay vs f).length) [n,k]) g12 R2.st hC2.right.one R2.cells R2.out R2.wrong;simp only
    cases e3:dQ s2 with
    |error q=>exact⟨fun s' h=>(by cases h),fun c s' h=>by cases h;exact k2 _ _ e3⟩
    |ok s3=>
     obtain⟨g3,q3⟩:=k1 _ e3;(have h3:s3={s with left:=s3.left}:=by rw[q12] at q3;exact q3);(have ho:s3.out=s.out:=by rw[h3]);(have BX:s3.cells=s.cells:=by rw[h3]);(have hi:s3.inp=s.inp:=by rw[h3]);simp only;by_cases hk:k<0∨ir vs v≤k
     ·rw[aq hk];refine⟨fun s' h=>(by cases h),fun c s' h=>?_⟩;cases h;have ed:aN inp false ⟨10,cellOf vs v,ir vs v,0⟩ (bump (gI b (pc+(ay vs e).length+(ay vs f).length) [n,k]))={b with m:={b.m with next:=pc+(ay vs e).length+(ay vs f).length+1,stack:=[],st:=13}}:=aq hk;rw[ed] at g3;exact⟨_,g3,by show b.m.cells=s3.cells;rw[BX];exact hR.cells,by show b.out=s3.out;rw[ho];exact hR.out,hR.wrong,.inr ⟨au,rfl⟩⟩
     ·rw[ag hk];refine⟨fun s' h=>?_,fun c s' h=>(by cases h)⟩;cases h;have ed:aN inp false ⟨10,cellOf vs v,ir vs v,0⟩ (bump (gI b (pc+(ay vs e).length+(ay vs f).length) [n,k]))={b with m:={b.m with next:=pc+(ay vs e).length+(ay vs f).length+1,stack:=[],cells:=b.m.cells.set (cellOf vs v+k).toNat n}}:=ag hk;rw[ed] at g3;exact⟨_,g3,vA,rfl,by show b.m.outn=s3.out.length;rw[ho];exact hR.outn,hR.st,by show b.m.cells.set _ n=s3.cells.set _ n;rw[BX,hR.cells],by show b.out=s3.out;rw[ho];exact hR.out,hR.wrong,by show s3.inp=_;rw[hi];exact hR.inp⟩
 ·(have hc:bj vs (.mk 3 v e f body dn) pc=ay vs e++[⟨11,0,0,0⟩]:=by rw[bj];rfl);rw[hc] at hC⊢;rw[jA,ag au,ag au,aq rfl] at hr;cases hr;obtain⟨h1,h2⟩:=tY (inp:=inp) (he rfl).1 hC.left hR.next hR.st hR.cells hR.out hR.wrong;rw[oK]
  cases e1:qQ vs e s with
  |error q=>exact⟨fun s' h=>(by cases h),fun c s' h=>by cases h;exact h2 _ _ e1⟩
  |ok q=>
   obtain⟨n,s1⟩:=q;obtain⟨g1,q1⟩:=h1 _ _ e1;rw[hR.stack] at g1;have R1:=oO (n:=pc+(ay vs e).length) hR q1;obtain⟨k1,k2⟩:=lB (b1:=gI b (pc+(ay vs e).length) [n]) g1 R1.st hC.right.one R1.cells R1.out R1.wrong;simp only
   cases e2:dQ s1 with
   |error q=>exact⟨fun s' h=>(by cases h),fun c s' h=>by cases h;exact k2 _ _ e2⟩
   |ok s2=>
    obtain⟨g2,q2⟩:=k1 _ e2;refine⟨fun s' h=>?_,fun c s' h=>(by cases h)⟩;cases h;refine⟨_,g2,?_⟩;(have h3:s2={s with left:=s2.left}:=by rw[q1] at q2;exact q2);(have ho:s2.out=s.out:=by rw[h3]);(have BX:s2.cells=s.cells:=by rw[h3]);(have hi:s2.inp=s.inp:=by rw[h3]);(have Gb:b.m.outn=b.out.length:=by rw[hR.outn,hR.out]);have ed:aN inp false ⟨11,0,0,0⟩ (bump (gI b (pc+(ay vs e).length) [n]))={b with m:={b.m with next:=pc+(ay vs e).length+1,stack:=[],outn:=b.m.outn+1},out:=b.out++[n]}:=aq Gb;rw[ed];exact⟨by simp[Nat.add_assoc],rfl,by show b.m.outn+1=(s2.out++[n]).length;rw[ho,hR.outn];simp,hR.st,by show b.m.cells=s2.cells;rw[BX,hR.cells],by show b.out++[n]=s2.out++[n];rw[ho,hR.out],hR.wrong,by show s2.inp=_;rw[hi];exact hR.inp⟩
 ·(have hc:bj vs (.mk 4 v e f body dn) pc=[⟨12,cellOf vs v,0,0⟩]:=by rw[bj];rfl);rw[hc] at hC⊢;rw[jA,ag au,ag au,ag au,aq rfl] at hr;cases hr;obtain⟨k1,k2⟩:=lB (iz.refl (C:=C) (inp:=inp) s.left b) hR.st (by rw[hR.next];exact hC.one) hR.cells hR.out hR.wrong;rw[tN]
  cases e2:dQ s with
  |error q=>exact⟨fun s' h=>(by cases h),fun c s' h=>by cases h;exact k2 _ _ e2⟩
  |ok s1=>
   obtain⟨g2,q2⟩:=k1 _ e2;(have ho:s1.out=s.out:=by rw[q2]);(have BX:s1.cells=s.cells:=by rw[q2]);(have hi:s1.inp=s.inp:=by rw[q2]);simp only
   cases e3:s1.inp with
   |nil=>
    refine⟨fun s' h=>(by cases h),fun c s' h=>?_⟩;cases h
    have hle:inp.length≤b.m.rd:=by
     have:=hR.inp;rw[←hi,e3] at this;exact List.drop_eq_nil_iff.1 this.symm
    have ed:aN inp false ⟨12,cellOf vs v,0,0⟩ (bump b)={b with m:={b.m with next:=b.m.next+1,st:=14}}:=aq hle;rw[ed] at g2;exact⟨_,g2,by show b.m.cells=s1.cells;rw[BX];exact hR.cells,by show b.out=s1.out;rw[ho];exact hR.out,hR.wrong,.inr ⟨au,rfl⟩⟩
   |cons n r=>
    refine⟨fun s' h=>?_,fun c s' h=>(by cases h)⟩;cases h;obtain⟨d1,d2,d3⟩:=drop_cons (l:=inp) (n:=b.m.rd) (x:=n) (r:=r) (by rw[←hR.inp,←hi,e3]);have ed:aN inp false ⟨12,cellOf vs v,0,0⟩ (bump b)={b with m:={b.m with next:=b.m.next+1,cells:=b.m.cells.set (cellOf vs v).toNat (inp.getD b.m.rd 0),rd:=b.m.rd+1}}:=ag (by show ¬inp.length≤b.m.rd;omega);rw[ed] at g2;exact⟨_,g2,by show b.m.next+1=_;rw[hR.next];rfl,hR.stack,by show b.m.outn=s1.out.length;rw[ho];exact hR.outn,hR.st,by show b.m.cells.set _ (inp.getD b.m.rd 0)=s1.cells.set _ n;rw[BX,hR.cells,d2],by show b.out=s1.out;rw[ho];exact hR.out,hR.wrong,d3⟩
 ·have hC0:=hC;rw[tQ] at hC⊢;rw[tW] at hr;obtain⟨B,hB⟩:∃B,B=aK vs body (pc+(ay vs e).length+1):=⟨_,rfl⟩;rw[←hB] at hC⊢;obtain⟨i1,i2⟩:=M5 (inp:=inp) (he rfl).1 hC.left.left hR
  cases e1:y7 vs e s with
  |error q=>
   rw[e1] at hr;cases hr;refine⟨fun s' h=>(by cases h),fun c s' h=>?_⟩;cases h;exact i2 _ _ e1
  |ok q=>
   obtain⟨bb,s1⟩:=q;obtain⟨b1,g1,R1⟩:=i1 _ _ e1;rw[e1] at hr
   cases bb with
   |false=>
    cases hr;refine⟨fun s' h=>?_,fun c s' h=>(by cases h)⟩;cases h;refine⟨b1,g1,?_⟩;(have el:pc+(ay vs e++[(⟨13,(pc+(ay vs e).length+1+B.length+1:Nat),0,0⟩:In)]++B++[(⟨14,(pc:Nat),0,0⟩:In)]).length=pc+(ay vs e).length+1+B.length+1:=by simp only[bq,dZ];omega);rw[el];exact R1
   |true=>
    simp only at hr;rw[aq rfl] at R1
    have hCB:CJ C (pc+(ay vs e).length+1) B:=by
     have:=hC.left.right;rw[bq,dZ,←Nat.add_assoc] at this;exact this
    cases e2:fJ (jA vs g) body s1 with
    |none=>rw[e2] at hr;cases hr
    |some q=>
     obtain⟨l1,l2⟩:=qe body (fun y hy=>ih y (o6.mem y hy)) (pc+(ay vs e).length+1) b1 s1 q e2 (by rw[←hB];exact hCB) R1;rw[e2] at hr
     cases q with
     |error q=>
      cases hr;refine⟨fun s' h=>(by cases h),fun c s' h=>?_⟩;obtain⟨b',g2,d⟩:=l2 c s' h;exact⟨b',g1.trans g2,d⟩
     |ok s2=>
      obtain⟨b2,g2,R2⟩:=l1 s2 rfl;rw[←hB] at R2;have g12:=g1.trans g2
      have hj:C[b2.m.next]? =some ⟨14,(pc:Nat),0,0⟩:=by
       rw[R2.next];have:=hC.right.one;simp only[bq,dZ] at this;rw[←this];congr 1;omega
      obtain⟨k1,k2⟩:=lB g12 R2.st hj R2.cells R2.out R2.wrong;simp only at hr
      cases e3:dQ s2 with
      |error q=>
       rw[e3] at hr;cases hr;exact⟨fun s' h=>(by cases h),fun c s' h=>by cases h;exact k2 _ _ e3⟩
      |ok s3=>
       rw[e3] at hr;obtain⟨g3,q3⟩:=k1 _ e3;(have ed:aN inp false ⟨14,(pc:Nat),0,0⟩ (bump b2)=gI b2 pc []:=by show gI b2 pc b2.m.stack=_;rw[R2.stack]);rw[ed] at g3;have R3:zq inp pc s3 (gI b2 pc []):=oO R2 q3;obtain⟨m1,m2⟩:=ih (.mk 5 v e f body dn) hV0 pc (gI b2 pc []) s3 r hr hC0 R3;rw[tQ,←hB] at m1;refine⟨fun s' h=>?_,fun c s' h=>?_⟩
       ·obtain⟨b',g4,R4⟩:=m1 s' h;exact⟨b',g3.trans g4,R4⟩
       ·obtain⟨b',g4,d⟩:=m2 c s' h;exact⟨b',g3.trans g4,d⟩
 ·rw[yf] at hC⊢;rw[vM] at hr;obtain⟨B,hB⟩:∃B,B=aK vs body (pc+(ay vs e).length+1):=⟨_,rfl⟩;rw[←hB] at hC⊢;obtain⟨O,hO⟩:∃O,O=aK vs dn (pc+(ay vs e).length+1+B.length+1):=⟨_,rfl⟩;rw[←hO] at hC⊢;obtain⟨i1,i2⟩:=M5 (inp:=inp) (he rfl).1 hC.left.left.left hR;(have el:pc+(ay vs e++[(⟨13,(pc+(ay vs e).length+1+B.length+1:Nat),0,0⟩:In)]++B++[(⟨14,(pc+(ay vs e).length+1+B.length+1+O.length:Nat),0,0⟩:In)]++O).length=pc+(ay vs e).length+1+B.length+1+O.length:=by simp only[bq,dZ];omega);rw[el]
  have hCO:CJ C (pc+(ay vs e).length+1+B.length+1) O:=by
   have:=hC.right;simp only[bq,dZ] at this;rw[show pc+(ay vs e).length+1+B.length+1=pc+((ay vs e).length+1+B.length+1) by omega];exact this
  cases e1:y7 vs e s with
  |error q=>
   rw[e1] at hr;cases hr;exact⟨fun s' h=>(by cases h),fun c s' h=>by cases h;exact i2 _ _ e1⟩
  |ok q=>
   obtain⟨bb,s1⟩:=q;obtain⟨b1,g1,R1⟩:=i1 _ _ e1;rw[e1] at hr
   cases bb with
   |false=>
    simp only at hr;rw[ag au] at R1;obtain⟨l1,l2⟩:=qe dn (fun y hy=>ih y (mG.mem y hy)) (pc+(ay vs e).length+1+B.length+1) b1 s1 r hr (by rw[←hO];exact hCO) R1;rw[←hO] at l1;refine⟨fun s' h=>?_,fun c s' h=>?_⟩
    ·obtain⟨b',g4,R4⟩:=l1 s' h;exact⟨b',g1.trans g4,R4⟩
    ·obtain⟨b',g4,d⟩:=l2 c s' h;exact⟨b',g1.trans g4,d⟩
   |true=>
    simp only at hr;rw[aq rfl] at R1
    have hCB:CJ C (pc+(ay vs e).length+1) B:=by
     have:=hC.left.left.right;rw[bq,dZ,←Nat.add_assoc] at this;exact this
    cases e2:fJ (jA vs g) body s1 with
    |none=>rw[e2] at hr;cases hr
    |some q=>
     obtain⟨l1,l2⟩:=qe body (fun y hy=>ih y (o6.mem y hy)) (pc+(ay vs e).length+1) b1 s1 q e2 (by rw[←hB];exact hCB) R1;rw[e2] at hr
     cases q with
     |error q=>
      cases hr;refine⟨fun s' h=>(by cases h),fun c s' h=>?_⟩;obtain⟨b',g2,d⟩:=l2 c s' h;exact⟨b',g1.trans g2,d⟩
     |ok s2=>
      obtain⟨b2,g2,R2⟩:=l1 s2 rfl;rw[←hB] at R2;have g12:=g1.trans g2
      have hj:C[b2.m.next]? =some ⟨14,(pc+(ay vs e).length+1+B.length+1+O.length:Nat),0,0⟩:=by
       rw[R2.next];have:=hC.left.right.one;simp only[bq,dZ] at this;rw[←this];congr 1;omega
      obtain⟨k1,k2⟩:=lB g12 R2.st hj R2.cells R2.out R2.wrong;cases hr
      cases e3:dQ s2 with
      |error q=>exact⟨fun s' h=>(by cases h),fun c s' h=>by cases h;exact k2 _ _ e3⟩
      |ok s3=>
       obtain⟨g3,q3⟩:=k1 _ e3;refine⟨fun s' h=>?_,fun c s' h=>(by cases h)⟩;cases h;(have ed:aN inp false ⟨14,(pc+(ay vs e).length+1+B.length+1+O.length:Nat),0,0⟩ (bump b2)=gI b2 (pc+(ay vs e).length+1+B.length+1+O.length) []:=by show gI b2 _ b2.m.stack=_;rw[R2.stack];rfl);rw[ed] at g3;exact⟨_,g3,oO R2 q3⟩
 ·(have hc:bj vs (.mk 7 v e f body dn) pc=[⟨15,0,0,0⟩]:=by rw[bj];rfl);rw[hc] at hC⊢;rw[jA,ag au,ag au,ag au,ag au,ag au,ag au,aq rfl] at hr;cases hr;obtain⟨k1,k2⟩:=lB (iz.refl (C:=C) (inp:=inp) s.left b) hR.st (by rw[hR.next];exact hC.one) hR.cells hR.out hR.wrong
  cases e2:dQ s with
  |error q=>exact⟨fun s' h=>(by cases h),fun c s' h=>by cases h;exact k2 _ _ e2⟩
  |ok s1=>
   obtain⟨g2,q2⟩:=k1 _ e2;refine⟨fun s' h=>?_,fun c s' h=>(by cases h)⟩;cases h;(have ed:aN inp false ⟨15,0,0,0⟩ (bump b)=gI b (pc+1) []:=by show gI b (b.m.next+1) b.m.stack=_;rw[hR.next,hR.stack]);rw[ed] at g2;exact⟨_,g2,oO hR q2⟩
end
def sj (n:Nat):Be:=⟨⟨0,[],0,0,0,List.replicate n 0⟩,⟨0,[],0,0,0,List.replicate n 0⟩,[],false⟩
theorem Qc {p:Pr} (hc:bZ p=0) {inp:List Int} {fuel:Nat} {c:Int} {s:RS} (h:tX p inp fuel c s):
 ∃b,runM (ak p) inp fuel (sj (sizes p.vars).toNat)=(b,fuel-s.left)∧s.left≤fuel∧b.m.cells=s.cells∧b.out=s.out∧b.wrong=false∧(c=0∧b.m.st=1∨c=13∧b.m.st=0∨((c=11∨c=12)∧b.m.st=c+2)):=by
 obtain⟨g,r,hl,he⟩:=h;have o8:ak p=aK p.vars p.body 0++[⟨16,0,0,0⟩]:=rfl;(have hAt:CJ (ak p) 0 (aK p.vars p.body 0++[⟨16,0,0,0⟩]):=fun i x hx=>by rw[Nat.zero_add];exact hx);obtain⟨hV,-⟩:=dw hc;have R0:zq inp 0 (start p inp fuel) (sj (sizes p.vars).toNat):=⟨rfl,rfl,rfl,rfl,rfl,rfl,rfl,rfl⟩;obtain⟨l1,l2⟩:=qe p.body (fun y hy=>T9 p.vars p.vars.length g y (hV.mem y hy)) 0 (sj (sizes p.vars).toNat) (start p inp fuel) r hl hAt.left R0
 have RJ:∀(k:Nat) (b':Be),(k=0∨b'.m.st≠0)→runM (ak p) inp k b'=(b',0):=fun k b' h=>by
  cases k with
  |zero=>rfl
  |succ k=>
   rcases h with h|h
   ·cases h
   ·rw[runM,aq h]
 have fin:∀(c:Int) (s':RS) (b':Be),iz (ak p) inp fuel (sj (sizes p.vars).toNat) s'.left b'→JY c s' b'→0<c→∃b,runM (ak p) inp fuel (sj (sizes p.vars).toNat)=(b,fuel-s'.left)∧s'.left≤fuel∧b.m.cells=s'.cells∧b.out=s'.out∧b.wrong=false∧(c=0∧b.m.st=1∨c=13∧b.m.st=0∨((c=11∨c=12)∧b.m.st=c+2)):=by
  intro c s' b' hg hd BB;obtain⟨d1,d2,d3,d4⟩:=hd;refine⟨b',?_,hg.1,d1,d2,d3,?_⟩
  ·rw[hg.2,RJ s'.left b' (by
    rcases d4 with ⟨-,e,-⟩|⟨e,e2⟩
    ·exact .inl e
    ·exact .inr ad)]
   simp
  ·rcases d4 with ⟨e,-,e2⟩|⟨e,e2⟩
   ·exact .inr (.inl ⟨e,e2⟩)
   ·exact .inr (.inr ⟨e,e2⟩)
 cases r with
 |error q=>
  obtain⟨c0,s0⟩:=q;obtain⟨b',g1,d⟩:=l2 c0 s0 rfl;cases he
  exact fin _ _ b' g1 d (by
   obtain⟨-,-,-,d4⟩:=d
   rcases d4 with ⟨e,-,-⟩|⟨e,-⟩<;>omega)
 |ok s1=>
  obtain⟨b1,g1,R1⟩:=l1 s1 rfl;have hx:=hAt.right.one;rw[←R1.next] at hx;obtain⟨k1,k2⟩:=lB g1 R1.st hx R1.cells R1.out R1.wrong
  cases e:dQ s1 with
  |error q=>
   obtain⟨c0,s0⟩:=q;obtain⟨b',g2,d⟩:=k2 _ _ e;(have V1:P0 (JS (.ok s1))=(c0,s0):=by rw[JS,e];rfl);rw[V1] at he;cases he;obtain⟨-,CH,-⟩:=iU.2 _ _ e;exact fin _ _ b' g2 d ad
  |ok s2=>
   obtain⟨g2,q2⟩:=k1 _ e;(have V1:P0 (JS (.ok s1))=(0,s2):=by rw[JS,e];rfl);rw[V1] at he;(have tz:s2.cells=s1.cells:=by rw[q2]);(have TU:s2.out=s1.out:=by rw[q2]);cases he;refine⟨aN inp false ⟨16,0,0,0⟩ (bump b1),?_,g2.1,by rw[tz];exact R1.cells,by rw[TU];exact R1.out,R1.wrong,.inl ⟨rfl,rfl⟩⟩;have hg:=g2.2;rw[RJ _ _ (.inr (show (aN inp false ⟨16,0,0,0⟩ (bump b1)).m.st≠0 from (by decide:(1:Int)≠0)))] at hg;rw[show (start p inp fuel).left=fuel from rfl] at hg;rw[hg,Nat.zero_add]
theorem Qd {e size n g:Nat} {xs:List Value} (hl:xs.length=n*size) (hm:n≤maxLen):∀m,Sat [aw g xs e] m→aS e size (.slice (some ⟨g,0,none⟩) n n) n xs m:=fun m h=>by
 have h2:=iT (e:=e) (g:=g) (c:=n) (rest:=[]) hl (bX _) hm (by rw[List.append_nil];omega) m;rw[List.append_nil] at h2;exact h2 h
theorem RL (σ:PH) (cs:List Value) (p:Pr) (iv:Value) (inp:List Int) (hp:gT σ cs p) (hi:a7 σ iv inp) (hc:bZ p=0) (hN:fh p.body≤10000):
 ah Tryz.prog 30 #[.agg cs.toArray,iv] σ [] (aA fun v aj al=>∃g pc cc,v=ptr g∧σ.sub aj∧bV 4 tR aj (.slice pc (ak p).length cc) (ak p)∧fR aj g (.slice pc (ak p).length cc) iv (sj (sizes p.vars).toNat) al):=by
 have lG:=hp;obtain⟨vs,bs,rfl,hv,hb⟩:=hp;obtain⟨pv,cv,rfl,jx,Hf⟩:=hv.shape;obtain⟨pi,ci,rfl,pB,CB⟩:=hi.shape;obtain⟨hz,Ua⟩:=kK hc;obtain⟨-,-,mK,y5⟩:=dw hc;have um:(0:Int)≤sizes p.vars:=ef mK;obtain⟨nc,CV⟩:∃nc:Nat,sizes p.vars=(nc:Int):=⟨(sizes p.vars).toNat,ad⟩;have cB:=kt σ _ p p.vars.length lG hz Ua;rw[show cellOf p.vars p.vars.length=sizes p.vars by rw[cellOf,Int.toNat_natCast,List.take_length],CV] at cB;rw[show (sizes p.vars).toNat=nc by omega];(refine cw Tryz.func30 ?_;refine aU ?_;refine cP fun g2=>?_;refine bt ?_;refine yC (cB) ?_);refine zw rfl (X.ax.ZG (n:=nc) (zs:=ints (List.replicate nc 0)) (ae rfl) rfl (ae rfl) rfl rfl rfl rfl (by show 8*nc≤_;omega) ad (oM nc rfl)) ?_;rintro _ _ _ ⟨g11,rfl,rfl,rfl⟩;refine bS ?_;refine di (fun g5=>?_) (ae rfl);refine bY ?_;refine XA.eX (ar.eT (Θ:=[aw g11 (ints (List.replicate nc 0)) 2]) zD (Qd (size:=1) (n:=nc) sV kB) (ar.refl _)) ?_;refine XA.eX (ar.dU (e:=2) (size:=1) (ar.refl _)) ?_;refine XA.join [(4,4),(13,20)] (fun x:Nat×((Option Addr×Nat)×((Option Addr×Nat)×(Option Addr×Nat)))=>[(4,ptr x.1)]) (fun x aj al=>σ.sub aj∧((ak p).length≤x.2.1.2∧x.2.1.2≤maxLen∧(dN (ak p)).length=(ak p).length*4∧(0<(ak p).length→∃g o,x.2.1.1=some ⟨g,o,none⟩∧cH aj g o (dN (ak p))))∧al=[aw x.1 [.slice x.2.1.1 (ak p).length x.2.1.2,.slice pi inp.length ci,i64 0,.slice none 0 0,i64 0,i64 0,i64 0,.slice (some ⟨g11,0,none⟩) nc nc,i64 0,.slice x.2.2.1.1 0 x.2.2.1.2,i64 0,i64 0,i64 0,.slice x.2.2.2.1 nc x.2.2.2.2,.slice none 0 0,.bool false] 104,aS 2 1 (.slice none 0 0) 0 (ints []),aS 2 1 (.slice (some ⟨g11,0,none⟩) nc nc) nc (ints (List.replicate nc 0)),aS 2 1 (.slice x.2.2.1.1 0 x.2.2.1.2) 0 (ints []),aS 2 1 (.slice x.2.2.2.1 nc x.2.2.2.2) nc (ints (List.replicate nc 0))]) ?_ ?_
 ·skip;refine XA.mM aC _ _ [] 9 #[false,false,false,false,false,false,false,false,false] rfl rfl aC (PH.sub.refl _) (ar.bB (R:=aw g2 _ _) zL (ar.bB (R:=aw g5 _ _) zL (ar.nil _))) ?_;refine qr 0 #[tT,fF,fF,fF,fF,fF,fF,fF,fF] rfl (Rd.Bl rfl) ?_;refine qp 2 #[tT,fF,tT,fF,fF,fF,fF,fF,fF] rfl Rd.mv ?_;refine qr 3 #[tT,fF,tT,tT,fF,fF,fF,fF,fF] rfl (Rd.Bl rfl) ?_;refine qr 4 #[tT,fF,tT,tT,tT,fF,fF,fF,fF] rfl (Rd.Bl rfl) ?_;refine qa 1 ?_;refine qw #[tT,tT,tT,tT,tT,fF,fF,fF,fF] rfl (ax.cE (P4 σ _ p lG hc hN).sg rfl) ?_;rintro _ cL _ ⟨_,⟨q,cq,rfl,bT,n9,rfl⟩,rfl⟩;refine⟨⟨zX,zE⟩,cX.re zC ?_⟩;refine qa 5 ?_;refine qw #[tT,tT,tT,tT,tT,tT,fF,fF,fF] rfl (ax.cE (ML _ 0 0 0 0 _ _ _ _ 0 nc [] (List.replicate nc 0) ad ad) rfl) ?_;rintro _ _ _ ⟨_,⟨p3,c3,p4,c4,rfl,rfl,rfl⟩,rfl⟩;refine⟨⟨zX,zE⟩,cX.re zC ?_⟩;refine qp 6 #[tT,tT,tT,tT,tT,tT,tT,fF,fF] rfl (Rd.bl (fun _ _=>ae) rfl rfl rfl) ?_;refine qa 7 ?_;refine qw #[tT,tT,tT,tT,tT,tT,tT,tT,fF] rfl ax.bx ?_;rintro _ _ _ ⟨g20,rfl,rfl,rfl⟩;refine⟨⟨zX,zE⟩,cX.re zC ?_⟩;refine qp 8 #[tT,tT,tT,tT,tT,tT,tT,tT,tT] rfl Rd.CZ ?_;refine cX.nil rfl ?_;refine DA.bI ⟨zK,(g20,((q,cq),((p3,c3),(p4,c4)))),_,zM,?_,bT,n9,rfl⟩;exact zE
 rintro⟨g20,⟨q,cq⟩,⟨p3,c3⟩,p4,c4⟩ δ cL _ ⟨bT,n9,rfl⟩;dsimp only[dq,List.foldl];refine bS ?_;simp only at n9;refine XA.mX (R:=aS 2 1 (.slice p3 0 c3) _ _) zL cm aH ?_;rintro fZ ⟨⟩ sG cQ;refine XA.mX (R:=aS 2 1 (.slice p4 nc c4) _ _) zL cm aH ?_;rintro qf ⟨⟩ TQ jU;have JZ:=cQ.trans jU;have hr:(List.replicate nc (0:Int)).length=nc:=List.length_replicate;have hk:KeptAt qf (i64 (0:Nat)) (.slice p3 ([]:List Int).length c3) (i64 (0:Nat)) (i64 (0:Nat)) (i64 0) (.slice p4 (List.replicate nc (0:Int)).length c4) ⟨0,[],0,0,0,List.replicate nc 0⟩:=⟨p3,c3,p4,c4,rfl,rfl,rfl,rfl,rfl,rfl,fQ rfl (aH () _ _ sG jU),fQ rfl (by rw[hr];exact TQ)⟩;have hB:=fR.of (σ:=qf) (g:=g20) (cv:=.slice q (ak p).length cq) (iv:=.slice pi inp.length ci) (next:=0) (rd:=0) (outn:=0) (stack:=[]) (cells:=List.replicate nc 0) (out:=[]) (st:=0) (wrong:=false) (sp:=none) (sc:=0) (pl:=some ⟨g11,0,none⟩) (cl:=nc) (op:=none) (oc:=0) hk;rw[hr] at hB;have ns:bV 4 tR qf (.slice q (ak p).length cq) (ak p):=(Ic qf (ak p)).Cx rfl ⟨n9.1,n9.2.1,n9.2.2.1,fun h=>by obtain⟨g,o,e,r⟩:=n9.2.2.2 h;exact⟨g,o,e,r.mono JZ⟩⟩;refine bS ?_;exact bC rfl rfl ⟨g20,q,cq,rfl,bT.trans JZ,ns,hB⟩
def qg (b:Be):Int:=if b.wrong then 15 else if b.m.st=0 then 13 else if 1<b.m.st then IntKind.i64.wrap (b.m.st-2) else 0
theorem aB.vP {P:Program} {ρ:Env} {σ:PH} {Γ:List HP} {fn:Func} {t1:Tmp} {T1:TypeId} {g1 o1:Nat} {v1:Value} (hf:fn.results=#[.cell t1 T1]) (h1:ρ t1=.pointer (some ⟨g1,o1,none⟩)) (l1:∀h,Ho σ Γ h→Ld P h T1 g1 o1 v1):aB P fn ρ σ Γ v1:=aB.cell hf h1 l1
theorem M6 (σ:PH) (g:Nat) (v0 v1 v2 v3 v4 v5 k0 k1 k2 k3 k4 k5:Value) (st:Int) (pl op:Option Addr) (nl cl no oc:Nat) (wrong:Bool):
 ah Tryz.prog 34 #[ptr g] σ [aw g [v0,v1,v2,v3,v4,v5,i64 st,.slice pl nl cl,k0,k1,k2,k3,k4,k5,.slice op no oc,.bool wrong] 104]
  (aA fun v aj al=>v=.agg #[i64 (if wrong then 15 else if st=0 then 13 else if 1<st then IntKind.i64.wrap (st-2) else 0),.slice op no oc,.slice pl nl cl]∧σ=aj∧al=[aw g [v0,v1,v2,v3,v4,v5,i64 st,.slice pl nl cl,k0,k1,k2,k3,k4,k5,.slice op no oc,.bool wrong] 104]):=by
 cases wrong with
 |true=>
  by_cases h0:st=0
  ·refine cM Tryz.func34 ?_;refine aU ?_;refine di (fun g2=>?_) (ae rfl);refine cx ?_;refine et 12 478980 [11] (ar.bB (R:=aw g _ _) zL (ar.nil _)) ?_;refine aR ?_;refine aP.fw rfl rfl Gd.free (ax.alloc (ae rfl)) ?_;rintro _ _ _ ⟨g3,rfl,rfl,rfl⟩;refine stays ?_;refine kS rfl (ax.st (ae rfl) rfl) ?_;refine dB ?_;refine XA.aY rfl (aM h0) ?_;refine zi ?_;exact ao.ret (aB.vP rfl rfl (Ld.bn (ae rfl) rfl zL rfl cK cJ)) zE ⟨rfl,rfl,rfl⟩
  ·by_cases h1:1<st
   ·refine cM Tryz.func34 ?_;refine aU ?_;refine di (fun g2=>?_) (ae rfl);refine cx ?_;refine et 12 478980 [11] (ar.bB (R:=aw g _ _) zL (ar.nil _)) ?_;refine aR ?_;refine aP.fw rfl rfl Gd.free (ax.alloc (ae rfl)) ?_;rintro _ _ _ ⟨g3,rfl,rfl,rfl⟩;refine stays ?_;refine kS rfl (ax.st (ae rfl) rfl) ?_;refine dB ?_;refine XA.aI rfl (aE h0) ?_;refine aR ?_;refine XA.aY rfl (aM h1) ?_;refine Je ?_;exact ao.ret (aB.vP rfl rfl (Ld.bn (ae rfl) rfl zL rfl cK cJ)) zE ⟨rfl,rfl,rfl⟩
   ·refine cM Tryz.func34 ?_;refine aU ?_;refine di (fun g2=>?_) (ae rfl);refine cx ?_;refine et 12 478980 [11] (ar.bB (R:=aw g _ _) zL (ar.nil _)) ?_;refine aR ?_;refine aP.fw rfl rfl Gd.free (ax.alloc (ae rfl)) ?_;rintro _ _ _ ⟨g3,rfl,rfl,rfl⟩;refine stays ?_;refine kS rfl (ax.st (ae rfl) rfl) ?_;refine dB ?_;refine XA.aI rfl (aE h0) ?_;refine aR ?_;refine XA.aI rfl (aE h1) ?_;refine rb ?_;exact ao.ret (aB.vP rfl rfl (Ld.bn (ae rfl) rfl zL rfl cK cJ)) zE ⟨rfl,rfl,rfl⟩
 |false=>
  by_cases h0:st=0
  ·refine cM Tryz.func34 ?_;refine aU ?_;refine di (fun g2=>?_) (ae rfl);refine cx ?_;refine et 12 478980 [11] (ar.bB (R:=aw g _ _) zL (ar.nil _)) ?_;refine aR ?_;refine aP.fw rfl rfl Gd.free (ax.alloc (ae rfl)) ?_;rintro _ _ _ ⟨g3,rfl,rfl,rfl⟩;refine stays ?_;refine kS rfl (ax.st (ae rfl) rfl) ?_;refine dB ?_;refine XA.aY rfl (aM h0) ?_;refine rb ?_;exact ao.ret (aB.vP rfl rfl (Ld.bn (ae rfl) rfl zL rfl cK cJ)) zE ⟨by rw[ag au,aq h0],rfl,rfl⟩
  ·by_cases h1:1<st
   ·refine cM Tryz.func34 ?_;refine aU ?_;refine di (fun g2=>?_) (ae rfl);refine cx ?_;refine et 12 478980 [11] (ar.bB (R:=aw g _ _) zL (ar.nil _)) ?_;refine aR ?_;refine aP.fw rfl rfl Gd.free (ax.alloc (ae rfl)) ?_;rintro _ _ _ ⟨g3,rfl,rfl,rfl⟩;refine stays ?_;refine kS rfl (ax.st (ae rfl) rfl) ?_;refine dB ?_;refine XA.aI rfl (aE h0) ?_;refine aR ?_;refine XA.aY rfl (aM h1) ?_;refine jZ ?_;exact ao.ret (aB.vP rfl rfl (Ld.bn (ae rfl) rfl zL rfl cK cJ)) zE ⟨by rw[ag au,ag h0,aq h1],rfl,rfl⟩
   ·refine cM Tryz.func34 ?_;refine aU ?_;refine di (fun g2=>?_) (ae rfl);refine cx ?_;refine et 12 478980 [11] (ar.bB (R:=aw g _ _) zL (ar.nil _)) ?_;refine aR ?_;refine aP.fw rfl rfl Gd.free (ax.alloc (ae rfl)) ?_;rintro _ _ _ ⟨g3,rfl,rfl,rfl⟩;refine stays ?_;refine kS rfl (ax.st (ae rfl) rfl) ?_;refine dB ?_;refine XA.aI rfl (aE h0) ?_;refine aR ?_;refine XA.aI rfl (aE h1) ?_;refine ra ?_;exact ao.ret (aB.vP rfl rfl (Ld.bn (ae rfl) rfl zL rfl cK cJ)) zE ⟨by rw[ag au,ag h0,ag h1],rfl,rfl⟩
theorem Ub (σ:PH) (mb pb:Nat) (pc:Option Addr) (nc cc:Nat) (iv:Value) (inp:List Int) (hi:a7 σ iv inp) (pB:inp.length≤1000000):
 ah Tryz.prog 149 #[ptr mb,.slice pc nc cc,iv,ptr pb] σ [] (aA fun v aj al=>∃g pi ci,v=ptr g∧σ.sub aj∧a7 aj (.slice pi inp.length ci) inp∧al=[aw g [ptr mb,.slice pc nc cc,.slice pi inp.length ci,ptr pb,i64 0,.bool false] 179]):=by
 refine Zd Tryz.func149 ?_;refine aR ?_;refine zw rfl (ax.cE (D5 σ iv inp hi pB) rfl) ?_;rintro _ _ _ ⟨_,⟨p,c,rfl,rfl,rfl⟩,rfl⟩;refine az.cl ?_;refine az.mX (R:=aS 2 1 (.slice p inp.length c) _ _) zL cm aH ?_;rintro cO ⟨⟩ hf bz;(refine aU ?_;refine cP fun g15=>?_;refine bY ?_);exact bC rfl rfl ⟨_,p,c,rfl,bz,fQ rfl hf,rfl⟩
section
variable (σ:PH) (g mb sb db pb:Nat) (pc:Option Addr) (cc:Nat) (code:List In) (iv:Value) (left:Int) (bR:Bool) (d:av) (s:eZ) (M:Me)
theorem D7 (h4:M.ld 4≠0):
 ah Tryz.prog 157 #[ptr g] σ [aw g [ptr mb,.slice pc code.length cc,iv,ptr pb,i64 left,.bool bR] 179,gJ mb sb db d s M] (aA fun v aj al=>v=.bool false∧σ=aj∧al=[aw g [ptr mb,.slice pc code.length cc,iv,ptr pb,i64 left,.bool bR] 179,gJ mb sb db d s M]):=by
 refine cM Tryz.func157 ?_;refine a8 ?_;refine et 22 420960510 [] (ar.bB (R:=aw g _ _) zL (ar.nil _)) ?_;refine bY ?_;refine aP.fw rfl rfl Gd.free (ax.cE (jM σ mb sb db d s M 4) rfl) ?_;rintro _ _ _ ⟨_,⟨rfl,rfl,rfl⟩,rfl⟩;refine stays (aP.cl ?_);refine bS ?_;rw[show decide (M.ld 4=0)=false from aE h4];refine bt ?_;(first|refine aP.off rfl rfl sW ?_|refine aP.wZ rfl rfl sW ?_|refine aP.KT rfl rfl sW ?_);refine bt ?_;exact bC rfl rfl ⟨rfl,rfl,rfl⟩
theorem J0 (b:Be) (inp:List Int) (x:In) (hc:bV 4 tR σ (.slice pc code.length cc) code) (hS:cG M.C b.m) (hk:np code inp b x):
 ah Tryz.prog 157 #[ptr g] σ [aw g [ptr mb,.slice pc code.length cc,iv,ptr pb,i64 left,.bool bR] 179,gJ mb sb db d s M] (aA fun v aj al=>v=.bool (decide (x.op=15))∧σ=aj∧al=[aw g [ptr mb,.slice pc code.length cc,iv,ptr pb,i64 left,.bool bR] 179,gJ mb sb db d s M]):=by
 obtain⟨⟨next,stack,rd,outn,st,cells⟩,kept,out,wrong⟩:=b;obtain⟨gP,hx,-,-,-,-,-,ns,-,-,-⟩:=hk;simp only at gP hx ns hS;subst gP;obtain⟨kO,xa,xb,xn⟩:=x;have aV:=(List.getElem?_eq_some_iff.1 hx).1;obtain⟨gc,si,row,rfl,mJ,mZ,bG⟩:=hc.at hx;obtain rfl:row=[i64 kO,i64 xa,i64 xb,i64 xn]:=mJ;have jN:cH σ gc (si+next*4) [i64 kO]:=bG.sub (j:=0) rfl;have y6:=jM σ mb sb db d s M 4;rw[show M.ld 4=0 from hS.st] at y6;have X9:=jM σ mb sb db d s M 0;rw[show M.ld 0=next from hS.nx] at X9;refine cM Tryz.func157 ?_;refine a8 ?_;refine et 22 420960510 [] (ar.bB (R:=aw g _ _) zL (ar.nil _)) ?_;refine bY ?_;refine aP.fw rfl rfl Gd.free (ax.cE (y6) rfl) ?_;rintro _ _ _ ⟨_,⟨rfl,rfl,rfl⟩,rfl⟩;refine stays (aP.cl ?_);refine aR ?_;refine aP.fw rfl rfl Lf (ax.cE (X9) rfl) ?_;rintro _ _ _ ⟨_,⟨rfl,rfl,rfl⟩,rfl⟩;refine stays (aP.cl ?_);refine bt ?_;exact bC rfl rfl ⟨rfl,rfl,rfl⟩
end
theorem B6 (σ:PH) (g:Nat) (cv iv:Value) (b:Be) (Γ:List HP) (hB:fR σ g cv iv b Γ) (gP:b.m.st≠0):
 ah Tryz.prog 88 #[ptr g] σ Γ (aA fun v aj al=>v=.bool false∧σ=aj∧fR aj g cv iv b al):=by
 obtain⟨⟨next,stack,rd,outn,st,cells⟩,kept,out,wrong⟩:=b;obtain⟨sp,sc,pl,cl,op,oc,k0,k1,k2,k3,k4,k5,hk,rfl⟩:=hB;simp only at gP hk⊢;refine cM Tryz.func88 ?_;refine a8 ?_;refine et 22 401828526 [] (ar.bB (R:=aw g _ _) zL (ar.nil _)) ?_;refine a8 ?_;rw[show decide (st=0)=false from aE gP];refine iA ?_;exact bC rfl rfl ⟨rfl,rfl,fR.of hk⟩
theorem Gg (σ:PH) (g:Nat) (pc:Option Addr) (cc:Nat) (code:List In) (iv:Value) (inp:List Int) (b:Be) (x:In) (Γ:List HP) (hc:bV 4 tR σ (.slice pc code.length cc) code) (hB:fR σ g (.slice pc code.length cc) iv b Γ) (hk:np code inp b x):
 ah Tryz.prog 88 #[ptr g] σ Γ (aA fun v aj al=>v=.bool (decide (x.op=15))∧σ=aj∧fR aj g (.slice pc code.length cc) iv b al):=by
 obtain⟨⟨next,stack,rd,outn,st,cells⟩,kept,out,wrong⟩:=b;obtain⟨sp,sc,pl,cl,op,oc,k0,k1,k2,k3,k4,k5,j5,rfl⟩:=hB;obtain⟨gP,hx,-,-,-,-,-,ns,-,-,-⟩:=hk;simp only at gP hx ns j5;subst gP;obtain⟨kO,xa,xb,xn⟩:=x;have aV:=(List.getElem?_eq_some_iff.1 hx).1;obtain⟨gc,si,row,rfl,mJ,mZ,bG⟩:=hc.at hx;obtain rfl:row=[i64 kO,i64 xa,i64 xb,i64 xn]:=mJ;have jN:cH σ gc (si+next*4) [i64 kO]:=bG.sub (j:=0) rfl;dsimp only;refine cM Tryz.func88 ?_;refine a8 ?_;refine et 22 401828526 [] (ar.bB (R:=aw g _ _) zL (ar.nil _)) ?_;refine sT ?_;exact bC rfl rfl ⟨rfl,rfl,fR.of j5⟩
end Go.Proofs.YtgeoiflbjcehcaaGreatDoor
