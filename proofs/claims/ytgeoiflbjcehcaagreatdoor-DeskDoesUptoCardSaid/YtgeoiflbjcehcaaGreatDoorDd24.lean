import Derived.Test.YtgeoiflbjcehcaaGreatDoorDd23
import Derived.Laws.Strings3
set_option maxHeartbeats 4000000
set_option maxRecDepth 2000
set_option linter.unusedVariables false
set_option linter.unusedSimpArgs false
namespace Go.Proofs.YtgeoiflbjcehcaaGreatDoor
open Go X
theorem AV {σ:PH} {p:Option Addr} {n c:Nat} {xs:List Int} (h:a7 σ (.slice p n c) xs):n=xs.length∧(n≤c∧c≤maxLen∧(ints xs).length=n∧(0<n→∃g o,p=some ⟨g,o,none⟩∧cH σ g o (ints xs))):=by
 obtain⟨p',c',e,h1,h2,h3⟩:=h;simp only[Value.slice.injEq] at e;obtain⟨rfl,rfl,rfl⟩:=e;exact⟨rfl,h1,h2,sV,h3⟩
theorem Qz (σ:PH) (k0 k2 k3 k4:Int) (p1 p2:Option Addr) (c1 c2:Nat) (n1 n2:Nat) (xs ys:List Int) (hx:a7 σ (.slice p1 n1 c1) xs) (hy:a7 σ (.slice p2 n2 c2) ys) (rC:n1≤1000) (WY:n2≤1000):
 ah Tryz.prog 51 #[.agg #[i64 k0,.slice p1 n1 c1,i64 k2,i64 k3,i64 k4,.slice p2 n2 c2]] σ []
  (aA fun v aj al=>∃p3 c3 p4 c4,v=.agg #[i64 k0,.slice p3 n1 c3,i64 k2,i64 k3,i64 k4,.slice p4 n2 c4]∧σ=aj∧al=[aS 2 1 (.slice p3 n1 c3) n1 (ints xs),aS 2 1 (.slice p4 n2 c4) n2 (ints ys)]):=by
 obtain⟨-,PZ⟩:=AV hx;obtain⟨-,TV⟩:=AV hy;(refine cM Tryz.func51 ?_;refine aU ?_;refine cP fun g1=>?_);refine di (fun g2=>?_) (ae rfl);refine bt ?_;refine XA.eX (ar.dU (e:=2) (size:=1) (ar.refl _)) ?_;refine XA.eX (ar.dU (e:=2) (size:=1) (ar.refl _)) ?_;refine XA.join [(1,2),(5,14)] (fun x:(Nat×Nat)×((Option Addr×Nat)×(Option Addr×Nat))=>[(1,ptr x.1.1),(2,ptr x.1.2)]) (fun x aj al=>σ=aj∧al=[aw x.1.1 [i64 k0,.slice x.2.1.1 n1 x.2.1.2,i64 k2,i64 k3,i64 k4,.slice x.2.2.1 n2 x.2.2.2] 99,aw x.1.2 Wd.zero 99,aS 2 1 (.slice x.2.1.1 n1 x.2.1.2) n1 (ints xs),aS 2 1 (.slice x.2.2.1 n2 x.2.2.2) n2 (ints ys)]) ?_ ?_
 ·skip;refine XA.mM aC _ _ [8,9,10,11] 12 #[false,false,false,false,false,false,false,false,false,false,false,false] rfl rfl aC (PH.sub.refl _) (ar.bB (R:=aw g1 _ _) zL (ar.nil _)) ?_;refine qp 0 #[tT,fF,fF,fF,fF,fF,fF,fF,fF,fF,fF,fF] rfl Rd.mv ?_;refine qp 1 #[tT,tT,fF,fF,fF,fF,fF,fF,fF,fF,fF,fF] rfl (Rd.fA rfl) ?_;refine qr 2 #[tT,tT,tT,fF,fF,fF,fF,fF,fF,fF,fF,fF] rfl (Rd.yZ rfl (ae rfl) rfl) ?_;refine qp 4 #[tT,tT,tT,fF,tT,fF,fF,fF,fF,fF,fF,fF] rfl Rd.mv ?_;refine qp 5 #[tT,tT,tT,fF,tT,tT,fF,fF,fF,fF,fF,fF] rfl (Rd.fA rfl) ?_;refine qr 6 #[tT,tT,tT,fF,tT,tT,tT,fF,fF,fF,fF,fF] rfl (Rd.yZ rfl (ae rfl) rfl) ?_;refine qa 3 ?_;refine qw #[tT,tT,tT,tT,tT,tT,tT,fF,fF,fF,fF,fF] rfl (X.ax.D3 (ae rfl) rfl (ae rfl) rfl rfl zL rfl PZ (Nat.mul_one _).symm (ei _) kB rv (Nat.zero_add _).symm rfl) ?_;rintro _ _ _ ⟨p8,c8,rfl,rfl,rfl⟩;refine⟨⟨zX,zE⟩,cX.re zC ?_⟩;refine qp 8 #[tT,tT,tT,tT,tT,tT,tT,fF,tT,fF,fF,fF] rfl (Rd.fA rfl) ?_;refine qa 7 ?_;refine qw #[tT,tT,tT,tT,tT,tT,tT,tT,tT,fF,fF,fF] rfl (X.ax.D3 (ae rfl) rfl (ae rfl) rfl rfl zL rfl TV (Nat.mul_one _).symm (ei _) kB rv (Nat.zero_add _).symm rfl) ?_;rintro _ _ _ ⟨Vz,c12,rfl,rfl,rfl⟩;refine⟨⟨zX,zE⟩,cX.re zC ?_⟩;refine qa 9 ?_;refine ji.b7 (bc:=#[tT,tT,tT,tT,tT,tT,tT,tT,tT,tT,fF,fF]) rfl rfl Gd.free aC rfl aC (ax.st (ae rfl) rfl) ?_;rintro _ _ _ ⟨rfl,rfl,rfl⟩;refine cX.re zC ?_;refine qp 10 #[tT,tT,tT,tT,tT,tT,tT,tT,tT,tT,tT,fF] rfl (Rd.fA rfl) ?_;refine qa 11 ?_;refine ji.b7 (bc:=#[tT,tT,tT,tT,tT,tT,tT,tT,tT,tT,tT,tT]) rfl rfl Gd.free aC rfl aC (ax.st (ae rfl) rfl) ?_;rintro _ _ _ ⟨rfl,rfl,rfl⟩;refine cX.re zC ?_;refine cX.nil rfl ?_;refine DA.bI ⟨zK,((g1,g2),((p8,c8),(Vz,c12))),_,zM,?_,rfl,rfl⟩;exact zE
 rintro⟨⟨g1,g2⟩,⟨p3,c3⟩,p4,c4⟩ δ _ _ ⟨rfl,rfl⟩;dsimp only[dq,List.foldl];refine bJ ?_;exact ao.ret (aB.cell rfl rfl (Ld.bn (ae rfl) rfl zL rfl cK cJ)) zE ⟨p3,c3,p4,c4,rfl,rfl,rfl⟩
theorem Cn (σ:PH) (g:Nat) (cv iv:Value) (b:Be) (Γ:List HP) (hB:fR σ g cv iv b Γ) (hs:b.kept.stack.length≤1000) (hc:b.kept.cells.length≤1000):
 ah Tryz.prog 87 #[ptr g] σ Γ (aA fun v aj al=>v=.tuple #[]∧σ=aj∧fR aj g cv iv (gS b) al):=by
 obtain⟨⟨next,stack,rd,outn,st,cells⟩,⟨aeR,NG,krd,aeS,kst,NH⟩,out,wrong⟩:=b;obtain⟨sp,sc,pl,cl,op,oc,k0,k1,k2,k3,k4,k5,hk,rfl⟩:=hB;have hk':=hk;obtain⟨p,c,p',c',rfl,rfl,rfl,rfl,rfl,rfl,h1,h2⟩:=hk;simp only at hs hc h1 h2 hk';refine cM Tryz.func87 ?_;refine a8 ?_;refine zw rfl (ax.cE (Qz σ _ _ _ _ _ _ _ _ NG.length NH.length NG.reverse NH h1 h2 hs hc) rfl) ?_;rintro _ _ _ ⟨_,⟨p3,c3,p4,c4,rfl,rfl,rfl⟩,rfl⟩;refine az.cl ?_;refine bY ?_;exact iN rfl ⟨rfl,rfl,fR.of hk'⟩
theorem nW {p:Pr} {inp:List Int} {L:Li} {k:Nat} (h:fX p inp L k) (hk:k≤1000000) (h0:L.b.kept.st=0):(eg (ak p) inp L).b.kept.st=0:=by
 show (bp (ak p) inp true L.b).kept.st=0;by_cases hs:L.b.m.st=0
 ·obtain⟨x,hx,-⟩:=h.iJ.ok hk hs;rw[bp,aq hs];rcases (h.iJ.inv.step (keep:=true) h.iJ.ch hx).2.2.2 with e|⟨e,e0⟩
  ·rw[e];exact h0
  ·rw[e];exact e0
 ·rw[bp,ag hs];exact h0
theorem fX.small {p:Pr} {inp:List Int} {L:Li} {k:Nat} (h:fX p inp L k) (hk:k≤1000000) (h0:L.b.kept.st=0):L.b.kept.stack.length≤1000∧L.b.kept.cells.length≤1000:=by
 obtain⟨x,-,hx⟩:=h.kept.ok hk (show (gS L.b).m.st=0 from h0);have e:(gS L.b).m=L.b.kept:=rfl;have hc:=h.kept.inv.cells;rw[e] at hx hc;obtain⟨-,-,mK,y5⟩:=dw h.kept.ch;have:=ef mK;omega
theorem EB {p:Pr} {inp:List Int}:∀(f:Nat) {L:Li} {k:Nat},fX p inp L k→k+f≤1000000→L.b.kept.st=0→(jn (ak p) inp f L).1.b.kept.st=0
 |0,_,_,_,_,h0=>h0
 |f+1,L,k,h,hk,h0=>by
  rw[jn];split
  ·exact EB f (h.next ad) ad (nW h ad h0)
  ·exact h0
theorem AW {p:Pr} {inp:List Int} {K:Int} {bit:Bool}:∀(f:Nat) {L:Li} {k:Nat},fX p inp L k→k+f≤1000000→L.b.kept.st=0→(fe (ak p) inp K bit f L).1.b.kept.st=0
 |0,_,_,_,_,h0=>h0
 |f+1,L,k,h,hk,h0=>by
  rw[fe];split
  ·rw[fj];split
   ·exact nW h ad h0
   ·exact h0
  ·split
   ·exact AW f (h.next ad) ad (nW h ad h0)
   ·exact h0
theorem IK {p:Pr} {inp:List Int} {L:Li} {k:Nat} (s:oP) (h:fX p inp L k) (hk:k+3000≤1000000) (h0:L.b.kept.st=0):(jV (ak p) inp s L).1.b.kept.st=0:=by
 rw[jV];split
 ·exact h0
 ·rename_i hf;have hf:aO s=0:=Classical.byContradiction hf
  have hn:s.kind≠2→s.n≤3000:=by
   intro kP;rw[aO] at hf;split at hf
   ·cases hf
   ·split at hf
    ·cases hf
    ·rename_i q;exact Classical.byContradiction fun z=>q (.inl ⟨kP,.inr ad⟩)
  split
  ·have:=hn ad;exact EB _ h ad h0
  ·split
   ·have:=hn ad;exact AW _ h ad h0
   ·exact h0
section
variable (σ:PH) (g:Nat) (pc:Option Addr) (cc:Nat) (iv:Value) (p:Pr) (inp:List Int) (L:Li) (k:Nat) (Γ:List HP)
theorem UD (n:Nat) (K m:Int) (hc:bV 4 tR σ (.slice pc (ak p).length cc) (ak p)) (hi:a7 σ iv inp) (hB:fR σ g (.slice pc (ak p).length cc) iv L.b Γ) (h:fX p inp L k) (hk:k+n≤900000):
 ah Tryz.prog 55 #[ptr g,.agg #[i64 1,i64 n,i64 K,.int .u64 m]] σ Γ (aA fun v aj al=>v=i64 ((jn (ak p) inp n L).2:Nat)∧σ.sub aj∧fR aj g (.slice pc (ak p).length cc) iv (jn (ak p) inp n L).1.b al):=by
 obtain⟨sp,sc,pl,cl,op,oc,k0,k1,k2,k3,k4,k5,j5,rfl⟩:=hB;have hB:fR σ g (.slice pc (ak p).length cc) iv L.b _:=⟨sp,sc,pl,cl,op,oc,k0,k1,k2,k3,k4,k5,j5,rfl⟩;(refine cw Tryz.func55 ?_;refine aU ?_;refine cP fun g3=>?_;refine ra ?_;refine XA.gen [(0,_),(3,_),(4,_),(5,_)] iX fun δ=>?_);dsimp only[List.foldl];refine XA.loop [(4,5),(11,47)] (fun x:Nat×Li=>[(5,i64 x.1)]) (fun x aj al=>σ.sub aj∧x.1≤n∧fX p inp x.2 (k+x.1)∧jn (ak p) inp n L=((jn (ak p) inp (n-x.1) x.2).1,(jn (ak p) inp (n-x.1) x.2).2+x.1)∧∃cr,fR aj g (.slice pc (ak p).length cc) iv x.2.b cr∧al=aw g3 [i64 1,i64 n,i64 K,.int .u64 m] 82::cr) (fun x=>n-x.1) (0,L) eb (Δ0:=_) ?_ (⟨.refl _,cg _,h,rfl,_,hB,rfl⟩) ?_
 ·exact zE
 rintro⟨i,L1⟩ δ cO _ ⟨bz,j3,cR,cZ,cr,IL,rfl⟩;dsimp only[dq,List.foldl];have j3:i≤n:=j3;simp only at cR cZ IL;obtain⟨sp1,sc1,pl1,cl1,op1,oc1,a0,a1,a2,a3,a4,a5,uK,rfl⟩:=IL;have IL:fR cO g (.slice pc (ak p).length cc) iv L1.b _:=⟨sp1,sc1,pl1,cl1,op1,oc1,a0,a1,a2,a3,a4,a5,uK,rfl⟩;have jg:=yt cO g pc cc iv inp L1.M L1.b p (k+i) true _ (hc.mono bz (fun _ _ h=>h)) (hi.mono bz) IL cR.iJ ad;refine bt ?_;refine XA.bE rfl (fun aV=>?_) (fun aV=>?_)
 ·refine cp ?_;(first|refine zH ?_);refine aR ?_;obtain⟨f,hf⟩:∃f,n-i=f+1:=⟨n-i-1,ad⟩;by_cases h0:L1.b.m.st=0
  ·rw[aM h0] at jg;rw[hf,jn,aq h0] at cZ;refine zw rfl (ax.cE (jg) rfl) ?_;rintro _ cL _ ⟨_,⟨rfl,bT,mP⟩,rfl⟩;refine az.cl ?_;obtain⟨Ip,Iq,Fe,J2,D8,Ir,b0,b1,b2,b3,b4,b5,kP,rfl⟩:=mP;have mP:fR cL g (.slice pc (ak p).length cc) iv (eg (ak p) inp L1).b _:=⟨Ip,Iq,Fe,J2,D8,Ir,b0,b1,b2,b3,b4,b5,kP,rfl⟩;(try dsimp only[List.append,List.cons_append,List.nil_append]);refine dB ?_;refine⟨bQ,(i+1,eg (ak p) inp L1),_,zM,?_,⟨bz.trans bT,by show i+1≤n;omega,cR.next ad,by rw[cZ,show n-(i+1)=f by omega];simp only[Prod.mk.injEq,true_and];omega,_,mP,rfl⟩,gF⟩
   ·exact zE
  ·rw[aE h0,bp,ag h0] at jg;rw[hf,jn,ag h0] at cZ;refine zw rfl (ax.cE (jg) rfl) ?_;rintro _ cL _ ⟨_,⟨rfl,bT,mP⟩,rfl⟩;refine az.cl ?_;obtain⟨Ip,Iq,Fe,J2,D8,Ir,b0,b1,b2,b3,b4,b5,kP,rfl⟩:=mP;have mP:fR cL g (.slice pc (ak p).length cc) iv L1.b _:=⟨Ip,Iq,Fe,J2,D8,Ir,b0,b1,b2,b3,b4,b5,kP,rfl⟩;(try dsimp only[List.append,List.cons_append,List.nil_append]);refine dC ?_;rw[cZ];exact bC rfl rfl ⟨aZ,bz.trans bT,mP⟩
 refine bm ?_;(obtain rfl:i=n:=by omega);rw[Nat.sub_self,jn] at cZ;rw[cZ];exact bC rfl rfl ⟨aZ,bz,IL⟩
theorem and_one {m:Int} (wm:0≤m) (wE:m<18446744073709551616):IntKind.u64.wrap ((BitVec.ofInt 64 m&&& BitVec.ofInt 64 1).toNat:Int)=((m.toNat%2:Nat):Int):=by
 rw[Xt m wm wE];omega
theorem UE (m:Int):cU m 0=decide (m.toNat%2=1):=by simp[cU]
theorem IN {C:List In} {inp:List Int} {L:Li} (h:zr C L.b.m=true):gS (bp C inp false L.b)=gS L.b:=by
 obtain⟨h0,x,hx,ki⟩:=kL h;rw[bp,aq h0,qh hx ki];rfl
theorem fR.as {σ:PH} {g:Nat} {cv iv:Value} {b b':Be} {Γ:List HP} (h:fR σ g cv iv b Γ) (e:b'=b):fR σ g cv iv b' Γ:=e▸h
theorem QA (n:Nat) (K m:Int) (hK0:0≤K) (wm:0≤m) (wE:m<18446744073709551616) (hc:bV 4 tR σ (.slice pc (ak p).length cc) (ak p)) (hi:a7 σ iv inp) (hB:fR σ g (.slice pc (ak p).length cc) iv L.b Γ) (h:fX p inp L k) (hk:k+n≤900000) (j5:L.b.kept.st=0):
 ah Tryz.prog 55 #[ptr g,.agg #[i64 3,i64 n,i64 K,.int .u64 m]] σ Γ (aA fun v aj al=>v=i64 ((fe (ak p) inp K (cU m 0) n L).2:Nat)∧σ.sub aj∧fR aj g (.slice pc (ak p).length cc) iv (fe (ak p) inp K (cU m 0) n L).1.b al):=by
 obtain⟨sp,sc,pl,cl,op,oc,k0,k1,k2,k3,k4,k5,KJ,rfl⟩:=hB;have hB:fR σ g (.slice pc (ak p).length cc) iv L.b _:=⟨sp,sc,pl,cl,op,oc,k0,k1,k2,k3,k4,k5,KJ,rfl⟩;(refine cw Tryz.func55 ?_;refine aU ?_;refine cP fun g3=>?_;refine ra ?_;refine XA.gen [(0,_),(3,_),(4,_),(5,_)] iX fun δ=>?_);dsimp only[List.foldl];refine XA.loop [(4,5),(11,47)] (fun x:Nat×Li=>[(5,i64 x.1)]) (fun x aj al=>σ.sub aj∧x.1≤n∧fX p inp x.2 (k+x.1)∧x.2.b.kept.st=0∧fe (ak p) inp K (cU m 0) n L=((fe (ak p) inp K (cU m 0) (n-x.1) x.2).1,(fe (ak p) inp K (cU m 0) (n-x.1) x.2).2+x.1)∧∃cr,fR aj g (.slice pc (ak p).length cc) iv x.2.b cr∧al=aw g3 [i64 3,i64 n,i64 K,.int .u64 m] 82::cr) (fun x=>n-x.1) (0,L) eb (Δ0:=_) ?_ (⟨.refl _,cg _,h,j5,rfl,_,hB,rfl⟩) ?_
 ·exact zE
 rintro⟨i,L1⟩ δ cO _ ⟨bz,j3,cR,QB,cZ,cr,IL,rfl⟩;dsimp only[dq,List.foldl];have j3:i≤n:=j3;simp only at cR cZ IL QB;obtain⟨sp1,sc1,pl1,cl1,op1,oc1,a0,a1,a2,a3,a4,a5,uK,rfl⟩:=IL;have IL:fR cO g (.slice pc (ak p).length cc) iv L1.b _:=⟨sp1,sc1,pl1,cl1,op1,oc1,a0,a1,a2,a3,a4,a5,uK,rfl⟩;have tz:=hc.mono bz (fun _ _ h=>h);have wM:=hi.mono bz;have jg:=B7 cO g pc cc iv inp L1.M L1.b p (k+i) _ tz IL cR.iJ ad;refine bt ?_;refine XA.bE rfl (fun aV=>?_) (fun aV=>?_)
 ·refine cp ?_;obtain⟨f,hf⟩:∃f,n-i=f+1:=⟨n-i-1,ad⟩;by_cases yo:zr (ak p) L1.b.m=true
  ·rw[yo] at jg;rw[hf,fe,aq yo] at cZ;have gP:=(kL yo).1;have rQ:(bp (ak p) inp true L1.b).kept.stack.length≤1000∧(bp (ak p) inp true L1.b).kept.cells.length≤1000:=(cR.next ad).small ad (nW cR ad QB)
   have o5:(bp (ak p) inp false L1.b).kept.stack.length≤1000∧(bp (ak p) inp false L1.b).kept.cells.length≤1000:=by
    obtain⟨h0,x,hx,ki⟩:=kL yo;rw[bp,aq h0,qh hx ki];exact cR.small ad QB
   by_cases q0:K=0
   ·subst q0;(have hT:(fj (ak p) inp 0 (cU m 0) L1).b=gS (bp (ak p) inp true L1.b):=by rw[fj,aq (.inl rfl)];rfl);refine zG ?_;refine zw rfl (ax.cE (jg) rfl) ?_;rintro _ _ _ ⟨_,⟨rfl,rfl,mP⟩,rfl⟩;refine az.cl ?_;obtain⟨Ip,Iq,Fe,J2,D8,Ir,b0,b1,b2,b3,b4,b5,kP,rfl⟩:=mP;have mP:fR cO g (.slice pc (ak p).length cc) iv L1.b _:=⟨Ip,Iq,Fe,J2,D8,Ir,b0,b1,b2,b3,b4,b5,kP,rfl⟩;have yK:=yt cO g pc cc iv inp L1.M L1.b p (k+i) true _ tz wM mP cR.iJ ad;(try dsimp only[List.append,List.cons_append,List.nil_append]);refine ra ?_;refine zw rfl (ax.cE (yK) rfl) ?_;rintro _ fZ _ ⟨_,⟨rfl,cQ,ry⟩,rfl⟩;refine az.cl ?_;obtain⟨KC,KD,Gj,KE,Gk,KG,d0,d1,d2,d3,d4,d5,CF,rfl⟩:=ry;have ry:fR fZ g (.slice pc (ak p).length cc) iv (bp (ak p) inp true L1.b) _:=⟨KC,KD,Gj,KE,Gk,KG,d0,d1,d2,d3,d4,d5,CF,rfl⟩;(try dsimp only[List.append,List.cons_append,List.nil_append]);refine dc ?_;refine zw rfl (ax.cE (Cn fZ g _ _ _ _ ry rQ.1 rQ.2) rfl) ?_;rintro _ _ _ ⟨_,⟨rfl,rfl,y3⟩,rfl⟩;refine az.cl ?_;obtain⟨UF,UG,UH,UI,UJ,UK,e0,e1,e2,e3,e4,e5,UL,rfl⟩:=y3;have y3:fR fZ g (.slice pc (ak p).length cc) iv (gS (bp (ak p) inp true L1.b)) _:=⟨UF,UG,UH,UI,UJ,UK,e0,e1,e2,e3,e4,e5,UL,rfl⟩;(try dsimp only[List.append,List.cons_append,List.nil_append]);refine dh ?_;rw[cZ];exact bC rfl rfl ⟨congrArg i64 C7,bz.trans cQ,y3.as hT⟩
   by_cases q1:K=1
   ·subst q1
    have hT:(fj (ak p) inp 1 (cU m 0) L1).b=gS (bp (ak p) inp (cU m 0) L1.b):=by
     rw[fj]
     cases hb:cU m 0 with
     |true=>rw[aq (.inr ⟨rfl,rfl⟩)];rfl
     |false=>rw[ag (by rintro(q|⟨-,q⟩);cases q;cases q),IN yo];rfl
    have Xk:(bp (ak p) inp (cU m 0) L1.b).kept.stack.length≤1000∧(bp (ak p) inp (cU m 0) L1.b).kept.cells.length≤1000:=by
     cases cU m 0 with
     |true=>exact rQ
     |false=>exact o5
    refine zG ?_;refine zw rfl (ax.cE (jg) rfl) ?_;rintro _ _ _ ⟨_,⟨rfl,rfl,mP⟩,rfl⟩;refine az.cl ?_;obtain⟨Ip,Iq,Fe,J2,D8,Ir,b0,b1,b2,b3,b4,b5,kP,rfl⟩:=mP;have mP:fR cO g (.slice pc (ak p).length cc) iv L1.b _:=⟨Ip,Iq,Fe,J2,D8,Ir,b0,b1,b2,b3,b4,b5,kP,rfl⟩;have yK:=yt cO g pc cc iv inp L1.M L1.b p (k+i) (cU m 0) _ tz wM mP cR.iJ ad;(try dsimp only[List.append,List.cons_append,List.nil_append]);refine dV ?_;refine zG ?_;refine zO rfl (Rd.VT (c:=((m.toNat%2:Nat):Int)) rfl rfl (and_one wm wE)) ?_;refine cx ?_;have oW:=hT;rw[UE m] at oW;(have n8:(fj (ak p) inp 1 (cU m 0) L1).b=gS (bp (ak p) inp (decide (m.toNat%2=1)) L1.b):=by rw[UE m];exact oW);rw[UE] at yK hT Xk;rw[show decide (((m.toNat%2:Nat):Int)=1)=decide (m.toNat%2=1) from decide_eq_decide.2 ad];refine zw rfl (ax.cE (yK) rfl) ?_;rintro _ fZ _ ⟨_,⟨rfl,cQ,ry⟩,rfl⟩;refine az.cl ?_;obtain⟨KC,KD,Gj,KE,Gk,KG,d0,d1,d2,d3,d4,d5,CF,rfl⟩:=ry;have ry:fR fZ g (.slice pc (ak p).length cc) iv (bp (ak p) inp (decide (m.toNat%2=1)) L1.b) _:=⟨KC,KD,Gj,KE,Gk,KG,d0,d1,d2,d3,d4,d5,CF,rfl⟩;(try dsimp only[List.append,List.cons_append,List.nil_append]);refine dc ?_;refine zw rfl (ax.cE (Cn fZ g _ _ _ _ ry Xk.1 Xk.2) rfl) ?_;rintro _ _ _ ⟨_,⟨rfl,rfl,y3⟩,rfl⟩;refine az.cl ?_;obtain⟨UF,UG,UH,UI,UJ,UK,e0,e1,e2,e3,e4,e5,UL,rfl⟩:=y3;have y3:fR fZ g (.slice pc (ak p).length cc) iv (gS (bp (ak p) inp (decide (m.toNat%2=1)) L1.b)) _:=⟨UF,UG,UH,UI,UJ,UK,e0,e1,e2,e3,e4,e5,UL,rfl⟩;(try dsimp only[List.append,List.cons_append,List.nil_append]);refine dh ?_;rw[cZ];exact bC rfl rfl ⟨congrArg i64 C7,bz.trans cQ,y3.as n8⟩
   ·have hT:(fj (ak p) inp K (cU m 0) L1).b=gS (bp (ak p) inp false L1.b):=by
     rw[fj,ag (by rintro(q|⟨q,-⟩);exact q0 q;exact q1 q),IN yo];rfl
    refine zG ?_;refine zw rfl (ax.cE (jg) rfl) ?_;rintro _ _ _ ⟨_,⟨rfl,rfl,mP⟩,rfl⟩;refine az.cl ?_;obtain⟨Ip,Iq,Fe,J2,D8,Ir,b0,b1,b2,b3,b4,b5,kP,rfl⟩:=mP;have mP:fR cO g (.slice pc (ak p).length cc) iv L1.b _:=⟨Ip,Iq,Fe,J2,D8,Ir,b0,b1,b2,b3,b4,b5,kP,rfl⟩;have yK:=yt cO g pc cc iv inp L1.M L1.b p (k+i) false _ tz wM mP cR.iJ ad;(try dsimp only[List.append,List.cons_append,List.nil_append]);refine ra ?_;refine zw rfl (ax.cE (yK) rfl) ?_;rintro _ fZ _ ⟨_,⟨rfl,cQ,ry⟩,rfl⟩;refine az.cl ?_;obtain⟨KC,KD,Gj,KE,Gk,KG,d0,d1,d2,d3,d4,d5,CF,rfl⟩:=ry;have ry:fR fZ g (.slice pc (ak p).length cc) iv (bp (ak p) inp false L1.b) _:=⟨KC,KD,Gj,KE,Gk,KG,d0,d1,d2,d3,d4,d5,CF,rfl⟩;(try dsimp only[List.append,List.cons_append,List.nil_append]);refine dc ?_;refine zw rfl (ax.cE (Cn fZ g _ _ _ _ ry o5.1 o5.2) rfl) ?_;rintro _ _ _ ⟨_,⟨rfl,rfl,y3⟩,rfl⟩;refine az.cl ?_;obtain⟨UF,UG,UH,UI,UJ,UK,e0,e1,e2,e3,e4,e5,UL,rfl⟩:=y3;have y3:fR fZ g (.slice pc (ak p).length cc) iv (gS (bp (ak p) inp false L1.b)) _:=⟨UF,UG,UH,UI,UJ,UK,e0,e1,e2,e3,e4,e5,UL,rfl⟩;(try dsimp only[List.append,List.cons_append,List.nil_append]);refine dh ?_;rw[cZ];exact bC rfl rfl ⟨congrArg i64 C7,bz.trans cQ,y3.as hT⟩
  ·(have Uo:zr (ak p) L1.b.m=false:=by revert yo;cases zr (ak p) L1.b.m<;>simp);rw[Uo] at jg;rw[hf,fe,ag yo] at cZ;refine zG ?_;refine zw rfl (ax.cE (jg) rfl) ?_;rintro _ _ _ ⟨_,⟨rfl,rfl,mP⟩,rfl⟩;refine az.cl ?_;obtain⟨Ip,Iq,Fe,J2,D8,Ir,b0,b1,b2,b3,b4,b5,kP,rfl⟩:=mP;have mP:fR cO g (.slice pc (ak p).length cc) iv L1.b _:=⟨Ip,Iq,Fe,J2,D8,Ir,b0,b1,b2,b3,b4,b5,kP,rfl⟩;have yK:=yt cO g pc cc iv inp L1.M L1.b p (k+i) true _ tz wM mP cR.iJ ad;(try dsimp only[List.append,List.cons_append,List.nil_append]);refine aR ?_;by_cases h0:L1.b.m.st=0
   ·rw[aM h0] at yK;rw[aq h0] at cZ;refine zw rfl (ax.cE (yK) rfl) ?_;rintro _ fZ _ ⟨_,⟨rfl,cQ,ry⟩,rfl⟩;refine az.cl ?_;obtain⟨KC,KD,Gj,KE,Gk,KG,d0,d1,d2,d3,d4,d5,CF,rfl⟩:=ry;have ry:fR fZ g (.slice pc (ak p).length cc) iv (eg (ak p) inp L1).b _:=⟨KC,KD,Gj,KE,Gk,KG,d0,d1,d2,d3,d4,d5,CF,rfl⟩;(try dsimp only[List.append,List.cons_append,List.nil_append]);refine dB ?_;refine⟨bQ,(i+1,eg (ak p) inp L1),_,zM,?_,⟨bz.trans cQ,by show i+1≤n;omega,cR.next ad,nW cR ad QB,by rw[cZ,show n-(i+1)=f by omega];simp only[Prod.mk.injEq,true_and];omega,_,ry,rfl⟩,gF⟩
    ·exact zE
   ·rw[aE h0,bp,ag h0] at yK;rw[ag h0] at cZ;refine zw rfl (ax.cE (yK) rfl) ?_;rintro _ fZ _ ⟨_,⟨rfl,cQ,ry⟩,rfl⟩;refine az.cl ?_;obtain⟨KC,KD,Gj,KE,Gk,KG,d0,d1,d2,d3,d4,d5,CF,rfl⟩:=ry;have ry:fR fZ g (.slice pc (ak p).length cc) iv L1.b _:=⟨KC,KD,Gj,KE,Gk,KG,d0,d1,d2,d3,d4,d5,CF,rfl⟩;(try dsimp only[List.append,List.cons_append,List.nil_append]);refine dC ?_;rw[cZ];exact bC rfl rfl ⟨aZ,bz.trans cQ,ry⟩
 refine bm ?_;(obtain rfl:i=n:=by omega);rw[Nat.sub_self,fe] at cZ;rw[cZ];exact bC rfl rfl ⟨aZ,bz,IL⟩
theorem acv (s:oP) (hf:aO s=0) (wm:0≤s.mask) (wE:s.mask<18446744073709551616) (hc:bV 4 tR σ (.slice pc (ak p).length cc) (ak p)) (hi:a7 σ iv inp) (hB:fR σ g (.slice pc (ak p).length cc) iv L.b Γ) (h:fX p inp L k) (hk:k+3000≤900000) (j5:L.b.kept.st=0):
 ah Tryz.prog 55 #[ptr g,.agg #[i64 s.kind,i64 s.n,i64 s.K,.int .u64 s.mask]] σ Γ (aA fun v aj al=>v=i64 ((jV (ak p) inp s L).2:Nat)∧σ.sub aj∧fR aj g (.slice pc (ak p).length cc) iv (jV (ak p) inp s L).1.b al):=by
 obtain⟨kd,n,K,m⟩:=s;simp only at wm wE⊢;have hd:jV (ak p) inp ⟨kd,n,K,m⟩ L=if kd=1 then jn (ak p) inp n.toNat L else if kd=3 then fe (ak p) inp K (cU m 0) n.toNat L else (tZ L,0):=by rw[jV,ag (fun x=>x hf)]
 have hb:kd=1∨kd=2∨kd=3:=by
  rw[aO] at hf;split at hf
  ·cases hf
  ·rename_i q;simp only at q;omega
 have n9:kd≠2→0≤n∧n≤3000:=by
  intro h2;rw[aO] at hf;split at hf
  ·cases hf
  ·split at hf
   ·cases hf
   ·rename_i q;constructor
    ·exact Classical.byContradiction fun z=>q (.inl ⟨h2,.inl gF⟩)
    ·exact Classical.byContradiction fun z=>q (.inl ⟨h2,.inr gF⟩)
 rcases hb with rfl|rfl|rfl
 ·obtain⟨n0,n1⟩:=n9 au;obtain⟨n,rfl⟩:∃j:Nat,n=j:=⟨n.toNat,ad⟩;rw[hd,aq rfl,Int.toNat_natCast];exact UD σ g pc cc iv p inp L k Γ n K m hc hi hB h ad
 ·rw[hd,ag au,ag au];obtain⟨hw1,Xz⟩:=h.small ad j5;obtain⟨sp,sc,pl,cl,op,oc,k0,k1,k2,k3,k4,k5,KJ,rfl⟩:=hB;have hB:fR σ g (.slice pc (ak p).length cc) iv L.b _:=⟨sp,sc,pl,cl,op,oc,k0,k1,k2,k3,k4,k5,KJ,rfl⟩;(refine cw Tryz.func55 ?_;refine aU ?_;refine cP fun g3=>?_;refine dh ?_;refine zw rfl (ax.cE (Cn σ g _ _ _ _ hB hw1 Xz) rfl) ?_);rintro _ _ _ ⟨_,⟨rfl,rfl,y3⟩,rfl⟩;refine az.cl ?_;obtain⟨UF,UG,UH,UI,UJ,UK,e0,e1,e2,e3,e4,e5,UL,rfl⟩:=y3;have y3:fR σ g (.slice pc (ak p).length cc) iv (gS L.b) _:=⟨UF,UG,UH,UI,UJ,UK,e0,e1,e2,e3,e4,e5,UL,rfl⟩;(try dsimp only[List.append,List.cons_append,List.nil_append]);refine bt ?_;exact bC rfl rfl ⟨rfl,.refl _,y3⟩
 ·obtain⟨n0,n1⟩:=n9 au;obtain⟨n,rfl⟩:∃j:Nat,n=j:=⟨n.toNat,ad⟩
  have hK:0≤K:=by
   rw[aO] at hf;split at hf
   ·cases hf
   ·split at hf
    ·cases hf
    ·rename_i q;exact Classical.byContradiction fun z=>q (.inr ⟨rfl,gF⟩)
  rw[hd,ag au,aq rfl,Int.toNat_natCast];exact QA σ g pc cc iv p inp L k Γ n K m hK wm wE hc hi hB h ad j5
end
theorem ar.tail {Γ:List HP} {R:HP}:ar (R::Γ) Γ:=fun m ⟨_,_,_,b,_,_,e⟩=>b.mono e
theorem ar.left:∀{A B:List HP},ar (A++B) A
 |[],_=>ar.nil _
 |_::_,_=>ar.bB dm.head ar.left
theorem rG.le {σ:PH} {xv:Value} {lf:Option (Pr×List Int×Li)} {k l:Nat} {Γ:List HP} (h:rG σ xv lf k Γ) (hl:k≤l):rG σ xv lf l Γ:=by
 cases lf with
 |none=>exact h
 |some x=>
  obtain⟨p,inp,L⟩:=x;obtain⟨gx,db,pb,pc,cc,gn,e,h1,h2,h3,h4,h5⟩:=h;exact⟨gx,db,pb,pc,cc,gn,e,h1,h2,ad,h4.le hl,h5⟩
theorem rG.mono {σ aj:PH} {xv:Value} {lf:Option (Pr×List Int×Li)} {k:Nat} {Γ:List HP} (h:rG σ xv lf k Γ) (hs:σ.sub aj):rG aj xv lf k Γ:=by
 cases lf with
 |none=>exact h
 |some x=>
  obtain⟨p,inp,L⟩:=x;obtain⟨gx,db,pb,pc,cc,gn,e,h1,h2,h3,h4,h5⟩:=h;exact⟨gx,db,pb,pc,cc,gn,e,h1.mono hs (fun _ _ h=>h),h2.mono hs,h3,h4,h5⟩
structure qm (l:List ByteArray):Prop where
 x:∀x∈l,x.size≤maxLen
 n:l.length≤1000000
 s:(jW l).size≤100000000
def nX (σ:PH) (gd:Nat) (d:nt) (acc:ByteArray) (k:Nat) (Γ:List HP):Prop:=∃pt ct pi ci xv cr,a7 σ (.slice pi d.input.length ci) d.input∧(∀x∈d.input,aG x)∧rG σ xv d.ua k cr∧
 Γ=eF 49 gd [.slice pt d.text.length ct,.slice pi d.input.length ci,xv] acc::aS 9 1 (.slice pt d.text.length ct) d.text.length (d.text.map Value.string)::cr
def Co (w:ByteArray) (n:List Int):Nat:=if (w=rl∨w=la)∧n.length≠0 then 3000 else 0
def nY (s:ByteArray):Nat:=match gq s with
 |[]=>0
 |w::r=>if (w=rl∨w=la)∧r.length≠0 then 3000 else 0
theorem km (d:nt) (p:Pr) (inp:List Int) (L:Li) (s:oP) (h:d.ua=some (p,inp,L)):(ia d p inp L s).1={d with ua:=some (p,inp,(jV (ak p) inp s L).1)}:=by
 rw[ia];split
 ·rename_i hf;(have e:(jV (ak p) inp s L).1=L:=by rw[jV,aq hf]);rw[e,←h]
 ·rfl
theorem wQ (n:Int):0≤j7 n:=by simp[j7,IntKind.wrap,IntKind.bits,IntKind.signed];omega
theorem wR (n:Int):j7 n<18446744073709551616:=by simp[j7,IntKind.wrap,IntKind.bits,IntKind.signed];omega
theorem Cp (b:Be):aG (qg b):=by
 rw[qg];split
 ·exact⟨au,au⟩
 split
 ·exact⟨au,au⟩
 split
 ·exact wO _
 ·exact⟨au,au⟩
theorem vp {σ:PH} {gx db pb:Nat} {pc:Option Addr} {cc:Nat} {p:Pr} {inp:List Int} {L:Li} {k m:Nat} {gn:Int} {Γ:List HP} (s:oP) (hc:bV 4 tR σ (.slice pc (ak p).length cc) (ak p)) (hL:j6 σ gx db pb pc cc (sizes p.vars).toNat p inp (jV (ak p) inp s L).1 gn Γ) (AL:gn≤(k+(jV (ak p) inp s L).2:Nat)) (cR:fX p inp L k) (hk:k+3000≤1000000) (hB:yv L.b) (hS:kY p.body) (hi:∀x∈inp,aG x) (j5:L.b.kept.st=0) (hm:(jV (ak p) inp s L).2≤m):rG σ (ptr gx) (some (p,inp,(jV (ak p) inp s L).1)) (k+m) Γ:=
 ⟨gx,db,pb,pc,cc,gn,rfl,hc,hL,ad,(mw s cR hk).1.le ad,RX (ud hS) hi s hB,hS,hi,IK s cR hk j5⟩
theorem AX (d:nt):told (iK d).2≤4000000:=by
 have h3:eM.size=2:=rfl;have OI:=wP (s:=jW d.text);rw[iK];split
 ·rename_i x hP;rw[hP] at OI;have Bw:=gW OI.1 eM;have n9:=gW OI.2 (cD eM x.1);show (cD (cD eM x.1) x.2).size+1+0≤_;change (cD eM x.1).size≤_ at Bw;change (cD (cD eM x.1) x.2).size≤_ at n9;omega
 ·split
  ·have h1:=gW (n:=1) ⟨au,au⟩ eM;show (cD eM 1).size+1+0≤_;omega
  ·show told [VD]≤_;decide
theorem vq (d:nt) {p:Pr} {inp:List Int} {L:Li} {k:Nat} (s:oP) (cR:fX p inp L k) (hk:k+3000≤1000000):told (ia d p inp L s).2≤4000000:=by
 have h3:eM.size=2:=rfl;have h4:zx.size=3:=rfl;rw[ia];split
 ·have h1:=gW (oS s) eM;show (cD eM (aO s)).size+1+0≤_;omega
 ·have h0:=(mw s cR hk).2.1;have h1:=gW (n:=((jV (ak p) inp s L).2:Nat)) ⟨ad,ad⟩ zx;show (cD zx ((jV (ak p) inp s L).2:Nat)).size+1+0≤_;omega
theorem Ys (σ:PH) (gd:Nat) (d:nt) (acc:ByteArray) (k:Nat) (w:ByteArray) (n:List Int) (pn:Option Addr) (cn:Nat) (Γ:List HP) (hD:nX σ gd d acc k Γ) (hx:qm d.text) (hn:a7 σ (.slice pn n.length cn) n) (Fg:∀x∈n,aG x) (hT:py σ) (hE:kT σ) (hk:k+3000≤160000) (hb:acc.size+4000000≤1000000000):
 ah Tryz.prog 23 #[ptr gd,.string w,.slice pn n.length cn] σ Γ (aA fun v aj al=>σ.sub aj∧((v=.bool true∧told (iW d w n).2≤4000000∧nX aj gd (iW d w n).1 (dR acc (iW d w n).2) (k+Co w n) al)∨(v=.bool false∧iW d w n=(d,[jQ])∧nX aj gd d acc k al))):=by
 obtain⟨pt,ct,pi,ci,xv,cr,hi,lN,hL,rfl⟩:=hD;(have VG:n.length≤maxLen:=by obtain⟨p0,c0,e,h1,h2⟩:=hn.shape;omega);simp only[maxLen] at VG;have Yt:=Uw σ gd pt ct (.slice pi d.input.length ci) xv acc d hx.x hx.n hx.s hi lN hT hE ad;(have UM:=fun f hf=>Qx σ gd pt ct (.slice pi d.input.length ci) xv acc d f hf hx.x hx.n hx.s hi lN hT hE ad);refine lS Tryz.func23 ?_;refine bt ?_;refine az.join (List.take_append_drop 7 _).symm [(8,14)] (fun _:Unit=>[(14,.bool (decide (w=Eg∧(n.length:Int)=0)))]) (fun _ aj al=>σ=aj∧al=eF 49 gd [.slice pt d.text.length ct,.slice pi d.input.length ci,xv] acc::aS 9 1 (.slice pt d.text.length ct) d.text.length (d.text.map Value.string)::cr) ?_ ?_
 ·by_cases hw:w=Eg
  ·rw[show decide (w=Eg∧(n.length:Int)=0)=decide ((n.length:Int)=0) from by rw[decide_eq_decide];exact⟨And.right,fun h=>⟨hw,h⟩⟩];refine bS ?_;refine zO rfl (Rd.fE rfl rfl) ?_;refine bg ?_;refine⟨bQ,(),_,zM,?_,⟨rfl,rfl⟩⟩
   ·exact ar.refl _
  ·rw[show decide (w=Eg∧(n.length:Int)=0)=false from aE (fun h=>hw h.1)];refine bS ?_;refine zO rfl (Rd.fE rfl rfl) ?_;refine bg ?_;refine⟨bQ,(),_,zM,?_,⟨rfl,rfl⟩⟩
   ·exact ar.refl _
 rintro-δ _ _ ⟨rfl,rfl⟩;dsimp only[dq,List.foldl];refine cx ?_;by_cases h1:w=Eg∧(n.length:Int)=0
 ·(have hA:iW d w n=({d with text:=[]},[]):=by rw[iW,aq ⟨h1.1,ad⟩]);rw[hA];(first|refine XA.aW (R:=eF _ _ _ _) zL (eF.o) ?_|refine az.aW (R:=eF _ _ _ _) zL (eF.o) ?_|refine DA.aW (R:=eF _ _ _ _) zL (eF.o) ?_);rintro⟨u,q,cq⟩ hz;refine gX ?_;refine XA.aY rfl (by first|rfl|exact aM h1) ?_;refine eA ?_;exact ao.ret (aB.one rfl rfl) (ar.fold (S:=eF 49 gd [.slice none 0 0,.slice pi d.input.length ci,xv] acc) (Θ:=[_,_]) (ar.refl _) (fun m hm=>⟨u,q,cq,hz,hm⟩) (ar.dU (e:=9) (size:=1) ar.tail)) ⟨.refl _,.inl ⟨rfl,cg _,none,0,pi,ci,xv,cr,hi,lN,hL.le (Nat.le_add_right _ _),rfl⟩⟩
 refine XA.aI rfl (by first|rfl|exact aE h1) ?_;refine cx ?_;refine zO rfl (Rd.fE rfl rfl) ?_;refine cx ?_;by_cases h2:w=Gq
 ·(have hA:iW d w n=({d with input:=n},[]):=by rw[iW,ag (fun h=>h1 ⟨h.1,ad⟩),aq h2]);rw[hA];(first|refine XA.aW (R:=eF _ _ _ _) zL (eF.o) ?_|refine az.aW (R:=eF _ _ _ _) zL (eF.o) ?_|refine DA.aW (R:=eF _ _ _ _) zL (eF.o) ?_);rintro⟨u,q,cq⟩ hz;refine gX ?_;refine XA.aY rfl (by first|rfl|exact aM h2) ?_;refine dh ?_;exact ao.ret (aB.one rfl rfl) (ar.fold (S:=eF 49 gd [.slice pt d.text.length ct,.slice pn n.length cn,xv] acc) (Θ:=[_,_]) (ar.refl _) (fun m hm=>⟨u,q,cq,hz,hm⟩) (ar.refl _)) ⟨.refl _,.inl ⟨rfl,cg _,pt,ct,pn,cn,xv,cr,hn,Fg,hL.le (Nat.le_add_right _ _),rfl⟩⟩
 refine XA.aI rfl (by first|rfl|exact aE h2) ?_;refine aU ?_;refine az.join (List.take_append_drop 7 _).symm [(26,32)] (fun _:Unit=>[(32,.bool (decide (w=vS∧(n.length:Int)=0)))]) (fun _ aj al=>σ=aj∧al=eF 49 gd [.slice pt d.text.length ct,.slice pi d.input.length ci,xv] acc::aS 9 1 (.slice pt d.text.length ct) d.text.length (d.text.map Value.string)::cr) ?_ ?_
 ·by_cases hw:w=vS
  ·rw[show decide (w=vS∧(n.length:Int)=0)=decide ((n.length:Int)=0) from by rw[decide_eq_decide];exact⟨And.right,fun h=>⟨hw,h⟩⟩];refine bS ?_;refine zO rfl (Rd.fE rfl rfl) ?_;refine bg ?_;refine⟨bQ,(),_,zM,?_,⟨rfl,rfl⟩⟩
   ·exact ar.refl _
  ·rw[show decide (w=vS∧(n.length:Int)=0)=false from aE (fun h=>hw h.1)];refine bS ?_;refine zO rfl (Rd.fE rfl rfl) ?_;refine bg ?_;refine⟨bQ,(),_,zM,?_,⟨rfl,rfl⟩⟩
   ·exact ar.refl _
 rintro-δ _ _ ⟨rfl,rfl⟩;dsimp only[dq,List.foldl];refine cx ?_;by_cases h3:w=vS∧(n.length:Int)=0
 ·(have hA:iW d w n=iK d:=by rw[iW,ag (fun h=>h1 ⟨h.1,ad⟩),ag h2,aq ⟨h3.1,ad⟩]);rw[hA];refine XA.aY rfl (by first|rfl|exact aM h3) ?_;refine aU ?_;refine zw rfl (ax.cE (Yt) rfl) ?_;rintro _ cO _ ⟨_,⟨rfl,bz,VE,mY,rfl,UN⟩,rfl⟩;refine az.cl ?_;refine bt ?_;rcases UN with ⟨e,rfl,rfl⟩|⟨⟨p0,e⟩,hl⟩
  ·exact ao.ret (aB.one rfl rfl) (ar.refl _) ⟨bz,.inl ⟨rfl,AX d,by rw[e];exact⟨pt,ct,pi,ci,VE,cr,hi.mono bz,lN,(hL.mono bz).le (Nat.le_add_right _ _),rfl⟩⟩⟩
  ·exact ao.ret (aB.one rfl rfl) (ar.bB dm.head (ar.bB dm.head ar.left)) ⟨bz,.inl ⟨rfl,AX d,by rw[e] at hl⊢;exact⟨pt,ct,pi,ci,VE,mY,hi.mono bz,lN,hl.le (cg _),rfl⟩⟩⟩
 refine XA.aI rfl (by first|rfl|exact aE h3) ?_;refine aU ?_;refine az.join (List.take_append_drop 7 _).symm [(36,42)] (fun _:Unit=>[(42,.bool (decide (w=jR∧(n.length:Int)=1)))]) (fun _ aj al=>σ=aj∧al=eF 49 gd [.slice pt d.text.length ct,.slice pi d.input.length ci,xv] acc::aS 9 1 (.slice pt d.text.length ct) d.text.length (d.text.map Value.string)::cr) ?_ ?_
 ·by_cases hw:w=jR
  ·rw[show decide (w=jR∧(n.length:Int)=1)=decide ((n.length:Int)=1) from by rw[decide_eq_decide];exact⟨And.right,fun h=>⟨hw,h⟩⟩];refine bS ?_;refine zO rfl (Rd.fE rfl rfl) ?_;refine bg ?_;refine⟨bQ,(),_,zM,?_,⟨rfl,rfl⟩⟩
   ·exact ar.refl _
  ·rw[show decide (w=jR∧(n.length:Int)=1)=false from aE (fun h=>hw h.1)];refine bS ?_;refine zO rfl (Rd.fE rfl rfl) ?_;refine bg ?_;refine⟨bQ,(),_,zM,?_,⟨rfl,rfl⟩⟩
   ·exact ar.refl _
 rintro-δ _ _ ⟨rfl,rfl⟩;dsimp only[dq,List.foldl];refine cx ?_;by_cases h4:w=jR∧(n.length:Int)=1
 ·(have hA:iW d w n=(d,iL d (n.getD 0 0)):=by rw[iW,ag (fun h=>h1 ⟨h.1,ad⟩),ag h2,ag (fun h=>h3 ⟨h.1,ad⟩),aq ⟨h4.1,ad⟩]);obtain⟨x0,qW⟩:∃x,n[0]? =some x:=⟨_,b9 ad⟩;(have DJ:n.getD 0 0=x0:=by simp[List.getD,qW]);have R5:=Fg x0 (fg qW);obtain⟨AY,on,rfl,jN⟩:=hn.at qW;(have qn:cH σ AY on [i64 x0]:=by simpa using jN);rw[hA,DJ];refine XA.aY rfl (by first|rfl|exact aM h4) ?_;refine dc ?_;refine zw rfl (ax.cE (UM x0 R5) rfl) ?_;rintro _ cO _ ⟨_,⟨rfl,bz,Yu,rfl⟩,rfl⟩;refine az.cl ?_;refine bt ?_;exact ao.ret (aB.one rfl rfl) (ar.refl _) ⟨bz,.inl ⟨rfl,Nat.le_trans Yu au,pt,ct,pi,ci,xv,cr,hi.mono bz,lN,(hL.mono bz).le (Nat.le_add_right _ _),rfl⟩⟩
 (first|refine XA.aW (R:=eF _ _ _ _) zL (eF.o) ?_|refine az.aW (R:=eF _ _ _ _) zL (eF.o) ?_|refine DA.aW (R:=eF _ _ _ _) zL (eF.o) ?_);rintro⟨u,q,cq⟩ hz;refine gX ?_;refine XA.aI rfl (by first|rfl|exact aE h4) ?_;refine a8 ?_
 cases wC:d.ua with
 |none=>
  rw[wC] at hL;obtain⟨rfl,rfl⟩:=hL;(have hA:iW d w n=(d,[jQ]):=by rw[iW,ag (fun h=>h1 ⟨h.1,ad⟩),ag h2,ag (fun h=>h3 ⟨h.1,ad⟩),ag (fun h=>h4 ⟨h.1,ad⟩),wC]);refine zO rfl (Rd.DY (ae rfl) rfl rfl) ?_;refine bm ?_;exact ao.ret (aB.one rfl rfl) (ar.fold (S:=eF 49 gd [.slice pt d.text.length ct,.slice pi d.input.length ci,.pointer none] acc) (Θ:=[_,_]) (ar.refl _) (fun m hm=>⟨u,q,cq,hz,hm⟩) (ar.refl _)) ⟨.refl _,.inr ⟨rfl,hA,pt,ct,pi,ci,_,[],hi,lN,by rw[wC];exact⟨rfl,rfl⟩,rfl⟩⟩
 |some lf=>
  obtain⟨p,inp,L⟩:=lf;have Ea:=hL;rw[wC] at hL;obtain⟨gx,db,pb,pc,cc,gn,rfl,hc,QC,AL,cR,zQ,OL,j3,j5⟩:=hL;(have hA:iW d w n=ib d p inp L w n:=by rw[iW,ag (fun h=>h1 ⟨h.1,ad⟩),ag h2,ag (fun h=>h3 ⟨h.1,ad⟩),ag (fun h=>h4 ⟨h.1,ad⟩),wC]);rw[hA];refine zO rfl (Rd.DY (ae rfl) rfl rfl) ?_;refine a8 ?_;refine az.eX (ar.fold (S:=eF 49 gd [.slice pt d.text.length ct,.slice pi d.input.length ci,(ptr gx)] acc) (Θ:=[aw gd (oR u gd::.slice q acc.size cq::[.slice pt d.text.length ct,.slice pi d.input.length ci,(ptr gx)]) 49,aS 5 1 (.slice q acc.size cq) acc.size (Lib.strCells acc)]) zD (fun m hm=>⟨u,q,cq,hz,hm⟩) (ar.refl _)) ?_;refine az.join (List.take_append_drop 7 _).symm [(55,61)] (fun _:Unit=>[(61,.bool (decide (w=rl∧(n.length:Int)=1)))]) (fun _ aj al=>σ=aj∧al=eF 49 gd [.slice pt d.text.length ct,.slice pi d.input.length ci,(ptr gx)] acc::aS 9 1 (.slice pt d.text.length ct) d.text.length (d.text.map Value.string)::cr) ?_ ?_
  ·by_cases hw:w=rl
   ·rw[show decide (w=rl∧(n.length:Int)=1)=decide ((n.length:Int)=1) from by rw[decide_eq_decide];exact⟨And.right,fun h=>⟨hw,h⟩⟩];refine bS ?_;refine zO rfl (Rd.fE rfl rfl) ?_;refine bg ?_;refine⟨bQ,(),_,zM,?_,⟨rfl,rfl⟩⟩
    ·exact ar.refl _
   ·rw[show decide (w=rl∧(n.length:Int)=1)=false from aE (fun h=>hw h.1)];refine bS ?_;refine zO rfl (Rd.fE rfl rfl) ?_;refine bg ?_;refine⟨bQ,(),_,zM,?_,⟨rfl,rfl⟩⟩
    ·exact ar.refl _
  rintro-δ _ _ ⟨rfl,rfl⟩;dsimp only[dq,List.foldl];refine cx ?_;by_cases h5:w=rl∧(n.length:Int)=1
  ·obtain⟨x0,qW⟩:∃x,n[0]? =some x:=⟨_,b9 ad⟩;(have DJ:n.getD 0 0=x0:=by simp[List.getD,qW]);have R5:=Fg x0 (fg qW);obtain⟨AY,on,rfl,jN⟩:=hn.at qW;(have qn:cH σ AY on [i64 x0]:=by simpa using jN);(have rf:ib d p inp L w n=ia d p inp L ⟨1,x0,0,0⟩:=by rw[ib,aq ⟨h5.1,ad⟩,DJ]);rw[rf,km d p inp L _ wC];have qs:=Gy σ gd (.slice pt d.text.length ct) (.slice pi d.input.length ci) acc d p inp L k ⟨1,x0,0,0⟩ gx db pb pc cc gn cr (by show (0:Int)<9223372036854775808;decide) (Int.le_refl _) (by show (0:Int)<18446744073709551616;decide) hc QC cR ad AL hT ad;obtain⟨g9,mb9,sb9,dd9,ss9,pi9,ci9,pj9,cj9,hQ9,UO,hG9,hi9,hj9,rfl⟩:=QC;refine XA.aY rfl (by first|rfl|exact aM h5) ?_;refine a8 ?_;refine zw rfl (ax.cE (qs) rfl) ?_;rintro _ cO _ ⟨_,⟨rfl,bz,KH,mY,NI,kN,rfl⟩,rfl⟩;refine az.cl ?_;have wz:=kN;obtain⟨g8,mb8,sb8,dd8,ss8,pi8,ci8,pj8,cj8,hQ8,UP,hG8,hi8,hj8,rfl⟩:=wz;(try dsimp only[List.append,List.cons_append,List.nil_append]);refine bt ?_;refine ao.ret (aB.one rfl rfl) ?_ ⟨bz,.inl ⟨rfl,vq d _ cR ad,pt,ct,pi,ci,ptr gx,_,hi.mono bz,lN,vp _ (hc.mono bz (fun _ _ h=>h)) kN NI cR ad zQ OL j3 j5 (by rw[Co,aq ⟨.inl h5.1,ad⟩];exact(mw _ cR ad).2.1),rfl⟩⟩;exact zE
  refine XA.aI rfl (by first|rfl|exact aE h5) ?_;refine aU ?_;refine az.join (List.take_append_drop 7 _).symm [(69,75)] (fun _:Unit=>[(75,.bool (decide (w=qi∧(n.length:Int)=1)))]) (fun _ aj al=>σ=aj∧al=eF 49 gd [.slice pt d.text.length ct,.slice pi d.input.length ci,(ptr gx)] acc::aS 9 1 (.slice pt d.text.length ct) d.text.length (d.text.map Value.string)::cr) ?_ ?_
  ·by_cases hw:w=qi
   ·rw[show decide (w=qi∧(n.length:Int)=1)=decide ((n.length:Int)=1) from by rw[decide_eq_decide];exact⟨And.right,fun h=>⟨hw,h⟩⟩];refine bS ?_;refine zO rfl (Rd.fE rfl rfl) ?_;refine bg ?_;refine⟨bQ,(),_,zM,?_,⟨rfl,rfl⟩⟩
    ·exact ar.refl _
   ·rw[show decide (w=qi∧(n.length:Int)=1)=false from aE (fun h=>hw h.1)];refine bS ?_;refine zO rfl (Rd.fE rfl rfl) ?_;refine bg ?_;refine⟨bQ,(),_,zM,?_,⟨rfl,rfl⟩⟩
    ·exact ar.refl _
  rintro-δ _ _ ⟨rfl,rfl⟩;dsimp only[dq,List.foldl];refine cx ?_;by_cases h6:w=qi∧(n.length:Int)=1
  ·obtain⟨x0,qW⟩:∃x,n[0]? =some x:=⟨_,b9 ad⟩;(have DJ:n.getD 0 0=x0:=by simp[List.getD,qW]);have R5:=Fg x0 (fg qW);obtain⟨AY,on,rfl,jN⟩:=hn.at qW;(have qn:cH σ AY on [i64 x0]:=by simpa using jN);(have rf:ib d p inp L w n=ia d p inp L ⟨2,0,0,j7 x0⟩:=by rw[ib,ag (fun h=>h5 ⟨h.1,ad⟩),aq ⟨h6.1,ad⟩,DJ]);rw[rf,km d p inp L _ wC];have qs:=Gy σ gd (.slice pt d.text.length ct) (.slice pi d.input.length ci) acc d p inp L k ⟨2,0,0,j7 x0⟩ gx db pb pc cc gn cr (by show (0:Int)<9223372036854775808;decide) (wQ _) (wR _) hc QC cR ad AL hT ad;obtain⟨g9,mb9,sb9,dd9,ss9,pi9,ci9,pj9,cj9,hQ9,UO,hG9,hi9,hj9,rfl⟩:=QC;refine XA.aY rfl (by first|rfl|exact aM h6) ?_;refine bg ?_;refine zw rfl (ax.cE (qs) rfl) ?_;rintro _ cO _ ⟨_,⟨rfl,bz,KH,mY,NI,kN,rfl⟩,rfl⟩;refine az.cl ?_;have wz:=kN;obtain⟨g8,mb8,sb8,dd8,ss8,pi8,ci8,pj8,cj8,hQ8,UP,hG8,hi8,hj8,rfl⟩:=wz;(try dsimp only[List.append,List.cons_append,List.nil_append]);refine bt ?_;refine ao.ret (aB.one rfl rfl) ?_ ⟨bz,.inl ⟨rfl,vq d _ cR ad,pt,ct,pi,ci,ptr gx,_,hi.mono bz,lN,vp _ (hc.mono bz (fun _ _ h=>h)) kN NI cR ad zQ OL j3 j5 ((mw (⟨2,0,0,j7 x0⟩:oP) cR ad).2.2.elim (fun h=>by rw[h];exact cg _) (fun h=>by have:((jV (ak p) inp ⟨2,0,0,j7 x0⟩ L).2:Int)≤0:=h;omega)),rfl⟩⟩;exact zE
  refine XA.aI rfl (by first|rfl|exact aE h6) ?_;refine aU ?_;refine az.join (List.take_append_drop 7 _).symm [(84,90)] (fun _:Unit=>[(90,.bool (decide (w=la∧(n.length:Int)=3)))]) (fun _ aj al=>σ=aj∧al=eF 49 gd [.slice pt d.text.length ct,.slice pi d.input.length ci,(ptr gx)] acc::aS 9 1 (.slice pt d.text.length ct) d.text.length (d.text.map Value.string)::cr) ?_ ?_
  ·by_cases hw:w=la
   ·rw[show decide (w=la∧(n.length:Int)=3)=decide ((n.length:Int)=3) from by rw[decide_eq_decide];exact⟨And.right,fun h=>⟨hw,h⟩⟩];refine bS ?_;refine zO rfl (Rd.fE rfl rfl) ?_;refine bg ?_;refine⟨bQ,(),_,zM,?_,⟨rfl,rfl⟩⟩
    ·exact ar.refl _
   ·rw[show decide (w=la∧(n.length:Int)=3)=false from aE (fun h=>hw h.1)];refine bS ?_;refine zO rfl (Rd.fE rfl rfl) ?_;refine bg ?_;refine⟨bQ,(),_,zM,?_,⟨rfl,rfl⟩⟩
    ·exact ar.refl _
  rintro-δ _ _ ⟨rfl,rfl⟩;dsimp only[dq,List.foldl];refine cx ?_;by_cases h7:w=la∧(n.length:Int)=3
  ·obtain⟨x0,qW⟩:∃x,n[0]? =some x:=⟨_,b9 ad⟩;(have DJ:n.getD 0 0=x0:=by simp[List.getD,qW]);have R5:=Fg x0 (fg qW);obtain⟨AY,on,rfl,jN⟩:=hn.at qW;(have qn:cH σ AY on [i64 x0]:=by simpa using jN);obtain⟨x1,rC⟩:∃x,n[1]? =some x:=⟨_,b9 ad⟩;(have DK:n.getD 1 0=x1:=by simp[List.getD,rC]);have hI1:=Fg x1 (fg rC);obtain⟨acU,on1,sA,Ih⟩:=hn.at rC;simp only[Option.some.injEq,Addr.mk.injEq,and_true] at sA;obtain⟨rfl,rfl⟩:=sA;(have UQ:cH σ AY (on+1) [i64 x1]:=by simpa using Ih);obtain⟨x2,PZ⟩:∃x,n[2]? =some x:=⟨_,b9 ad⟩;(have KI:n.getD 2 0=x2:=by simp[List.getD,PZ]);obtain⟨acV,on2,rI,DW⟩:=hn.at PZ;simp only[Option.some.injEq,Addr.mk.injEq,and_true] at rI;obtain⟨rfl,rfl⟩:=rI;(have UR:cH σ AY (on+2) [i64 x2]:=by simpa using DW);(have rf:ib d p inp L w n=ia d p inp L ⟨3,x0,x1,j7 x2⟩:=by rw[ib,ag (fun h=>h5 ⟨h.1,ad⟩),ag (fun h=>h6 ⟨h.1,ad⟩),aq ⟨h7.1,ad⟩,DJ,DK,KI]);rw[rf,km d p inp L _ wC];have qs:=Gy σ gd (.slice pt d.text.length ct) (.slice pi d.input.length ci) acc d p inp L k ⟨3,x0,x1,j7 x2⟩ gx db pb pc cc gn cr (by have:=hI1.2;show x1<_;omega) (wQ _) (wR _) hc QC cR ad AL hT ad;obtain⟨g9,mb9,sb9,dd9,ss9,pi9,ci9,pj9,cj9,hQ9,UO,hG9,hi9,hj9,rfl⟩:=QC;refine XA.aY rfl (by first|rfl|exact aM h7) ?_;refine et 13 1083321 [12] (ar.nil _) ?_;refine bm ?_;refine aP.b7 rfl rfl Gd.free aC (ax.cE (qs) rfl) ?_;rintro _ cO _ ⟨_,⟨rfl,bz,KH,mY,NI,kN,rfl⟩,rfl⟩;refine aP.cl ?_;have wz:=kN;obtain⟨g8,mb8,sb8,dd8,ss8,pi8,ci8,pj8,cj8,hQ8,UP,hG8,hi8,hj8,rfl⟩:=wz;(try dsimp only[List.append,List.cons_append,List.nil_append]);refine bt ?_;refine ao.ret (aB.one rfl rfl) ?_ ⟨bz,.inl ⟨rfl,vq d _ cR ad,pt,ct,pi,ci,ptr gx,_,hi.mono bz,lN,vp _ (hc.mono bz (fun _ _ h=>h)) kN NI cR ad zQ OL j3 j5 (by rw[Co,aq ⟨.inr h7.1,ad⟩];exact(mw _ cR ad).2.1),rfl⟩⟩;exact zE
  refine XA.aI rfl (by first|rfl|exact aE h7) ?_;refine aU ?_;refine az.join (List.take_append_drop 7 _).symm [(105,111)] (fun _:Unit=>[(111,.bool (decide (w=Eh∧(n.length:Int)=0)))]) (fun _ aj al=>σ=aj∧al=eF 49 gd [.slice pt d.text.length ct,.slice pi d.input.length ci,(ptr gx)] acc::aS 9 1 (.slice pt d.text.length ct) d.text.length (d.text.map Value.string)::cr) ?_ ?_
  ·by_cases hw:w=Eh
   ·rw[show decide (w=Eh∧(n.length:Int)=0)=decide ((n.length:Int)=0) from by rw[decide_eq_decide];exact⟨And.right,fun h=>⟨hw,h⟩⟩];refine bS ?_;refine zO rfl (Rd.fE rfl rfl) ?_;refine bg ?_;refine⟨bQ,(),_,zM,?_,⟨rfl,rfl⟩⟩
    ·exact ar.refl _
   ·rw[show decide (w=Eh∧(n.length:Int)=0)=false from aE (fun h=>hw h.1)];refine bS ?_;refine zO rfl (Rd.fE rfl rfl) ?_;refine bg ?_;refine⟨bQ,(),_,zM,?_,⟨rfl,rfl⟩⟩
    ·exact ar.refl _
  rintro-δ _ _ ⟨rfl,rfl⟩;dsimp only[dq,List.foldl];refine cx ?_;by_cases h8:w=Eh∧(n.length:Int)=0
  ·(have rf:ib d p inp L w n=(d,jr (qg L.b) L.b.out L.b.m.cells):=by rw[ib,ag (fun h=>h5 ⟨h.1,ad⟩),ag (fun h=>h6 ⟨h.1,ad⟩),ag (fun h=>h7 ⟨h.1,ad⟩),aq ⟨h8.1,ad⟩]);rw[rf];have acW:=Up σ gx db pb pc cc (sizes p.vars).toNat p inp L gn k cr QC cR ad cR.iJ.cells.symm;have ahR:=QC;(have hcz:L.b.m.cells.length≤48:=by rw[cR.iJ.cells];have:=(dw cR.iJ.ch).2.2.2;omega);have Gb:=cR.iJ.ol;obtain⟨g9,mb9,sb9,dd9,ss9,pi9,ci9,pj9,cj9,hQ9,UO,hG9,hi9,hj9,rfl⟩:=QC;(first|refine XA.aW (R:=eF _ _ _ _) zL (eF.o) ?_|refine az.aW (R:=eF _ _ _ _) zL (eF.o) ?_|refine DA.aW (R:=eF _ _ _ _) zL (eF.o) ?_);rintro⟨u,q,cq⟩ hz;refine gX ?_;refine XA.aY rfl (by first|rfl|exact aM h8) ?_;refine a8 ?_;refine zw rfl (ax.cE (acW) rfl) ?_;rintro _ cO _ ⟨_,⟨po,co,pv,cv,rfl,hvo,ZM,bz,kN⟩,rfl⟩;refine az.cl ?_;have wz:=kN;obtain⟨g8,mb8,sb8,dd8,ss8,pi8,ci8,pj8,cj8,hQ8,UP,hG8,hi8,hj8,rfl⟩:=wz;(try dsimp only[List.append,List.cons_append,List.nil_append]);refine az.eX (ar.fold (S:=eF 49 gd [.slice pt d.text.length ct,.slice pi d.input.length ci,(ptr gx)] acc) (Θ:=[aw gd (oR u gd::.slice q acc.size cq::[.slice pt d.text.length ct,.slice pi d.input.length ci,(ptr gx)]) 49,aS 5 1 (.slice q acc.size cq) acc.size (Lib.strCells acc)]) zD (fun m hm=>⟨u,q,cq,hz,hm⟩) (ar.refl _)) ?_;refine zw rfl (ax.cE (Em cO gd _ _ _ acc (qg L.b) _ _ L.b.out L.b.m.cells (Cp _) hvo ZM (hT.mono bz) zQ.out zQ.m.2 ad ad ad) rfl) ?_;rintro _ cL _ ⟨_,⟨rfl,bT,rfl⟩,rfl⟩;refine az.cl ?_;refine bt ?_;refine ao.ret (aB.one rfl rfl) ?_ ⟨bz.trans bT,.inl ⟨rfl,(by have:=vW (Cp L.b) zQ.out zQ.m.2;show told (jr (qg L.b) L.b.out L.b.m.cells)≤_;omega),pt,ct,pi,ci,ptr gx,_,hi.mono (bz.trans bT),lN,by rw[wC];exact⟨gx,db,pb,pc,cc,gn,rfl,hc.mono (bz.trans bT) (fun _ _ h=>h),kN.mono bT,ad,cR.le (Nat.le_add_right _ _),zQ,OL,j3,j5⟩,rfl⟩⟩;exact zE
  ·(have rf:ib d p inp L w n=(d,[jQ]):=by rw[ib,ag (fun h=>h5 ⟨h.1,ad⟩),ag (fun h=>h6 ⟨h.1,ad⟩),ag (fun h=>h7 ⟨h.1,ad⟩),ag (fun h=>h8 ⟨h.1,ad⟩)]);refine XA.aI rfl (by first|rfl|exact aE h8) ?_;refine bJ ?_;exact ao.ret (aB.one rfl rfl) (ar.refl _) ⟨.refl _,.inr ⟨rfl,rf,pt,ct,pi,ci,_,cr,hi,lN,Ea,rfl⟩⟩
theorem X.Rd.R6 {P:Program} {ρ:Env} {S:Heap→Prop} {ty:TypeId} {T:TypeId} {x y:Operand} {r:Ty} {s t:ByteArray} {i:Int} (hT:aX P T=some r) (hk:r.k=.string) (hx:ev ρ x=.string s) (hy:ev ρ y=i64 i) (h:0≤i∧i≤s.size) (ht:s.extract i.toNat s.size=t):Rd P ρ S (.slice T x (some y) none none) ty (.string t):=by
 subst ht;(refine .pure fun d pos af gd w=>?_);obtain⟨dd,ii,zz,e1,e2,-⟩:=aF hT;rw[hk] at e2;(cases dd<;>simp[kindOf] at e2);have:=run_slice_string_from_if (P:=P) w T s .i64 i e1;rw[aq h] at this;have h2:=run_sliceAt_string (P:=P) w T (.string s) (some (i64 i)) none none e1;rw[this] at h2;simp[execOp,hx,hy,h2]
theorem NJ {α:Type} {R:RT α} {σ:PH} {p:Option Addr} {c:Nat} {t:α} {r:List α} (h:bV 1 R σ (.slice p (t::r).length c) (t::r)):bV 1 R σ (.slice (if c=1 then p else p.map (·.add (1*1))) ((t::r).length-1) (c-1)) r:=by
 obtain⟨p',c',rows,h1,h2,h3,h4,h5,h6,h7⟩:=h;simp only[Value.slice.injEq] at h1;obtain⟨rfl,-,rfl⟩:=h1;obtain⟨g,o,rfl,hr⟩:=h7 aZ
 match rows,h4 with
 |row::rows,h4=>
  have hl:=h5 row aZ;simp only[bF] at h2 h4;refine⟨_,_,rows,by rw[bF,Nat.add_sub_cancel],ad,ad,ad,fun q hq=>h5 q (by simp[hq]),fun i q x a b=>h6 (i+1) q x (by simpa using a) (by simpa using b),fun hp=>?_⟩;refine⟨g,o+1,by rw[ag ad,Option.map_some,addr_add],?_⟩;refine hr.sub (j:=1) ?_;rw[List.flatten_cons,←hl,List.drop_left,List.take_of_length_le (bX _)]
theorem QD {g n c:Nat} {e:TypeId} {cells xs:List Value} (hl:cells.length=c) (hn:n≤c) (hc:c≤maxLen) (ht:cells.take n=xs):∀m,aw g cells e m→aS e 1 (.slice (some ⟨g,0,none⟩) n c) n xs m:=fun m h=>⟨by rw[←ht,List.length_take];omega,.inr ⟨g,c,rfl,cells,h,hn,hc,ad,by rw[Nat.mul_one];exact ht⟩⟩
theorem ar.US {Γ:List HP}:ar Γ (Γ++[]):=by rw[List.append_nil];exact ar.refl _
theorem nX.mono {σ aj:PH} {gd:Nat} {d:nt} {acc:ByteArray} {k:Nat} {Γ:List HP} (h:nX σ gd d acc k Γ) (hs:σ.sub aj):nX aj gd d acc k Γ:=by
 obtain⟨pt,ct,pi,ci,xv,cr,a,b,c,d⟩:=h;exact⟨pt,ct,pi,ci,xv,cr,a.mono hs,b,c.mono hs,d⟩
theorem nX.le {σ:PH} {gd:Nat} {d:nt} {acc:ByteArray} {k l:Nat} {Γ:List HP} (h:nX σ gd d acc k Γ) (hs:k≤l):nX σ gd d acc l Γ:=by
 obtain⟨pt,ct,pi,ci,xv,cr,a,b,c,d⟩:=h;exact⟨pt,ct,pi,ci,xv,cr,a,b,c.le hs,d⟩
theorem NK {l:List UInt8}:∀{w:List UInt8} {x:ByteArray},x∈fN l w→x.size≤w.length+l.length:=by
 induction l with
 |nil=>
  intro w x h;rw[fN] at h;split at h
  ·cases h
  ·rw[List.mem_singleton] at h;subst h;exact bX _
 |cons c r ih=>
  intro w x h;rw[fN] at h;split at h
  ·split at h
   ·have:=ih h;simp only[List.length_nil,bF] at this⊢;omega
   ·rcases List.mem_cons.1 h with rfl|h
    ·show w.length≤_;omega
    ·have:=ih h;simp only[List.length_nil,bF] at this⊢;omega
  ·have:=ih h;simp only[bq,bF,List.length_nil] at this⊢;omega
theorem GG {l:List UInt8}:∀{w:List UInt8},(fN l w).length≤l.length+1:=by
 induction l with
 |nil=>intro w;rw[fN];split<;>simp
 |cons c r ih=>
  intro w;rw[fN];split
  ·split
   ·have:=ih (w:=[]);simp only[bF] at this⊢;omega
   ·have:=ih (w:=[]);simp only[bF] at this⊢;omega
  ·have:=ih (w:=w++[c]);simp only[bF] at this⊢;omega
theorem yL {s x:ByteArray} (h:x∈gq s):x.size≤s.size:=by
 have:=NK h
 rwa [List.length_nil,Nat.zero_add,Array.length_toList] at this
theorem AZ (s:ByteArray):(gq s).length≤s.size+1:=by
 have:=GG (l:=s.data.toList) (w:=[])
 rwa [Array.length_toList] at this
theorem UT (σ:PH) (gd:Nat) (d:nt) (acc:ByteArray) (k:Nat) (s:ByteArray) (Γ:List HP) (hD:nX σ gd d acc k Γ) (hx:qm d.text) (hs:s.size≤1000000) (hT:py σ) (hE:kT σ) (hk:k+3000≤160000) (hb:acc.size+4000000≤1000000000):
 ah Tryz.prog 14 #[ptr gd,.string s] σ Γ (aA fun v aj al=>v=.tuple #[]∧σ.sub aj∧told (fK d s).2≤4000000∧nX aj gd (fK d s).1 (dR acc (fK d s).2) (k+nY s) al):=by
 by_cases h1:0<s.size∧aJ s 0=124
 ·(have hA:fK d s=({d with text:=d.text++[s.extract 1 s.size]},[]):=by rw[fK,aq h1]);rw[hA];obtain⟨pt,ct,pi,ci,xv,cr,hi,lN,hL,rfl⟩:=hD;have Rb:=hx.n;have h0:=h1.1;(have Yp:((s.size:Nat):Int)>0:=by omega);(have UU:((aJ s 0:Nat):Int)=124:=by rw[h1.2];rfl);refine cw Tryz.func14 ?_;refine bJ ?_;(first|(refine zG ?_;refine zO rfl (Rd.bh (ae rfl) rfl rfl rfl gD) ?_)|refine zH ?_);refine bY ?_;(first|refine XA.aW (R:=eF _ _ _ _) zL (eF.o) ?_|refine az.aW (R:=eF _ _ _ _) zL (eF.o) ?_|refine DA.aW (R:=eF _ _ _ _) zL (eF.o) ?_);rintro⟨u,q,cq⟩ hz;refine gX ?_;refine XA.aY rfl (by first|rfl|exact aM UU) ?_;refine bS ?_;refine et 12 371871 [8,11] (ar.bB (R:=aw gd _ _) zL (ar.nil _)) ?_;refine a8 ?_;refine zu rfl rfl (X.Rd.R6 (ae rfl) rfl rfl rfl ⟨au,ad⟩ rfl) ?_;refine aP.fw rfl rfl Gd.free (ax.jY (ae rfl) rfl (ae rfl)) ?_;rintro _ _ _ ⟨g22,rfl,rfl,rfl⟩;refine stays ?_;refine aP.b7 rfl rfl Gd.free aC (ax.kM (ae rfl) rfl (ae rfl) rfl rfl rfl) ?_;rintro _ _ _ ⟨p23,c23,rfl,rfl,rfl⟩;refine aU ?_;refine kS rfl (ax.st (ae rfl) rfl) ?_;refine bY ?_;(have hlen:(d.text++[s.extract 1 s.size]).length=d.text.length+1:=by simp);(have UW:(d.text++[s.extract 1 s.size]).map Value.string=d.text.map Value.string++[.string (s.extract 1 s.size)]:=by simp);refine ao.ret (al:=eF 49 gd [.slice p23 (d.text.length+1) c23,.slice pi d.input.length ci,xv] acc::aS 9 1 (.slice p23 (d.text.length+1) c23) (d.text.length+1) (d.text.map Value.string++[.string (s.extract 1 s.size)])::cr) (aB.none rfl) ?_ ⟨rfl,.refl _,cg _,p23,c23,pi,ci,xv,cr,hi,lN,hL.le (Nat.le_add_right _ _),by simp only[hlen,UW];rfl⟩;exact ar.fold (Θ:=[aw gd _ 49,aS 5 1 _ _ _]) zD (fun m hm=>⟨u,q,cq,hz,hm⟩) (ar.refl _)
 ·have zf:(kX s).length≤200000000:=by
   rw[sq];have:=Lib.countB_le ⟨#[32]⟩ au s.size s (bX _);omega
  (have Yv:=fun g=>Qy σ g (kX s) zf);rw[show ur (kX s)=gq s from Ef s] at Yv;have Yw:=AZ s;(have h1':¬(((aJ s 0:Nat):Int)=124∧((s.size:Nat):Int)>0):=fun h=>h1 ⟨ad,ad⟩);refine cw Tryz.func14 ?_;refine cx ?_;refine az.join (List.take_append_drop 8 _).symm [(7,14)] (fun _:Unit=>[(14,.bool (decide (((aJ s 0:Nat):Int)=124∧((s.size:Nat):Int)>0)))]) (fun _ aj al=>σ=aj∧al=Γ) ?_ ?_
  ·by_cases h0:((s.size:Nat):Int)>0
   ·rw[show decide (((aJ s 0:Nat):Int)=124∧((s.size:Nat):Int)>0)=decide (((aJ s 0:Nat):Int)=124) from by rw[decide_eq_decide];exact⟨And.left,fun h=>⟨h,h0⟩⟩];refine dc ?_;(first|(refine zG ?_;refine zO rfl (Rd.bh (ae rfl) rfl rfl rfl gD) ?_)|refine zH ?_);refine bY ?_;refine⟨bQ,(),_,zM,?_,⟨rfl,rfl⟩⟩
    ·exact ar.refl _
   ·rw[show decide (((aJ s 0:Nat):Int)=124∧((s.size:Nat):Int)>0)=false from aE (fun h=>h0 h.2)];refine dc ?_;(first|(refine zG ?_;refine zO rfl (Rd.bh (ae rfl) rfl rfl rfl gD) ?_)|refine zH ?_);refine bY ?_;refine⟨bQ,(),_,zM,?_,⟨rfl,rfl⟩⟩
    ·exact ar.refl _
  rintro-δ _ _ ⟨rfl,rfl⟩;dsimp only[dq,List.foldl];refine aU ?_;refine XA.aI rfl (by first|rfl|exact aE h1') ?_;refine dc ?_;refine zw rfl (ax.cE (Qn σ s ad) rfl) ?_;rintro _ _ _ ⟨_,⟨g,rfl,rfl,rfl⟩,rfl⟩;refine az.cl ?_;refine zw rfl (ax.cE (Yv g) rfl) ?_;rintro _ _ _ ⟨_,⟨cells,rfl,tz,hc3,DG,rfl,rfl⟩,rfl⟩;refine az.cl ?_;refine az.eX (ar.imp dm.head (QD tz DG kB hc3) (ar.refl _)) ?_;refine az.mX (R:=aS 9 1 _ _ _) zL cm aH ?_;rintro cO ⟨⟩ hf bz;have uR:=ug (fun x hx=>by have:=yL hx;simp only[maxLen];omega) rfl hf;have hD1:=hD.mono bz;have oW:=hT.mono bz;have Cz:=hE.mono bz
  cases hW:gq s with
  |nil=>
   (have hA:fK d s=(d,[]):=by rw[fK,ag h1,hW]);rw[hA];refine cp ?_;refine XA.aY rfl (by first|rfl|exact aM (by rw[hW];rfl)) ?_;refine aU ?_;exact ao.ret (aB.none rfl) (ar.refl _) ⟨rfl,bz,cg _,hD1.le (Nat.le_add_right _ _)⟩
  |cons w r=>
   rw[hW] at uR Yw;obtain⟨gw,ow,Yx,e0,⟨rfl,-⟩,-,EC⟩:=uR.at (k:=0) (x:=w) rfl;simp only[Option.some.injEq,Addr.mk.injEq,and_true] at e0;obtain⟨rfl,rfl⟩:=e0;(have Cq:cH cO g 0 [.string w]:=by simpa using EC);have Yy:=NJ uR;(have ix:¬(((w::r).length:Nat):Int)=0:=by rw[bF];omega);have j3:(0:Int)≤0∧(0:Int)<(((w::r).length:Nat):Int):=⟨ad,G7⟩;rw[bF] at Yw;have s9:=Kg cO _ r Yy (fun x hx=>by have:=yL (s:=s) (x:=x) (by rw[hW];exact List.mem_cons_of_mem _ hx);omega) ad oW Cz;refine cp ?_;refine XA.aI rfl (by first|rfl|exact aE ix) ?_;refine dc ?_;refine zO rfl (Rd.uC (ae rfl) rfl (ae rfl) rfl rfl rfl G7) ?_;refine zw rfl (ax.cE (s9) rfl) ?_;rintro v cL _ ⟨_,⟨bT,rfl,UN⟩,rfl⟩;refine az.cl ?_;have Ow:=hD1.mono bT;have n8:=oW.mono bT;have xx:=Cz.mono bT;rcases UN with ⟨zc,rfl⟩|⟨n,pn,cn,ac0,Fg,VG,rfl,QE⟩
   ·(have hA:fK d s=(d,[jQ]):=by rw[fK,ag h1,hW];simp only;rw[zc]);rw[hA];obtain⟨pt,ct,pi,ci,xv,cr,hi,lN,hL,rfl⟩:=Ow;refine sT ?_;refine zw rfl (ax.jY (ae rfl) rfl (ae rfl)) ?_;rintro _ _ _ ⟨g50,rfl,rfl,rfl⟩;refine zw rfl (ax.cE (El cL gd _ _ _ acc _ jQ (by show acc.size+4+1≤_;omega)) rfl) ?_;rintro _ fZ _ ⟨_,⟨rfl,cQ,rfl⟩,rfl⟩;refine az.cl ?_;refine bS ?_;exact ao.normal (aB.none rfl) (ar.refl _) ⟨rfl,bz.trans (bT.trans cQ),(by show told [jQ]≤_;decide),pt,ct,pi,ci,xv,cr,hi.mono cQ,lN,(hL.mono cQ).le (Nat.le_add_right _ _),rfl⟩
   ·(have hA:fK d s=iW d w n:=by rw[fK,ag h1,hW];simp only;rw[ac0]);rw[hA];have UX:=Cq.mono bT
    have sC:Co w n≤nY s:=by
     rw[nY,hW,Co];simp only;split
     ·rename_i hq;rw[aq ⟨hq.1,ad⟩];exact bX _
     ·exact cg _
    refine dV ?_;refine zG ?_;refine zw rfl (ax.cE (Ys cL gd d acc k w n pn cn _ Ow hx QE Fg n8 xx hk hb) rfl ar.US) ?_;rintro v4 fZ _ ⟨UY,⟨cQ,ac1⟩,rfl⟩;refine az.eX C8 ?_;rcases ac1 with ⟨rfl,htl,Tg⟩|⟨rfl,rf,Tg⟩
    ·refine a8 ?_;exact ao.normal (aB.none rfl) (ar.refl _) ⟨rfl,bz.trans (bT.trans cQ),htl,Tg.le ad⟩
    ·rw[rf];obtain⟨pt,ct,pi,ci,xv,cr,hi,lN,hL,rfl⟩:=Tg;refine bg ?_;refine zw rfl (ax.jY (ae rfl) rfl (ae rfl)) ?_;rintro _ _ _ ⟨g50,rfl,rfl,rfl⟩;refine zw rfl (ax.cE (El fZ gd _ _ _ acc _ jQ (by show acc.size+4+1≤_;omega)) rfl) ?_;rintro _ qf _ ⟨_,⟨rfl,jU,rfl⟩,rfl⟩;refine az.cl ?_;refine bS ?_;exact ao.normal (aB.none rfl) (ar.refl _) ⟨rfl,bz.trans (bT.trans (cQ.trans jU)),(by show told [jQ]≤_;decide),pt,ct,pi,ci,xv,cr,hi.mono jU,lN,(hL.mono jU).le (Nat.le_add_right _ _),rfl⟩
def gN:List ByteArray→Nat
 |[]=>0
 |s::l=>nY s+gN l
def nZ:List ByteArray→Nat
 |[]=>0
 |s::l=>s.size+nZ l
def vr:List ByteArray→Nat
 |[]=>0
 |s::l=>s.size+1+vr l
theorem lO:∀(a b:List ByteArray),gN (a++b)=gN a+gN b
 |[],b=>by simp[gN]
 |s::a,b=>by rw[List.cons_append,gN,gN,lO a b];omega
theorem wS:∀(a b:List ByteArray),nZ (a++b)=nZ a+nZ b
 |[],b=>by simp[nZ]
 |s::a,b=>by rw[List.cons_append,nZ,nZ,wS a b];omega
theorem IP:∀(a b:List ByteArray),vr (a++b)=vr a+vr b
 |[],b=>by simp[vr]
 |s::a,b=>by rw[List.cons_append,vr,vr,IP a b];omega
theorem R7:∀{l:List ByteArray},∀x∈l,x.size≤vr l
 |[],x,h=>by cases h
 |s::l,x,h=>by
  rw[vr];rcases List.mem_cons.1 h with rfl|h
  ·omega
  ·have:=R7 x h;omega
theorem R8:∀(l:List ByteArray),l.length≤vr l
 |[]=>bX _
 |s::l=>by have:=R8 l;rw[vr,bF];omega
theorem Yz:∀(l:List ByteArray),(jW l).size≤vr l
 |[]=>bX _
 |s::l=>by
  have key:∀(r:List ByteArray) (t:ByteArray),(r.foldl (fun t y=>t++vR++y) t).size≤t.size+vr r:=by
   intro r
   induction r with
   |nil=>intro t;exact bX _
   |cons y r ih=>
    intro t;have:=ih (t++vR++y);rw[List.foldl_cons,vr];have e:vR.size=1:=rfl;simp only[jX] at this;omega
  have:=key l s;rw[vr];show (l.foldl (fun t y=>t++vR++y) s).size≤_;omega
theorem qm.of {l:List ByteArray} (h:vr l≤1000000):qm l:=⟨fun x hx=>by have:=R7 x hx;simp only[maxLen];omega,by have:=R8 l;omega,by have:=Yz l;omega⟩
theorem sv (d:nt) (p:Pr) (inp:List Int) (L:Li) (s:oP):(ia d p inp L s).1.text=d.text:=by
 rw[ia];split<;>rfl
theorem GH (d:nt):(iK d).1.text=d.text:=by
 rw[iK];split
 ·rfl
 ·split<;>rfl
theorem GI (d:nt) (p:Pr) (inp:List Int) (L:Li) (w:ByteArray) (n:List Int):(ib d p inp L w n).1.text=d.text:=by
 rw[ib];split
 ·exact sv ..
 split
 ·exact sv ..
 split
 ·exact sv ..
 split<;>rfl
theorem Kh (d:nt) (w:ByteArray) (n:List Int):(iW d w n).1.text=d.text∨(iW d w n).1.text=[]:=by
 rw[iW];split
 ·exact .inr rfl
 split
 ·exact .inl rfl
 split
 ·exact .inl (GH d)
 split
 ·exact .inl rfl
 split
 ·exact .inl rfl
 ·exact .inl (GI ..)
theorem GJ (d:nt) (s:ByteArray):vr (fK d s).1.text≤vr d.text+s.size:=by
 rw[fK];split
 ·rename_i h;show vr (d.text++[s.extract 1 s.size])≤_;rw[IP,vr,vr,ByteArray.size_extract];omega
 split
 ·exact Nat.le_add_right _ _
 split
 ·exact Nat.le_add_right _ _
 ·rename_i w r _ _ n _;rcases Kh d w n with h|h<;>rw[h]
  ·exact Nat.le_add_right _ _
  ·exact cg _
theorem mV:∀(l:List ByteArray) (d:nt),vr (dy d l).1.text≤vr d.text+nZ l
 |[],d=>bX _
 |s::l,d=>by
  have h1:=GJ d s;have h2:=mV l (fK d s).1;rw[dy,nZ];show vr (dy (fK d s).1 l).1.text≤_;omega
theorem ED:∀{l:List ByteArray},∀x∈l,x.size≤nZ l
 |[],x,h=>by cases h
 |s::l,x,h=>by
  rw[nZ];rcases List.mem_cons.1 h with rfl|h
  ·omega
  ·have:=ED x h;omega
theorem uj (l:List ByteArray) (i:Nat):nZ (l.take i)≤nZ l:=by
 have h:=congrArg nZ (List.take_append_drop i l);rw[wS] at h;omega
theorem oU (l:List ByteArray) (i:Nat):gN (l.take i)≤gN l:=by
 have h:=congrArg gN (List.take_append_drop i l);rw[lO] at h;omega
theorem qt (d:nt) (l:List ByteArray) (s:ByteArray):dy d (l++[s])=((fK (dy d l).1 s).1,(dy d l).2++(fK (dy d l).1 s).2):=by
 rw[yu];simp[dy]
theorem EE {ls:List ByteArray} {i:Nat} {s:ByteArray} (h:ls[i]? =some s) (hn:rF s=false):CK (i:Nat) (ls.drop i)=CK ((i+1:Nat):Int) (ls.drop (i+1)):=by
 rw[eC h,CK,ag (by rw[hn];decide)];rfl
theorem IQ {ls:List ByteArray} {i:Nat} {s:ByteArray} (h:ls[i]? =some s) (hn:rF s=true):CK (i:Nat) (ls.drop i)=(14,(i:Int)):=by
 rw[eC h,CK,aq hn]
end Go.Proofs.YtgeoiflbjcehcaaGreatDoor
