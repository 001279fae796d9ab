import Derived.Test.YtgeoiflbjcehcaaGreatDoorDd24
set_option maxHeartbeats 4000000
set_option maxRecDepth 2000
set_option linter.unusedVariables false
set_option linter.unusedSimpArgs false
namespace Go.Proofs.YtgeoiflbjcehcaaGreatDoor
open Go X
def vX (σ:PH) (gd:Nat) (d:nt) (k:Nat) (Γ:List HP):Prop:=∃q sl pt ct pi ci xv cr,a7 σ (.slice pi d.input.length ci) d.input∧(∀x∈d.input,aG x)∧rG σ xv d.ua k cr∧
 Γ=aw gd [q,sl,.slice pt d.text.length ct,.slice pi d.input.length ci,xv] 49::aS 9 1 (.slice pt d.text.length ct) d.text.length (d.text.map Value.string)::cr
theorem QF (σ:PH) (gd:Nat) (q sl v0 v1 v2:Value):ah Tryz.prog 13 #[ptr gd] σ [aw gd [q,sl,v0,v1,v2] 49] (aA fun v aj al=>v=.tuple #[]∧σ=aj∧al=[aw gd [.pointer none,.slice none 0 0,v0,v1,v2] 49]):=by
 refine cM Tryz.func13 ?_;refine eA ?_;exact iN rfl ⟨rfl,rfl,rfl⟩
theorem ar.back {Γ:List HP} {R:HP}:ar (R::Γ) (Γ++[R]):=fun m ⟨m1,m2,a,b,c,d,e⟩=>Sat.join b (show Sat [R] m1 from ⟨m1,PH.none,a,trivial,PH.ez _,.refl _,PH.gL _⟩) c.symm e d
theorem ar.front {Γ:List HP} {R:HP}:ar (Γ++[R]) (R::Γ):=fun m x=>by
 obtain⟨m1,m2,a,⟨n1,n2,b,-,-,s1,-⟩,c,d,e⟩:=Sat.append x;exact⟨n1,m1,b,a,(c.mono (.refl _) s1).symm,s1.trans e,d⟩
theorem dbl (σ:PH) (gd:Nat) (d:nt) (k:Nat) (ls:List ByteArray) (pl:Option Addr) (cl:Nat) (Γ:List HP) (hD:vX σ gd d k Γ) (hl:bV 1 pw σ (.slice pl ls.length cl) ls) (Oo:vr d.text+nZ ls≤1000000) (hT:py σ) (hE:kT σ) (hk:k+gN ls+3000≤160000):
 ah Tryz.prog 8 #[ptr gd,.slice pl ls.length cl] σ Γ (aA fun v aj al=>σ.sub aj∧((dj ls≠(0,0)∧v=.tuple #[.string ByteArray.empty,.agg #[i64 (dj ls).1,i64 (dj ls).2]]∧vX aj gd d k al)∨(dj ls=(0,0)∧(∀j,j≤ls.length→(dR ByteArray.empty (dy d (ls.take j)).2).size≤4000000*j)∧ls.length≤150∧v=.tuple #[.string (dR ByteArray.empty (dy d ls).2),.agg #[i64 0,i64 0]]∧vX aj gd (dy d ls).1 (k+gN ls) al))):=by
 obtain⟨p0,c0,e0,rh,UZ⟩:=hl.shape;cases e0;simp only[maxLen] at UZ;by_cases EF:150<ls.length
 ·(have hF:dj ls=(3,-1):=by rw[dj,aq EF]);(have GK:((ls.length:Nat):Int)>150:=by omega);rw[hF];obtain⟨q,sl,pt,ct,pi,ci,xv,cr,hi,lN,hL,rfl⟩:=hD;refine cw Tryz.func8 ?_;refine cx ?_;refine di (fun g5=>?_) (ae rfl);refine aR ?_;refine XA.aY rfl (by first|rfl|exact aM GK) ?_;refine bt ?_;exact ao.ret (X.aB.Ji rfl rfl rfl (Ld.bn (ae rfl) rfl zL rfl cK cJ)) ar.tail ⟨.refl _,.inl ⟨au,rfl,q,sl,pt,ct,pi,ci,xv,cr,hi,lN,hL,rfl⟩⟩
 ·(have GK:¬((ls.length:Nat):Int)>150:=by omega);obtain⟨q,sl,pt,ct,pi,ci,xv,cr,hi,lN,hL,rfl⟩:=hD;(have hF0:dj ls=CK 0 ls:=by rw[dj,ag EF]);rw[hF0];refine cw Tryz.func8 ?_;refine cx ?_;refine di (fun g5=>?_) (ae rfl);refine aR ?_;refine XA.aI rfl (by first|rfl|exact aE GK) ?_;(refine cp ?_;refine XA.gen [(0,_),(1,_),(4,_),(5,_),(14,_),(15,_),(16,_)] iX fun δ=>?_);dsimp only[List.foldl];refine XA.loop [(4,4),(6,7),(16,25)] (fun i:Nat=>[(16,i64 i)]) (fun i aj al=>σ=aj∧i≤ls.length∧CK 0 ls=CK (i:Nat) (ls.drop i)∧al=aw g5 [i64 0,i64 0] 34::aw gd [q,sl,.slice pt d.text.length ct,.slice pi d.input.length ci,xv] 49::aS 9 1 (.slice pt d.text.length ct) d.text.length (d.text.map Value.string)::cr) (fun i=>ls.length-i) 0 eb (Δ0:=_) ?_ (⟨rfl,cg _,rfl,rfl⟩) ?_
  ·exact ar.refl _
  rintro i δ _ _ ⟨rfl,OJ,bu,rfl⟩;dsimp only[dq,List.foldl];by_cases aV:i<ls.length
  ·obtain⟨s,hs⟩:∃s,ls[i]? =some s:=⟨_,b9 aV⟩;obtain⟨gs,os,row,rfl,⟨rfl,-⟩,-,bG⟩:=hl.at hs;rw[Nat.mul_one] at bG;refine a8 ?_;refine iQ ?_;refine dC ?_;refine yC (Ei σ s) ?_;refine aU ?_
   cases hn:rF s with
   |true=>
    rw[IQ hs hn] at bu;rw[bu];refine dh ?_;refine ao.ret (X.aB.Ji rfl rfl rfl (Ld.bn (ae rfl) rfl zL rfl cK cJ)) ar.tail ⟨.refl _,.inl ⟨(by intro h;cases h),rfl,q,sl,pt,ct,pi,ci,xv,cr,hi,lN,hL,rfl⟩⟩
   |false=>
    have gP:=EE hs hn;refine bt ?_;refine⟨bQ,i+1,_,zM,?_,⟨rfl,aV,bu.trans gP,rfl⟩,ad⟩
    ·exact ar.refl _
  ·have HR:ls.drop i=[]:=List.drop_of_length_le ad;rw[HR] at bu;have bu:CK 0 ls=(0,0):=bu;rw[bu];refine a8 ?_;refine ik ?_;refine aR ?_;refine yC (QF σ gd q sl _ _ _) ?_;refine az.eX (ar.fold (S:=eF 49 gd [.slice pt d.text.length ct,.slice pi d.input.length ci,xv] ByteArray.empty) (Θ:=[aw gd (oR false gd::.slice none 0 0::[.slice pt d.text.length ct,.slice pi d.input.length ci,xv]) 49,aS 5 1 (.slice none 0 0) 0 []]) (ar.take dm.head (ar.od (ar.all _))) (fun m hm=>⟨false,none,0,fun _=>⟨rfl,rfl⟩,hm⟩) (ar.refl _)) ?_;(refine cp ?_;refine XA.gen [(0,_),(4,_),(5,_),(30,_),(31,_),(32,_)] iX fun δ=>?_);dsimp only[List.foldl];refine XA.loop [(9,9),(32,39)] (fun i:Nat=>[(32,i64 i)]) (fun i aj al=>σ.sub aj∧i≤ls.length∧∃mY,nX aj gd (dy d (ls.take i)).1 (dR ByteArray.empty (dy d (ls.take i)).2) (k+gN (ls.take i)) mY∧(∀j,j≤i→(dR ByteArray.empty (dy d (ls.take j)).2).size≤4000000*j)∧al=aw g5 [i64 0,i64 0] 34::mY) (fun i=>ls.length-i) 0 eb (Δ0:=_) ?_ (⟨.refl _,cg _,_,⟨pt,ct,pi,ci,xv,cr,hi,lN,hL,rfl⟩,(fun j hj=>by obtain rfl:j=0:=Nat.le_zero.1 hj;exact bX _),rfl⟩) ?_
   ·exact ar.bB (dm.tail dm.head) (ar.refl _)
   rintro j Dc cL _ ⟨bT,hj,mY,hX,gO,rfl⟩;dsimp only[dq,List.foldl];by_cases uP:j<ls.length
   ·obtain⟨s,hs⟩:∃s,ls[j]? =some s:=⟨_,b9 uP⟩;obtain⟨gs,os,row,rfl,⟨rfl,-⟩,-,bG⟩:=(hl.mono bT (fun _ _ h=>h)).at hs;rw[Nat.mul_one] at bG;have tz:=oU ls j;have ac3:=gO j (bX _);have DG:=oU ls (j+1);rw[eV hs,lO,gN,gN] at DG;have WW:=mV (ls.take j) d;have ZH:=uj ls j;have VH:=ED s (fg hs);have Kt:=UT cL gd _ _ _ s mY hX (qm.of ad) ad (hT.mono bT) (hE.mono bT) ad ad;refine a8 ?_;refine iQ ?_;refine eA ?_;refine zw rfl (ax.cE Kt rfl ar.back) ?_;rintro _ fZ _ ⟨UY,⟨rfl,cQ,htl,hX3⟩,rfl⟩;refine az.eX ar.front ?_;refine bJ ?_;refine⟨bQ,j+1,_,zM,?_,⟨bT.trans cQ,uP,UY,(by rw[eV hs,qt,so,lO];show nX _ _ _ _ (k+(gN (ls.take j)+(nY s+0))) _;rw[Nat.add_zero,←Nat.add_assoc];exact hX3),(fun q hq=>(Nat.lt_or_ge q (j+1)).elim (fun h=>gO q ad) (fun h=>by rw[show q=j+1 by omega,eV hs,qt,so,vU];omega)),rfl⟩,ad⟩
    ·exact ar.refl _
   ·have DH:ls.take j=ls:=List.take_of_length_le ad;rw[DH] at hX;(obtain rfl:j=ls.length:=by omega);obtain⟨pt2,ct2,Qi,Qj,xv2,VI,vC,U0,rW,rfl⟩:=hX;refine a8 ?_;refine ik ?_;refine aR ?_;refine zw rfl (ax.cE (Nj cL 49 gd _ _) rfl) ?_;rintro _ _ _ ⟨_,⟨rfl,rfl,q2,sl2,rfl⟩,rfl⟩;refine az.cl ?_;refine a8 ?_;exact ao.ret (X.aB.Ji rfl rfl rfl (Ld.bn (ae rfl) rfl zL rfl cK cJ)) ar.tail ⟨bT,.inr ⟨rfl,gO,ad,rfl,q2,sl2,pt2,ct2,Qi,Qj,xv2,VI,vC,U0,rW,rfl⟩⟩
theorem qu (σ:PH) (n:Int) (hn:aG n) (hT:py σ):ah Tryz.prog 29 #[i64 n] σ [] (aA fun v aj al=>v=.string (cY n)∧σ=aj∧al=[]):=by
 refine cM Tryz.func29 ?_;refine bJ ?_;refine yC (Nk σ n hn.1 hn.2 hT) ?_;refine bY ?_;exact bC rfl rfl ⟨rfl,rfl,rfl⟩
theorem EG (σ:PH) (v:Value) (l:List Int) (h:a7 σ v l) (hT:py σ) (hl:∀x∈l,aG x) (hn:l.length≤1000000):
 ah Tryz.prog 53 #[v] σ [] (aA fun r aj al=>r=.string (dD l)∧σ=aj∧al=[]):=by
 obtain⟨p,c,rfl,h1,h2⟩:=h.shape;simp only[maxLen] at h2;(refine cM Tryz.func53 ?_;refine dV ?_;refine XA.gen [(0,_),(2,_),(3,_),(4,_)] iX fun δ=>?_);dsimp only[List.foldl];refine XA.loop [(3,18)] (fun x:Nat×ByteArray=>[(4,i64 x.1),(3,.string x.2)]) (fun x aj al=>σ=aj∧x.1≤l.length∧x.2=dD (l.take x.1)∧al=[]) (fun x=>l.length-x.1) (0,ByteArray.empty) mO (Δ0:=_) ?_ (⟨rfl,cg _,by simp[dD],rfl⟩) ?_
 ·exact zE
 rintro⟨i,s⟩ δ _ _ ⟨rfl,hi,hs,rfl⟩;dsimp only[dq,List.foldl];simp only at hi hs;by_cases aV:i<l.length
 ·obtain⟨n,Us⟩:∃n,l[i]? =some n:=⟨_,b9 aV⟩;obtain⟨g,o,rfl,bG⟩:=h.at Us;rw[Nat.mul_one] at bG;have cR:=hl n (fg Us);have hle:=eP cR;have gO:=qS l hl i;rw[←hs] at gO;(have e3:s++(wN++cY n)=dD (l.take (i+1)):=by rw[qk l i n Us,hs]);refine bt ?_;refine iQ ?_;refine aR ?_;refine yC (uJ σ n cR.1 cR.2 hT) ?_;refine zO rfl (X.Rd.fi rfl rfl (by show 1+(cY n).size≤_;omega)) ?_;refine zO rfl (X.Rd.fi rfl rfl (by show s.size+(wN++cY n).size≤_;rw[jX];have e:wN.size=1:=rfl;omega)) ?_;refine aR ?_;refine⟨bQ,(i+1,s++(wN++cY n)),_,zM,?_,⟨rfl,aV,e3,rfl⟩,ad⟩
  ·exact zE
 ·have e:l.take i=l:=List.take_of_length_le ad;rw[e] at hs;refine bt ?_;refine ik ?_;refine bm ?_;exact bC rfl rfl ⟨by rw[hs],rfl,rfl⟩
abbrev vY (g:Nat) (told:ByteArray) (v0 v1 v2:Value):HP:=aw g [.string told,v0,v1,v2] 31
theorem kn (σ:PH) (g:Nat) (told:ByteArray) (v0 v1 v2:Value) (s:ByteArray) (hb:told.size+s.size+1≤1000000000):
 ah Tryz.prog 26 #[ptr g,.string s] σ [vY g told v0 v1 v2] (aA fun v aj al=>v=.tuple #[]∧σ=aj∧al=[vY g (fq told s) v0 v1 v2]):=by
 refine cw Tryz.func26 ?_;refine a8 ?_;refine zO rfl (X.Rd.fi rfl rfl (by show s.size+1≤_;omega)) ?_;refine zO rfl (X.Rd.fi rfl rfl (by show told.size+(s++vR).size≤_;rw[jX];have e:vR.size=1:=rfl;omega)) ?_;refine bY ?_;exact iN rfl ⟨rfl,rfl,rfl⟩
theorem A0 (σ:PH) (g:Nat) (told:ByteArray) (v0 v1 v2:Value) (c:Int) (po pc:Option Addr) (no nc co cc:Nat) (out cells:List Int) (R1 R2:HP)
 (hO:ah Tryz.prog 53 #[.slice po no co] σ [R1] (aA fun r aj al=>r=.string (dD out)∧σ=aj∧al=[R1]))
 (hC:ah Tryz.prog 53 #[.slice pc nc cc] σ [R2] (aA fun r aj al=>r=.string (dD cells)∧σ=aj∧al=[R2]))
 (hc:aG c) (hT:py σ) (Qr:∀x∈out,aG x) (Ff:∀x∈cells,aG x) (hb:told.size+22*(out.length+cells.length)+400≤1000000000):
 ah Tryz.prog 32 #[ptr g,.agg #[i64 c,.slice po no co,.slice pc nc cc]] σ [vY g told v0 v1 v2,R1,R2] (aA fun v aj al=>v=.tuple #[]∧σ=aj∧al=[vY g (dR told (jr c out cells)) v0 v1 v2,R1,R2]):=by
 have hoz:=kj Qr;have hcz:=kj Ff;have hci:=eP hc;have e1:wN.size=1:=rfl;have e2:vR.size=1:=rfl;have e3:k8.size=4:=rfl;have e4:zv.size=3:=rfl;have e5:vg.size=5:=rfl;have z1:(fq told (cD k8 c)).size≤told.size+30:=by simp only[fq,cD,jX];omega
 have z2:(fq (fq told (cD k8 c)) (zv++dD out)).size≤told.size+40+22*out.length:=by
  rw[fq];simp only[jX];omega
 (have e6:(⟨#[99,111,100,101,32]⟩:ByteArray)++cY c=cD k8 c:=by rw[cD,←ByteArray.append_assoc];rfl);(refine cw Tryz.func32 ?_;refine aU ?_;refine cP fun g3=>?_;refine bg ?_;refine yC (qu σ c hc hT) ?_);refine zO rfl (X.Rd.fi rfl rfl (by show 5+(cY c).size≤_;omega)) ?_;rw[e6];refine yC (kn σ g told v0 v1 v2 (cD k8 c) (by simp only[cD,jX];omega)) ?_;refine bg ?_;refine yC (hO) ?_;refine zO rfl (X.Rd.fi rfl rfl (by show 3+(dD out).size≤_;omega)) ?_;refine yC (kn σ g (fq told (cD k8 c)) v0 v1 v2 (zv++dD out) G6) ?_;refine a8 ?_;refine yC (hC) ?_;refine zO rfl (X.Rd.fi rfl rfl (by show 5+(dD cells).size≤_;omega)) ?_;refine yC (kn σ g (fq (fq told (cD k8 c)) (zv++dD out)) v0 v1 v2 (vg++dD cells) G6) ?_;refine bS ?_;exact iN rfl ⟨rfl,rfl,rfl⟩
theorem Cr (σ:PH) (g:Nat) (told:ByteArray) (v0 v1:Value) (d:nt) (p:Pr) (inp:List Int) (L:Li) (k:Nat) (s:oP) (gb:Nat) (pc:Option Addr) (cc:Nat) (iv:Value) (Γ:List HP) (wm:0≤s.mask) (wE:s.mask<18446744073709551616)
 (hc:bV 4 tR σ (.slice pc (ak p).length cc) (ak p)) (hi:a7 σ iv inp) (hB:fR σ gb (.slice pc (ak p).length cc) iv L.b Γ) (cR:fX p inp L k) (hk:k+3000≤900000) (j5:L.b.kept.st=0) (hT:py σ) (hb:told.size+400≤1000000000):
 ah Tryz.prog 33 #[ptr g,.agg #[i64 s.kind,i64 s.n,i64 s.K,.int .u64 s.mask]] σ (vY g told v0 v1 (ptr gb)::Γ)
  (aA fun v aj al=>v=.tuple #[]∧σ.sub aj∧∃(cr:List HP),fR aj gb (.slice pc (ak p).length cc) iv (jV (ak p) inp s L).1.b cr∧al=vY g (dR told (ia d p inp L s).2) v0 v1 (ptr gb)::cr):=by
 have hn3:=(mw s cR ad).2.1;have Fg:aG ((jV (ak p) inp s L).2:Nat):=⟨ad,ad⟩;have OI:=oS s;have Rp:=EA σ s;(have ac8:aO s≠0→jV (ak p) inp s L=(L,0):=fun h=>by rw[jV,aq h]);(have MP:=fun hf=>acv σ gb pc cc iv p inp L k Γ s hf wm wE hc hi hB cR hk j5);have Yc:=hB;obtain⟨sp,sc,ql,cql,op,oc,k0,k1,k2,k3,k4',k5',KJ,rfl⟩:=hB;obtain⟨n,hn⟩:∃n,(jV (ak p) inp s L).2=n:=⟨_,rfl⟩;rw[hn] at MP hn3 Fg;obtain⟨kd,nn,K,m⟩:=s;simp only at Rp MP;have e1:wN.size=1:=rfl;(have en:(⟨#[110,111,32]⟩:ByteArray)++cY (aO ⟨kd,nn,K,m⟩)=cD eM (aO ⟨kd,nn,K,m⟩):=by rw[cD,←ByteArray.append_assoc];rfl);(have ed:(⟨#[100,105,100,32]⟩:ByteArray)++cY (n:Nat)=cD zx (n:Nat):=by rw[cD,←ByteArray.append_assoc];rfl);have Cu:=eP OI;have FE:=eP Fg;have e2:eM.size=2:=rfl;have e3:zx.size=3:=rfl;(refine cw Tryz.func33 ?_;refine aU ?_;refine cP fun g3=>?_;refine a8 ?_;refine yC (Rp) ?_;refine bt ?_);by_cases hf:aO ⟨kd,nn,K,m⟩=0
 ·(have hS:(ia d p inp L ⟨kd,nn,K,m⟩).2=[cD zx (n:Nat)]:=by rw[ia,ag (fun h=>h hf),←hn]);rw[hS];have MP:=MP hf;refine XA.aI rfl (by first|rfl|exact aE (fun h=>h hf)) ?_;refine aU ?_;refine et 10 45522 [6,7,9] (ar.bB (R:=vY g _ _ _ _) zL (ar.bB (R:=aw g3 _ _) zL (ar.nil _))) ?_;refine a8 ?_;refine aP.b7 rfl rfl Gd.free aC (ax.cE (MP) rfl) ?_;rintro _ cO _ ⟨cr,⟨rfl,bz,IL⟩,rfl⟩;refine aP.cl ?_;have ac9:=IL;obtain⟨Ip,Iq,ql2,ahT,D8,Ir,b0,b1,b2,b3,b4,b5,kP,rfl⟩:=IL;(try dsimp only[List.append,List.cons_append,List.nil_append]);have oW:=hT.mono bz;refine aP.b7 rfl rfl Gd.free aC (ax.cE (qu cO _ Fg oW) rfl) ?_;rintro _ _ _ ⟨_,⟨rfl,rfl,rfl⟩,rfl⟩;refine aP.cl ?_;refine zu rfl rfl (X.Rd.fi rfl rfl (by show 4+(cY (n:Nat)).size≤_;omega)) ?_;rw[ed];refine aP.b7 rfl rfl Gd.free aC (ax.cE (kn cO g told v0 v1 (ptr gb) (cD zx (n:Nat)) (by simp only[cD,jX];omega)) rfl) ?_;rintro _ _ _ ⟨_,⟨rfl,rfl,rfl⟩,rfl⟩;refine aP.cl ?_;refine bS ?_;exact iN rfl ⟨rfl,bz,_,ac9,rfl⟩
 ·(have hS:(ia d p inp L ⟨kd,nn,K,m⟩).2=[cD eM (aO ⟨kd,nn,K,m⟩)]:=by rw[ia,aq hf]);rw[hS,ac8 hf];refine XA.aY rfl (by first|rfl|exact aM hf) ?_;refine bY ?_;refine yC (qu σ _ OI hT) ?_;refine zO rfl (X.Rd.fi rfl rfl (by show 3+(cY (aO ⟨kd,nn,K,m⟩)).size≤_;omega)) ?_;rw[en];refine yC (kn σ g told v0 v1 (ptr gb) (cD eM (aO ⟨kd,nn,K,m⟩)) (by simp only[cD,jX];omega)) ?_;refine bY ?_;exact On rfl ⟨rfl,.refl _,_,Yc,rfl⟩
theorem NL (w:List UInt8) (s:ByteArray) {i:Nat} {c:UInt8} (hc:s.data.toList[i]? =some c):(⟨w.toArray⟩:ByteArray)++s.extract i (i+1)=⟨(w++[c]).toArray⟩:=by
 apply ByteArray.ext;apply Array.toList_inj.1;simp;rw[eC hc];rfl
theorem NM {l:List UInt8} {i:Nat} {c:UInt8} {w:List UInt8} (hc:l[i]? =some c) (h:c≠32):fN (l.drop i) w=fN (l.drop (i+1)) (w++[c]):=by
 rw[eC hc,fN,ag h]
theorem Ki {l:List UInt8} {i:Nat} {w:List UInt8} (hc:l[i]? =some 32):fN (l.drop i) w=(if w=[] then [] else [⟨w.toArray⟩])++fN (l.drop (i+1)) []:=by
 rw[eC hc,fN,aq rfl];split<;>simp
theorem yM {s:ByteArray} {i:Nat} {c:UInt8} (hc:s.data.toList[i]? =some c):aJ s i=c.toNat:=by
 obtain⟨hi,he⟩:=List.getElem?_eq_some_iff.1 hc;(have ZN:i<s.size:=by rw[Array.length_toList] at hi;exact hi);rw[aJ,dif_pos ZN,←he];rfl
theorem EH (σ:PH) (s:ByteArray) (hs:s.size≤100000000):
 ah Tryz.prog 11 #[.string s] σ [] (aA fun r aj al=>∃p c,r=.slice p (gq s).length c∧bV 1 pw aj (.slice p (gq s).length c) (gq s)∧σ.sub aj∧al=[]):=by
 have gO:s.data.toList.length=s.size:=Array.length_toList;obtain⟨l,hl⟩:∃l,s.data.toList=l:=⟨_,rfl⟩;(have hW:gq s=fN l []:=by rw[gq,hl]);rw[hl] at gO;(refine cM Tryz.func11 ?_;refine px ?_;refine XA.eX (ar.dU (e:=9) (size:=1) (ar.refl _)) ?_;refine XA.gen [(0,_),(2,_),(3,_),(4,_),(5,_)] iX fun δ=>?_);dsimp only[List.foldl];refine XA.loop [(3,34)] (fun x:(Nat×List UInt8)×(Nat×(Option Addr×Nat))=>[(5,i64 x.1.1),(4,.string ⟨x.1.2.toArray⟩),(3,.slice x.2.2.1 x.2.1 x.2.2.2)]) (fun x aj al=>σ=aj∧x.1.1≤s.size+1∧x.1.2.length≤x.1.1∧x.2.1≤x.1.1∧∃acc:List ByteArray,acc.length=x.2.1∧(∀y∈acc,y.size≤maxLen)∧(x.1.1≤s.size→gq s=acc++fN (l.drop x.1.1) x.1.2)∧(x.1.1=s.size+1→gq s=acc)∧al=[aS 9 1 (.slice x.2.2.1 x.2.1 x.2.2.2) x.2.1 (acc.map Value.string)]) (fun x=>s.size+1-x.1.1) ((0,[]),(0,(none,0))) (by exact⟨rfl,rfl,rfl,trivial⟩) (Δ0:=_) ?_ (⟨rfl,cg _,cg _,cg _,[],rfl,fun y hy=>(by cases hy),fun _=>hW,fun h=>(by simp at h),rfl⟩) ?_
 ·exact zE
 rintro⟨⟨i,w⟩,n,pl,cl⟩ δ _ _ ⟨rfl,hi,hw,hni,acc,dr,yG,h1,h2,rfl⟩;dsimp only[dq,List.foldl];simp only at hi hw hni dr h1 h2;by_cases hle:i≤s.size
 ·have h1:=h1 hle;by_cases aV:i<s.size
  ·obtain⟨c,hc⟩:∃c,l[i]? =some c:=⟨_,b9 ad⟩;have hb:=yM (s:=s) (i:=i) (c:=c) (by rw[hl];exact hc);by_cases h32:c=32
   ·subst h32;(have adb:((aJ s i:Nat):Int)=32:=by rw[hb];rfl);rw[Ki hc] at h1;refine bt ?_;refine iQ ?_;refine eA ?_;(first|(refine zG ?_;refine zO rfl (Rd.bh (ae rfl) rfl rfl rfl gD) ?_)|refine zH ?_);refine bY ?_;refine XA.aI rfl (by first|rfl|exact aE (fun h=>h adb)) ?_;refine a8 ?_;refine zO rfl (Rd.neqs rfl rfl) ?_;refine aU ?_;by_cases E9:w=[]
    ·(have hq:¬((⟨w.toArray⟩:ByteArray)≠⟨#[]⟩):=fun h=>h (by rw[E9]));rw[aq E9,List.nil_append] at h1;refine XA.aI rfl (by first|rfl|exact aE hq) ?_;refine dB ?_;refine⟨bQ,((i+1,[]),(n,(pl,cl))),_,zM,?_,⟨rfl,by show i+1≤s.size+1;omega,cg _,by show n≤i+1;omega,acc,dr,yG,fun _=>h1,fun h=>(by exfalso;have:i+1=s.size+1:=h;omega),rfl⟩,(by show s.size+1-(i+1)<s.size+1-i;omega)⟩
     ·exact zE
    ·(have hq:(⟨w.toArray⟩:ByteArray)≠⟨#[]⟩:=fun h=>E9 (by have:=congrArg (fun b:ByteArray=>b.data.toList) h;simpa using this));rw[ag E9,←List.append_assoc] at h1;have YA:(⟨w.toArray⟩:ByteArray).size=w.length:=by simp[ByteArray.size]
     have Gz:∀y∈acc++[(⟨w.toArray⟩:ByteArray)],y.size≤maxLen:=fun y hy=>by
      rcases List.mem_append.1 hy with hy|hy
      ·exact yG y hy
      ·rw[List.mem_singleton] at hy;subst hy;rw[YA];simp only[maxLen];omega
     (have um:(acc++[(⟨w.toArray⟩:ByteArray)]).map Value.string=acc.map Value.string++[.string ⟨w.toArray⟩]:=by simp);refine XA.aY rfl (by first|rfl|exact aM hq) ?_;refine cx ?_;refine zw rfl (ax.jY (ae rfl) rfl (ae rfl)) ?_;rintro _ _ _ ⟨g33,rfl,rfl,rfl⟩;refine zw rfl (ax.kM (ae rfl) rfl (ae rfl) rfl rfl rfl) ?_;rintro _ _ _ ⟨p34,c34,rfl,rfl,rfl⟩;refine eA ?_;refine⟨bQ,((i+1,[]),(n+1,(p34,c34))),_,zM,?_,⟨rfl,by show i+1≤s.size+1;omega,cg _,by show n+1≤i+1;omega,acc++[⟨w.toArray⟩],(by rw[bq,dr];rfl),Gz,fun _=>h1,fun h=>(by exfalso;have:i+1=s.size+1:=h;omega),rfl⟩,(by show s.size+1-(i+1)<s.size+1-i;omega)⟩
     ·rw[um];exact zE
   ·(have hbn:¬((aJ s i:Nat):Int)=32:=fun e=>h32 (UInt8.toNat_inj.1 (by rw[←hb];exact Int.ofNat.inj e)));have gP:=NL w s (i:=i) (c:=c) (by rw[hl];exact hc);rw[NM hc h32] at h1;have YA:(⟨w.toArray⟩:ByteArray).size=w.length:=by simp[ByteArray.size]
    have hex:w.length+(s.extract ((i:Int)).toNat ((i:Int)+1).toNat).size≤9223372036854775807:=by
     rw[ByteArray.size_extract];omega
    have adh:(⟨w.toArray⟩:ByteArray)++s.extract ((i:Int)).toNat ((i:Int)+1).toNat=⟨(w++[c]).toArray⟩:=gP;refine bt ?_;refine iQ ?_;refine eA ?_;(first|(refine zG ?_;refine zO rfl (Rd.bh (ae rfl) rfl rfl rfl gD) ?_)|refine zH ?_);refine bY ?_;refine XA.aY rfl (by first|rfl|exact aM hbn) ?_;refine bg ?_;refine zO rfl (X.Rd.pL (ae rfl) rfl rfl rfl rfl ad) ?_;refine zO rfl (X.Rd.fi rfl rfl (by rw[YA];exact hex)) ?_;refine dB ?_;rw[adh];refine⟨bQ,((i+1,w++[c]),(n,(pl,cl))),_,zM,?_,⟨rfl,by show i+1≤s.size+1;omega,by show (w++[c]).length≤i+1;rw[bq,dZ];omega,by show n≤i+1;omega,acc,dr,yG,fun _=>h1,fun h=>(by exfalso;have:i+1=s.size+1:=h;omega),rfl⟩,(by show s.size+1-(i+1)<s.size+1-i;omega)⟩
    ·exact zE
  ·(have hei:i=s.size:=by omega);have HR:l.drop i=[]:=List.drop_of_length_le ad;(have sO:¬((i:Int)<(s.size:Nat)):=by omega);have h1:gq s=acc++((if w=[] then [] else [⟨w.toArray⟩])++[]):=by rw[h1,HR,fN,List.append_nil]
   ·skip;refine bt ?_;refine iQ ?_;refine eA ?_;(first|(refine zG ?_;refine zO rfl (Rd.bh (ae rfl) rfl rfl rfl gD) ?_)|refine zH ?_);refine bY ?_;refine XA.aI rfl (by first|rfl|exact aE sO) ?_;refine a8 ?_;refine zO rfl (Rd.neqs rfl rfl) ?_;refine aU ?_;by_cases E9:w=[]
    ·(have hq:¬((⟨w.toArray⟩:ByteArray)≠⟨#[]⟩):=fun h=>h (by rw[E9]));rw[aq E9,List.nil_append] at h1;refine XA.aI rfl (by first|rfl|exact aE hq) ?_;refine dB ?_;refine⟨bQ,((i+1,[]),(n,(pl,cl))),_,zM,?_,⟨rfl,by show i+1≤s.size+1;omega,cg _,by show n≤i+1;omega,acc,dr,yG,fun h=>(by exfalso;have:i+1≤s.size:=h;omega),fun _=>(by rw[h1,List.append_nil]),rfl⟩,(by show s.size+1-(i+1)<s.size+1-i;omega)⟩
     ·exact zE
    ·(have hq:(⟨w.toArray⟩:ByteArray)≠⟨#[]⟩:=fun h=>E9 (by have:=congrArg (fun b:ByteArray=>b.data.toList) h;simpa using this));rw[ag E9,←List.append_assoc] at h1;have YA:(⟨w.toArray⟩:ByteArray).size=w.length:=by simp[ByteArray.size]
     have Gz:∀y∈acc++[(⟨w.toArray⟩:ByteArray)],y.size≤maxLen:=fun y hy=>by
      rcases List.mem_append.1 hy with hy|hy
      ·exact yG y hy
      ·rw[List.mem_singleton] at hy;subst hy;rw[YA];simp only[maxLen];omega
     (have um:(acc++[(⟨w.toArray⟩:ByteArray)]).map Value.string=acc.map Value.string++[.string ⟨w.toArray⟩]:=by simp);refine XA.aY rfl (by first|rfl|exact aM hq) ?_;refine cx ?_;refine zw rfl (ax.jY (ae rfl) rfl (ae rfl)) ?_;rintro _ _ _ ⟨g33,rfl,rfl,rfl⟩;refine zw rfl (ax.kM (ae rfl) rfl (ae rfl) rfl rfl rfl) ?_;rintro _ _ _ ⟨p34,c34,rfl,rfl,rfl⟩;refine eA ?_;refine⟨bQ,((i+1,[]),(n+1,(p34,c34))),_,zM,?_,⟨rfl,by show i+1≤s.size+1;omega,cg _,by show n+1≤i+1;omega,acc++[⟨w.toArray⟩],(by rw[bq,dr];rfl),Gz,fun h=>(by exfalso;have:i+1≤s.size:=h;omega),fun _=>(by rw[h1,List.append_nil]),rfl⟩,(by show s.size+1-(i+1)<s.size+1-i;omega)⟩
     ·rw[um];exact zE
 ·have h2:=h2 ad;subst dr;rw[h2];refine bt ?_;refine ik ?_;refine bm ?_;refine DA.mX (R:=aS 9 1 _ _ _) zL cm aH ?_;rintro cO ⟨⟩ hf bz;exact bC rfl rfl ⟨pl,cl,rfl,ug yG rfl hf,bz,rfl⟩
abbrev iO:=Except (Int×Int) (List Tk)
def dJ {α:Type} (P:List Tk→PR α):iO→iO
 |.error y=>.error y
 |.ok l=>match P l with|.ok (_,l')=>.ok l'|.error y=>.error y
def iO.Mb:iO→Bool|.ok _=>true|.error _=>false
def zU (w:ByteArray):iO→Bool|.ok l=>ku w l|.error _=>false
def yN (e code:Int) (l:List Tk):PR Unit:=.error (bD e l code)
def iw (e:Int) (w:ByteArray) (l:List Tk):PR Unit:=if ku w l=true then .ok ((),l.tail) else .error (bD e l 5)
abbrev jT (b:Nat) (sl:Value) (e:Int) (k:Nat) (c a:Int) (vs:Value):HP:=aw b [sl,i64 e,i64 k,i64 c,i64 a,vs] 132
def Rg (L:List Tk) (sl:Value) (e:Int) (vs:Value) (b:Nat) (s:iO):HP:=fun m=>∃(k:Nat) (c a:Int),jT b sl e k c a vs m∧k≤L.length∧match s with|.ok l=>c=0∧a=0∧L.drop k=l|.error y=>c=y.1∧a=y.2∧y.1≠0
section
variable {L l:List Tk} {sl vs:Value} {e:Int} {b k:Nat} {y:Int×Int}
theorem Rg.ll:∀m,Rg L sl e vs b (.ok l) m→∃k:Nat,(k≤L.length∧L.drop k=l)∧Sat [jT b sl e k 0 0 vs] m:=by
 rintro m ⟨k,c,a,h,hk,rfl,rfl,hd⟩;exact⟨k,⟨hk,hd⟩,zk h⟩
theorem Rg.U1:∀m,Rg L sl e vs b (.error y) m→∃k:Nat,(k≤L.length∧y.1≠0)∧Sat [jT b sl e k y.1 y.2 vs] m:=by
 rintro m ⟨k,c,a,h,hk,rfl,rfl,hd⟩;exact⟨k,⟨hk,hd⟩,zk h⟩
theorem Rg.Hb (h:k≤L.length) (hd:L.drop k=l):ar [jT b sl e k 0 0 vs] [Rg L sl e vs b (.ok l)]:=ar.one (fun m hm=>⟨k,0,0,hm,h,rfl,rfl,hd⟩)
theorem Rg.Ag (h:k≤L.length) (hy:y.1≠0):ar [jT b sl e k y.1 y.2 vs] [Rg L sl e vs b (.error y)]:=ar.one (fun m hm=>⟨k,y.1,y.2,hm,h,rfl,rfl,hy⟩)
end
theorem iM {α:Type} {L:List α} {k:Nat} {t:α} {r:List α} (h:L.drop k=t::r):L[k]? =some t∧k<L.length∧L.drop (k+1)=r:=by
 have hk:k<L.length:=by
  apply Decidable.byContradiction;intro q;rw[List.drop_eq_nil_of_le ad] at h;cases h
 rw[List.drop_eq_getElem_cons hk] at h;cases h;exact⟨b9 hk,hk,rfl⟩
theorem n6 {α:Type} {L:List α} {k:Nat} (hk:k≤L.length) (h:L.drop k=[]):k=L.length:=by
 have:=List.drop_eq_nil_iff.1 h;omega
section
variable (σ:PH) (L:List Tk) (p:Option Addr) (n0 c0:Nat) (e:Int) (vs:Value) (b k:Nat)
theorem R9 (sl:Value) (c a:Int):ah Tryz.prog 79 #[ptr b] σ [jT b sl e k c a vs] (aA fun v aj al=>v=.bool (decide (c=0))∧σ=aj∧al=[jT b sl e k c a vs]):=by
 refine cM Tryz.func79 ?_;refine dV ?_;exact bC rfl rfl ⟨rfl,rfl,rfl⟩
theorem mA (sl:Value):ah Tryz.prog 79 #[ptr b] σ [jT b sl e k 0 0 vs] (aA fun v aj al=>v=.bool true∧σ=aj∧al=[jT b sl e k 0 0 vs]):=R9 σ e vs b k sl 0 0
theorem yO (sl:Value) (c a:Int) (h:c≠0):ah Tryz.prog 79 #[ptr b] σ [jT b sl e k c a vs] (aA fun v aj al=>v=.bool false∧σ=aj∧al=[jT b sl e k c a vs]):=by
 have:=R9 σ e vs b k sl c a
 rwa [aE h] at this
theorem wT (sl:Value) (c a code:Int) (h:c≠0):ah Tryz.prog 123 #[ptr b,i64 code] σ [jT b sl e k c a vs] (aA fun v aj al=>v=.tuple #[]∧σ=aj∧al=[jT b sl e k c a vs]):=by
 refine cw Tryz.func123 ?_;refine bY ?_;refine yC (yO σ e vs b k sl c a h) ?_;refine a8 ?_;exact On rfl ⟨rfl,rfl,rfl⟩
theorem oV (code:Int) (hL:bV 4 je σ (.slice p L.length c0) L) (hk:k≤L.length):ah Tryz.prog 123 #[ptr b,i64 code] σ [jT b (.slice p L.length c0) e k 0 0 vs] (aA fun v aj al=>v=.tuple #[]∧σ=aj∧al=[jT b (.slice p L.length c0) e k (bD e (L.drop k) code).1 (bD e (L.drop k) code).2 vs]):=by
 have hlen:=hL.jK
 cases hd:L.drop k with
 |cons t r=>
  obtain⟨hx,aV,-⟩:=iM hd;obtain⟨g,o,row,rfl,hr,-,bG⟩:=hL.at hx;have hr:row=Lu t:=hr;subst hr;have a0:cH σ g (o+k*4) [i64 t.at_]:=bG.sub (j:=0) rfl;(have sO:(k:Int)<(L.length:Nat):=by omega);have GL:(0:Int)≤k∧(k:Int)<(L.length:Nat):=⟨ad,ad⟩;refine cw Tryz.func123 ?_;refine bY ?_;refine yC (mA σ e vs b k _) ?_;refine bg ?_;refine et 10 2214 [] (ar.bB (R:=aw b _ _) zL (ar.nil _)) ?_;refine bm ?_;refine XA.aY rfl (by first|rfl|exact aM sO) ?_;refine et 17 89833455 [13,16] (ar.bB (R:=aw b _ _) zL (ar.nil _)) ?_;refine dB ?_;refine aP.b7 rfl rfl Gd.free aC (ax.cE (wi σ code t.at_) rfl) ?_;rintro _ _ _ ⟨_,⟨rfl,rfl,rfl⟩,rfl⟩;refine aP.cl ?_;refine aU ?_;refine kS rfl (ax.st (ae rfl) rfl) ?_;refine bS ?_;exact iN rfl ⟨rfl,rfl,rfl⟩
 |nil=>
  have Lp:=n6 hk hd;(have Fj:¬(k:Int)<(L.length:Nat):=by omega);by_cases h5:code=5
  ·(have Vu:bD e [] code=(6,e):=by rw[bD,aq h5]);rw[Vu];refine cw Tryz.func123 ?_;refine bY ?_;refine yC (mA σ e vs b k _) ?_;refine bg ?_;refine et 10 2214 [] (ar.bB (R:=aw b _ _) zL (ar.nil _)) ?_;refine bm ?_;refine XA.aI rfl (by first|rfl|exact aE Fj) ?_;refine a8 ?_;refine XA.aY rfl (by first|rfl|exact aM h5) ?_;refine a8 ?_;refine yC (wi σ 6 e) ?_;refine bY ?_;exact iN rfl ⟨rfl,rfl,rfl⟩
  ·(have Vu:bD e [] code=(code,e):=by rw[bD,ag h5]);rw[Vu];refine cw Tryz.func123 ?_;refine bY ?_;refine yC (mA σ e vs b k _) ?_;refine bg ?_;refine et 10 2214 [] (ar.bB (R:=aw b _ _) zL (ar.nil _)) ?_;refine bm ?_;refine XA.aI rfl (by first|rfl|exact aE Fj) ?_;refine a8 ?_;refine XA.aI rfl (by first|rfl|exact aE h5) ?_;refine bg ?_;refine yC (wi σ code e) ?_;refine bY ?_;exact iN rfl ⟨rfl,rfl,rfl⟩
theorem Sb (sl:Value) (c a:Int) (w:ByteArray) (h:c≠0):ah Tryz.prog 76 #[ptr b,.string w] σ [jT b sl e k c a vs] (aA fun v aj al=>v=.bool false∧σ=aj∧al=[jT b sl e k c a vs]):=by
 refine cw Tryz.func76 ?_;refine a8 ?_;refine et 44 4204503687561976554 [] (ar.bB (R:=aw b _ _) zL (ar.nil _)) ?_;refine bS ?_;refine aP.fw rfl rfl Gd.free (ax.cE (yO σ e vs b k sl c a h) rfl) ?_;rintro _ _ _ ⟨_,⟨rfl,rfl,rfl⟩,rfl⟩;refine stays (aP.cl ?_);refine O7 ?_;(first|refine aP.Zb rfl rfl (Rd.fE rfl rfl) ?_|refine aP.Bm rfl rfl ?_);refine dc ?_;exact bC rfl rfl ⟨rfl,rfl,rfl⟩
theorem Sc (w:ByteArray) (hL:bV 4 je σ (.slice p L.length c0) L) (hk:k≤L.length):ah Tryz.prog 76 #[ptr b,.string w] σ [jT b (.slice p L.length c0) e k 0 0 vs] (aA fun v aj al=>v=.bool (ku w (L.drop k))∧σ=aj∧al=[jT b (.slice p L.length c0) e k 0 0 vs]):=by
 have hlen:=hL.jK
 cases hd:L.drop k with
 |cons t r=>
  obtain⟨hx,aV,-⟩:=iM hd;obtain⟨g,o,row,rfl,hr,-,bG⟩:=hL.at hx;have hr:row=Lu t:=hr;subst hr;have a1:cH σ g (o+k*4+1) [.string t.text]:=bG.sub (j:=1) rfl;have a2:cH σ g (o+k*4+2) [.bool t.num]:=bG.sub (j:=2) rfl;(have sO:(k:Int)<(L.length:Nat):=by omega);have GL:(0:Int)≤k∧(k:Int)<(L.length:Nat):=⟨ad,ad⟩;obtain⟨ta,tt,tn,tv⟩:=t
  cases tn with
  |true=>
   refine cw Tryz.func76 ?_;refine a8 ?_;refine et 44 4204503687561976554 [] (ar.bB (R:=aw b _ _) zL (ar.nil _)) ?_;refine bS ?_;refine aP.fw rfl rfl Gd.free (ax.cE (mA σ e vs b k _) rfl) ?_;rintro _ _ _ ⟨_,⟨rfl,rfl,rfl⟩,rfl⟩;refine stays (aP.cl ?_);refine O7 ?_;(first|refine aP.Zb rfl rfl (Rd.fE rfl rfl) ?_|refine aP.Bm rfl rfl ?_);refine dc ?_;exact bC rfl rfl ⟨rfl,rfl,rfl⟩
  |false=>
   refine cw Tryz.func76 ?_;refine a8 ?_;refine et 44 4204503687561976554 [] (ar.bB (R:=aw b _ _) zL (ar.nil _)) ?_;refine bS ?_;refine aP.fw rfl rfl Gd.free (ax.cE (mA σ e vs b k _) rfl) ?_;rintro _ _ _ ⟨_,⟨rfl,rfl,rfl⟩,rfl⟩;refine stays (aP.cl ?_);refine O7 ?_;(first|refine aP.Zb rfl rfl (Rd.fE rfl rfl) ?_|refine aP.Bm rfl rfl ?_);refine dc ?_;exact bC rfl rfl ⟨rfl,rfl,rfl⟩
 |nil=>
  have Lp:=n6 hk hd;(have Fj:¬(k:Int)<(L.length:Nat):=by omega);refine cw Tryz.func76 ?_;refine a8 ?_;refine et 44 4204503687561976554 [] (ar.bB (R:=aw b _ _) zL (ar.nil _)) ?_;refine bS ?_;refine aP.fw rfl rfl Gd.free (ax.cE (mA σ e vs b k _) rfl) ?_;rintro _ _ _ ⟨_,⟨rfl,rfl,rfl⟩,rfl⟩;refine stays (aP.cl ?_);refine O7 ?_;(first|refine aP.Zb rfl rfl (Rd.fE rfl rfl) ?_|refine aP.Bm rfl rfl ?_);refine dc ?_;exact bC rfl rfl ⟨rfl,rfl,rfl⟩
end
theorem Sd:aG 0:=⟨au,au⟩
def dI {α:Type} (P:List Tk→PR α) (d:α):iO→α
 |.error _=>d
 |.ok l=>match P l with|.ok (x,_)=>x|.error _=>d
def Raw (L:List Tk) (sl:Value) (e:Int) (vs:Value) (b:Nat) (s:iO) (Γ:List HP):Prop:=∃(k:Nat) (c a:Int),Γ=[jT b sl e k c a vs]∧k≤L.length∧match s with|.ok l=>c=0∧a=0∧L.drop k=l|.error y=>c=y.1∧a=y.2∧y.1≠0
theorem Raw.eX {L:List Tk} {sl vs:Value} {e:Int} {b:Nat} {s:iO} {Γ:List HP} (h:Raw L sl e vs b s Γ):ar Γ [Rg L sl e vs b s]:=by
 obtain⟨k,c,a,rfl,h2⟩:=h;exact ar.one (fun m hm=>⟨k,c,a,hm,h2⟩)
theorem A5 {σ:PH} {L:List Tk} {sl vs:Value} {e:Int} {b:Nat} {s s':iO} {f:FuncId} {args:Array Value} {V:Value→PH→Prop} (he:Enters Tryz.prog f)
 (ho:∀l k,s=.ok l→k≤L.length→L.drop k=l→ah Tryz.prog f args σ [jT b sl e k 0 0 vs] (aA fun v aj al=>V v aj∧Raw L sl e vs b s' al))
 (hE:∀y k,s=.error y→k≤L.length→y.1≠0→ah Tryz.prog f args σ [jT b sl e k y.1 y.2 vs] (aA fun v aj al=>V v aj∧Raw L sl e vs b s' al)):
 ah Tryz.prog f args σ [Rg L sl e vs b s] (aA fun v aj al=>V v aj∧al=[Rg L sl e vs b s']):=by
 cases s with
 |ok l=>
  refine ah.aW .head Rg.ll he ?_;rintro k ⟨hk,hd⟩;exact(ho l k rfl hk hd).post fun v aj al ⟨h1,h2⟩=>⟨_,⟨h1,rfl⟩,h2.eX⟩
 |error y=>
  refine ah.aW .head Rg.U1 he ?_;rintro k ⟨hk,hd⟩;exact(hE y k rfl hk hd).post fun v aj al ⟨h1,h2⟩=>⟨_,⟨h1,rfl⟩,h2.eX⟩
theorem X.ah.Kj {P:Program} {f:FuncId} {vs:Array Value} {σ:PH} {Γ:List HP} {R R':Value→PH→List HP→Prop} (hc:ah P f vs σ Γ (aA R)) (k:∀v aj al,R v aj al→R' v aj al):ah P f vs σ Γ (aA R'):=hc.post fun v aj al h=>⟨al,k v aj al h,ar.refl _⟩
section
variable (σ:PH) (L:List Tk) (p:Option Addr) (c0:Nat) (e:Int) (vs:Value) (b:Nat) (s:iO)
theorem zW (sl:Value):ah Tryz.prog 79 #[ptr b] σ [Rg L sl e vs b s] (aA fun v aj al=>(v=.bool s.Mb∧σ=aj)∧al=[Rg L sl e vs b s]):=by
 refine A5 (enters Tryz.func79 rfl rfl) ?_ ?_
 ·rintro l k rfl hk hd;exact(mA σ e vs b k sl).Kj fun v aj al ⟨h1,h2,h3⟩=>⟨⟨h1,h2⟩,k,0,0,h3,hk,rfl,rfl,hd⟩
 ·rintro y k rfl hk hy;exact(yO σ e vs b k sl y.1 y.2 hy).Kj fun v aj al ⟨h1,h2,h3⟩=>⟨⟨h1,h2⟩,k,y.1,y.2,h3,hk,rfl,rfl,hy⟩
theorem EI (w:ByteArray) (hL:bV 4 je σ (.slice p L.length c0) L):ah Tryz.prog 76 #[ptr b,.string w] σ [Rg L (.slice p L.length c0) e vs b s] (aA fun v aj al=>(v=.bool (zU w s)∧σ=aj)∧al=[Rg L (.slice p L.length c0) e vs b s]):=by
 refine A5 (enters Tryz.func76 rfl rfl) ?_ ?_
 ·rintro l k rfl hk hd;exact(Sc σ L p c0 e vs b k w hL hk).Kj fun v aj al ⟨h1,h2,h3⟩=>⟨⟨by rw[h1,hd];rfl,h2⟩,k,0,0,h3,hk,rfl,rfl,hd⟩
 ·rintro y k rfl hk hy;exact(Sb σ e vs b k _ y.1 y.2 w hy).Kj fun v aj al ⟨h1,h2,h3⟩=>⟨⟨h1,h2⟩,k,y.1,y.2,h3,hk,rfl,rfl,hy⟩
theorem IS (code:Int) (h0:code≠0) (hL:bV 4 je σ (.slice p L.length c0) L):ah Tryz.prog 123 #[ptr b,i64 code] σ [Rg L (.slice p L.length c0) e vs b s] (aA fun v aj al=>(v=.tuple #[]∧σ=aj)∧al=[Rg L (.slice p L.length c0) e vs b (dJ (yN e code) s)]):=by
 refine A5 (enters Tryz.func123 rfl rfl) ?_ ?_
 ·rintro l k rfl hk hd;exact(oV σ L p c0 e vs b k code hL hk).Kj fun v aj al ⟨h1,h2,h3⟩=>⟨⟨h1,h2⟩,k,_,_,h3,hk,by rw[hd];exact⟨rfl,rfl,fu h0⟩⟩
 ·rintro y k rfl hk hy;exact(wT σ e vs b k _ y.1 y.2 code hy).Kj fun v aj al ⟨h1,h2,h3⟩=>⟨⟨h1,h2⟩,k,y.1,y.2,h3,hk,rfl,rfl,hy⟩
theorem sw (w:ByteArray) (hL:bV 4 je σ (.slice p L.length c0) L):ah Tryz.prog 130 #[ptr b,.string w] σ [Rg L (.slice p L.length c0) e vs b s] (aA fun v aj al=>(v=.tuple #[]∧σ=aj)∧al=[Rg L (.slice p L.length c0) e vs b (dJ (iw e w) s)]):=by
 refine A5 (enters Tryz.func130 rfl rfl) ?_ ?_
 ·rintro l k rfl hk hd;have y8:=Sc σ L p c0 e vs b k w hL hk;have hlen:=hL.jK;rw[hd] at y8
  cases q:ku w l with
  |true=>
   (have hg:dJ (iw e w) (.ok l)=.ok l.tail:=by rw[dJ,iw,aq q]);obtain⟨t,r,rfl⟩:=dv q;obtain⟨hx,aV,E6⟩:=iM hd;rw[q] at y8;refine cw Tryz.func130 ?_;refine bY ?_;refine yC (y8) ?_;refine dB ?_;exact ao.normal (aB.none rfl) zE ⟨⟨rfl,rfl⟩,k+1,0,0,rfl,aV,by rw[hg];exact⟨rfl,rfl,E6⟩⟩
  |false=>
   (have hg:dJ (iw e w) (.ok l)=.error (bD e l 5):=by rw[dJ,iw,ag (by rw[q];exact Bool.noConfusion)]);rw[q] at y8;refine cw Tryz.func130 ?_;refine bY ?_;refine yC (y8) ?_;refine dc ?_;refine yC (oV σ L p c0 e vs b k 5 hL hk) ?_;refine bS ?_;exact ao.normal (aB.none rfl) zE ⟨⟨rfl,rfl⟩,k,_,_,rfl,hk,by rw[hg,hd];exact⟨rfl,rfl,fu au⟩⟩
 ·rintro y k rfl hk hy;refine cw Tryz.func130 ?_;refine bY ?_;refine yC (Sb σ e vs b k _ y.1 y.2 w hy) ?_;refine dc ?_;refine yC (wT σ e vs b k _ y.1 y.2 5 hy) ?_;refine bS ?_;exact ao.normal (aB.none rfl) zE ⟨⟨rfl,rfl⟩,k,y.1,y.2,rfl,hk,rfl,rfl,hy⟩
theorem EJ (hL:bV 4 je σ (.slice p L.length c0) L) (hF:∀t∈L,lH t):ah Tryz.prog 78 #[ptr b] σ [Rg L (.slice p L.length c0) e vs b s] (aA fun v aj al=>(v=i64 (dI (gM e) 0 s)∧aG (dI (gM e) 0 s)∧σ=aj)∧al=[Rg L (.slice p L.length c0) e vs b (dJ (gM e) s)]):=by
 refine A5 (enters Tryz.func78 rfl rfl) ?_ ?_
 ·rintro l k rfl hk hd;have hlen:=hL.jK
  cases l with
  |cons t r=>
   obtain⟨hx,aV,E6⟩:=iM hd;have Ea:=hL;have KJ:=hk;obtain⟨g,o,row,rfl,hr,-,bG⟩:=hL.at hx;have hr:row=Lu t:=hr;subst hr;have a2:cH σ g (o+k*4+2) [.bool t.num]:=bG.sub (j:=2) rfl;(have a3:cH σ g (o+((k:Int)+1-1).toNat*4+3) [i64 t.n]:=by rw[show ((k:Int)+1-1).toNat=k by omega];exact bG.sub (j:=3) rfl);(have sO:(k:Int)<(L.length:Nat):=by omega);have GL:(0:Int)≤k∧(k:Int)<(L.length:Nat):=⟨ad,ad⟩;have cR:=(hF t (fg hx)).2;have hz:=Sd;obtain⟨ta,tt,tn,tv⟩:=t
   cases tn with
   |true=>
    refine cM Tryz.func78 ?_;refine bg ?_;refine et 27 879057149325 [] (ar.bB (R:=aw b _ _) zL (ar.nil _)) ?_;refine bS ?_;refine aP.fw rfl rfl Gd.free (ax.cE (mA σ e vs b k _) rfl) ?_;rintro _ _ _ ⟨_,⟨rfl,rfl,rfl⟩,rfl⟩;refine stays (aP.cl ?_);refine aaB ?_;refine et 13 179361 [] (ar.bB (R:=aw b _ _) zL (ar.nil _)) ?_;refine dV ?_;exact ao.ret (aB.one rfl rfl) zE ⟨⟨rfl,cR,rfl⟩,k+1,0,0,rfl,aV,rfl,rfl,E6⟩
   |false=>
    refine cM Tryz.func78 ?_;refine bg ?_;refine et 27 879057149325 [] (ar.bB (R:=aw b _ _) zL (ar.nil _)) ?_;refine bS ?_;refine aP.fw rfl rfl Gd.free (ax.cE (mA σ e vs b k _) rfl) ?_;rintro _ _ _ ⟨_,⟨rfl,rfl,rfl⟩,rfl⟩;refine stays (aP.cl ?_);refine Je ?_;refine yC (oV σ L _ c0 e vs b k 5 Ea hk) ?_;refine bJ ?_;exact ao.ret (aB.one rfl rfl) zE ⟨⟨rfl,hz,rfl⟩,k,_,_,rfl,hk,by rw[hd];exact⟨rfl,rfl,(by decide:(5:Int)≠0)⟩⟩
  |nil=>
   have Lp:=n6 hk hd;(have Fj:¬(k:Int)<(L.length:Nat):=by omega);refine cM Tryz.func78 ?_;refine bg ?_;refine et 27 879057149325 [] (ar.bB (R:=aw b _ _) zL (ar.nil _)) ?_;refine bS ?_;refine aP.fw rfl rfl Gd.free (ax.cE (mA σ e vs b k _) rfl) ?_;rintro _ _ _ ⟨_,⟨rfl,rfl,rfl⟩,rfl⟩;refine stays (aP.cl ?_);refine Je ?_;refine yC (oV σ L p c0 e vs b k 5 hL hk) ?_;refine bJ ?_;exact ao.ret (aB.one rfl rfl) zE ⟨⟨rfl,Sd,rfl⟩,k,_,_,rfl,hk,by rw[hd];exact⟨rfl,rfl,fu au⟩⟩
 ·rintro y k rfl hk hy;refine cM Tryz.func78 ?_;refine bg ?_;refine et 27 879057149325 [] (ar.bB (R:=aw b _ _) zL (ar.nil _)) ?_;refine bS ?_;refine aP.fw rfl rfl Gd.free (ax.cE (yO σ e vs b k _ y.1 y.2 hy) rfl) ?_;rintro _ _ _ ⟨_,⟨rfl,rfl,rfl⟩,rfl⟩;refine stays (aP.cl ?_);refine Je ?_;refine yC (wT σ e vs b k _ y.1 y.2 5 hy) ?_;refine bJ ?_;exact ao.ret (aB.one rfl rfl) zE ⟨⟨rfl,Sd,rfl⟩,k,y.1,y.2,rfl,hk,rfl,rfl,hy⟩
end
section
variable (σ:PH) (L:List Tk) (p:Option Addr) (c0:Nat) (e:Int) (vs:Value) (b:Nat) (s:iO)
theorem NN (hL:bV 4 je σ (.slice p L.length c0) L) (hF:∀t∈L,lH t):ah Tryz.prog 77 #[ptr b] σ [Rg L (.slice p L.length c0) e vs b s] (aA fun v aj al=>(v=.string (dI (dY e) ByteArray.empty s)∧σ=aj)∧al=[Rg L (.slice p L.length c0) e vs b (dJ (dY e) s)]):=by
 refine A5 (enters Tryz.func77 rfl rfl) ?_ ?_
 ·rintro l k rfl hk hd;have hlen:=hL.jK
  cases l with
  |cons t r=>
   obtain⟨hx,aV,E6⟩:=iM hd;have Ea:=hL;obtain⟨g,o,row,rfl,hr,-,bG⟩:=hL.at hx;have hr:row=Lu t:=hr;subst hr;have a1:cH σ g (o+k*4+1) [.string t.text]:=bG.sub (j:=1) rfl;(have a2:cH σ g (o+((k:Int)+1-1).toNat*4+1) [.string t.text]:=by rw[show ((k:Int)+1-1).toNat=k by omega];exact a1);(have sO:(k:Int)<(L.length:Nat):=by omega);have GL:(0:Int)≤k∧(k:Int)<(L.length:Nat):=⟨ad,ad⟩;have gO:=(hF t (fg hx)).1;have qj:=Hh σ t.text gO
   cases hq:dW t.text with
   |true=>
    (have hg:dY e (t::r)=.ok (t.text,r):=by rw[dY,aq hq]);rw[hq] at qj;refine cM Tryz.func77 ?_;refine bg ?_;refine et 28 5962788805983 [26] (ar.bB (R:=aw b _ _) zL (ar.nil _)) ?_;refine bS ?_;refine aP.fw rfl rfl Gd.free (ax.cE (mA σ e vs b k _) rfl) ?_;rintro _ _ _ ⟨_,⟨rfl,rfl,rfl⟩,rfl⟩;refine stays (aP.cl ?_);refine rb ?_;refine aP.b7 rfl rfl Lf aC (ax.cE (qj) rfl) ?_;rintro _ _ _ ⟨_,⟨rfl,rfl,rfl⟩,rfl⟩;refine aP.cl ?_;refine dV ?_;refine et 13 179361 [] (ar.bB (R:=aw b _ _) zL (ar.nil _)) ?_;refine dV ?_;exact ao.ret (aB.one rfl rfl) zE ⟨⟨by rw[dI,hg],rfl⟩,k+1,0,0,rfl,aV,by rw[dJ,hg];exact⟨rfl,rfl,E6⟩⟩
   |false=>
    (have hg:dY e (t::r)=.error (bD e (t::r) 5):=by rw[dY,ag (by rw[hq];exact Bool.noConfusion)]);rw[hq] at qj;refine cM Tryz.func77 ?_;refine bg ?_;refine et 28 5962788805983 [26] (ar.bB (R:=aw b _ _) zL (ar.nil _)) ?_;refine bS ?_;refine aP.fw rfl rfl Gd.free (ax.cE (mA σ e vs b k _) rfl) ?_;rintro _ _ _ ⟨_,⟨rfl,rfl,rfl⟩,rfl⟩;refine stays (aP.cl ?_);refine rb ?_;refine aP.b7 rfl rfl Lf aC (ax.cE (qj) rfl) ?_;rintro _ _ _ ⟨_,⟨rfl,rfl,rfl⟩,rfl⟩;refine aP.cl ?_;refine bt ?_;refine yC (oV σ L _ c0 e vs b k 5 Ea hk) ?_;refine bJ ?_;exact ao.ret (aB.one rfl rfl) zE ⟨⟨by rw[dI,hg];rfl,rfl⟩,k,_,_,rfl,hk,by rw[dJ,hg,hd];exact⟨rfl,rfl,fu au⟩⟩
  |nil=>
   have Lp:=n6 hk hd;(have Fj:¬(k:Int)<(L.length:Nat):=by omega);refine cM Tryz.func77 ?_;refine bg ?_;refine et 28 5962788805983 [26] (ar.bB (R:=aw b _ _) zL (ar.nil _)) ?_;refine bS ?_;refine aP.fw rfl rfl Gd.free (ax.cE (mA σ e vs b k _) rfl) ?_;rintro _ _ _ ⟨_,⟨rfl,rfl,rfl⟩,rfl⟩;refine stays (aP.cl ?_);refine rb ?_;(first|refine aP.off rfl rfl sW ?_|refine aP.wZ rfl rfl sW ?_|refine aP.KT rfl rfl sW ?_);refine bt ?_;refine yC (oV σ L p c0 e vs b k 5 hL hk) ?_;refine bJ ?_;exact ao.ret (aB.one rfl rfl) zE ⟨⟨rfl,rfl⟩,k,_,_,rfl,hk,by rw[hd];exact⟨rfl,rfl,fu au⟩⟩
 ·rintro y k rfl hk hy;refine cM Tryz.func77 ?_;refine bg ?_;refine et 28 5962788805983 [26] (ar.bB (R:=aw b _ _) zL (ar.nil _)) ?_;refine bS ?_;refine aP.fw rfl rfl Gd.free (ax.cE (yO σ e vs b k _ y.1 y.2 hy) rfl) ?_;rintro _ _ _ ⟨_,⟨rfl,rfl,rfl⟩,rfl⟩;refine stays (aP.cl ?_);refine rb ?_;(first|refine aP.off rfl rfl sW ?_|refine aP.wZ rfl rfl sW ?_|refine aP.KT rfl rfl sW ?_);refine bt ?_;refine yC (wT σ e vs b k _ y.1 y.2 5 hy) ?_;refine bJ ?_;exact ao.ret (aB.one rfl rfl) zE ⟨⟨rfl,rfl⟩,k,y.1,y.2,rfl,hk,rfl,rfl,hy⟩
end
def fY (e:Int) (deep:Int) (most:Nat) (W:Int→ByteArray) (l:List Tk):PR Nat:=
 if 12<deep then .error (bD e l 4) else if ku lr l=true then match iC W most l.tail with|none=>.error (bD e l.tail 5)|some k=>.ok (k,l.tail.tail) else .error (bD e l 5)
def kq (e deep:Int) (s:iO):iO:=dJ (iw e lr) (if 12<deep then dJ (yN e 4) s else s)
theorem vZ {W:Int→ByteArray} {l:List Tk} {i:Nat} (h:ku (W i) l=true):∀(f k:Nat),k≤i→i<k+f→(∀j:Nat,k≤j→j<i→ku (W j) l=false)→rz W l f k=some i
 |0,k,h1,h2,_=>by omega
 |f+1,k,h1,h2,h3=>by
  rw[rz];by_cases q:k=i
  ·subst q;rw[aq h]
  ·rw[ag (by rw[h3 k (bX _) ad];exact Bool.noConfusion)];exact vZ h f (k+1) ad ad (fun j a c=>h3 j ad c)
theorem EK {W:Int→ByteArray} {l:List Tk}:∀(f k:Nat),(∀j:Nat,k≤j→j<k+f→ku (W j) l=false)→rz W l f k=none
 |0,k,_=>rfl
 |f+1,k,h=>by
  rw[rz,ag (by rw[h k (bX _) ad];exact Bool.noConfusion)];exact EK f (k+1) (fun j a c=>h j ad ad)
theorem IT {e deep:Int} {y:Int×Int}:kq e deep (.error y)=.error y:=by
 rw[kq];split<;>rfl
theorem NO {e deep:Int} {most:Nat} {W:Int→ByteArray} {s:iO} {i:Nat} (h1:1≤i) (h2:i≤most) (h:zU (W i) (kq e deep s)=true) (h3:∀j:Nat,1≤j→j<i→zU (W j) (kq e deep s)=false):
 ∃l2,kq e deep s=.ok l2∧dJ (fY e deep most W) s=.ok l2.tail∧dI (fY e deep most W) 0 s=i:=by
 cases s with
 |error y=>rw[IT] at h;cases h
 |ok l=>
  by_cases hd:12<deep
  ·(have:kq e deep (.ok l)=.error (bD e l 4):=by rw[kq,aq hd];rfl);rw[this] at h;cases h
  ·cases hq:ku lr l with
   |false=>
    (have:kq e deep (.ok l)=.error (bD e l 5):=by rw[kq,ag hd,dJ,iw,ag (by rw[hq];exact Bool.noConfusion)]);rw[this] at h;cases h
   |true=>
    (have hs:kq e deep (.ok l)=.ok l.tail:=by rw[kq,ag hd,dJ,iw,aq hq]);rw[hs] at h h3;have hp:iC W most l.tail=some i:=vZ h _ 1 h1 ad h3;(have hb:fY e deep most W l=.ok (i,l.tail.tail):=by rw[fY,ag hd,aq hq,hp]);exact⟨l.tail,hs,by rw[dJ,hb],by rw[dI,hb]⟩
theorem NP {e deep:Int} {most:Nat} {W:Int→ByteArray} {s:iO} (h3:∀j:Nat,1≤j→j≤most→zU (W j) (kq e deep s)=false):
 dJ (fY e deep most W) s=dJ (yN e 5) (kq e deep s)∧dI (fY e deep most W) 0 s=0:=by
 cases s with
 |error y=>rw[IT];exact⟨rfl,rfl⟩
 |ok l=>
  by_cases hd:12<deep
  ·(have h1:kq e deep (.ok l)=.error (bD e l 4):=by rw[kq,aq hd];rfl);(have hb:fY e deep most W l=.error (bD e l 4):=by rw[fY,aq hd]);exact⟨by rw[h1];show _=Except.error _;rw[dJ,hb],by rw[dI,hb]⟩
  ·cases hq:ku lr l with
   |false=>
    (have h1:kq e deep (.ok l)=.error (bD e l 5):=by rw[kq,ag hd,dJ,iw,ag (by rw[hq];exact Bool.noConfusion)]);(have hb:fY e deep most W l=.error (bD e l 5):=by rw[fY,ag hd,ag (by rw[hq];exact Bool.noConfusion)]);exact⟨by rw[h1];show _=Except.error _;rw[dJ,hb],by rw[dI,hb]⟩
   |true=>
    (have hs:kq e deep (.ok l)=.ok l.tail:=by rw[kq,ag hd,dJ,iw,aq hq]);rw[hs] at h3;have hp:iC W most l.tail=none:=EK _ 1 (fun j a c=>h3 j a ad);(have hb:fY e deep most W l=.error (bD e l.tail 5):=by rw[fY,ag hd,aq hq,hp]);exact⟨by rw[hs,dJ,hb];rfl,by rw[dI,hb]⟩
section
variable (σ:PH) (L:List Tk) (p:Option Addr) (c0:Nat) (e:Int) (vs:Value) (b:Nat) (s:iO)
theorem IU (f:FuncId) (W:Int→ByteArray) (hf:Words f W) (most:Nat) (hm:most≤100) (deep:Int) (hL:bV 4 je σ (.slice p L.length c0) L):
 ah Tryz.prog 124 #[ptr b,i64 deep,i64 most,.func (.func f) #[] #[]] σ [Rg L (.slice p L.length c0) e vs b s] (aA fun v aj al=>(v=i64 (dI (fY e deep most W) 0 s:Nat)∧σ=aj)∧al=[Rg L (.slice p L.length c0) e vs b (dJ (fY e deep most W) s)]):=by
 have hlen:=hL.jK;refine Zd Tryz.func124 ?_;refine bm ?_;refine XA.join [(12,13)] (fun _:Unit=>[]) (fun _ aj al=>σ=aj∧al=[Rg L (.slice p L.length c0) e vs b (if 12<deep then dJ (yN e 4) s else s)]) ?_ ?_
 ·skip;refine XA.bE rfl (fun hd=>?_) (fun hd=>?_)
  ·rw[aq hd];refine aU ?_;refine zw rfl (ax.cE (IS σ L p c0 e vs b s 4 au hL) rfl) ?_;rintro _ _ _ ⟨_,⟨⟨rfl,rfl⟩,rfl⟩,rfl⟩;refine az.cl ?_;refine aU ?_;refine⟨bQ,(),_,zM,?_,⟨rfl,rfl⟩⟩
   ·exact zE
  ·rw[ag hd];refine aU ?_;refine⟨bQ,(),_,zM,?_,⟨rfl,rfl⟩⟩
   ·exact zE
 rintro _ δ _ _ ⟨rfl,rfl⟩;dsimp only[dq,List.foldl];refine bY ?_;refine zw rfl (ax.cE (sw σ L p c0 e vs b _ lr hL) rfl) ?_;rintro _ _ _ ⟨_,⟨⟨rfl,rfl⟩,rfl⟩,rfl⟩;refine az.cl ?_;have hS:dJ (iw e lr) (if 12<deep then dJ (yN e 4) s else s)=kq e deep s:=rfl;rw[hS];(refine bt ?_;refine XA.gen [(0,_),(2,_),(3,_),(8,_),(9,_)] iX fun δ=>?_);dsimp only[List.foldl];refine XA.loop [(8,9),(16,33)] (fun k:Nat=>[(9,i64 k)]) (fun k aj al=>σ=aj∧1≤k∧k≤most+1∧(∀j:Nat,1≤j→j<k→zU (W j) (kq e deep s)=false)∧al=[Rg L (.slice p L.length c0) e vs b (kq e deep s)]) (fun k=>most+1-k) 1 eb (Δ0:=_) ?_ (⟨rfl,bX _,ad,fun j a c=>by omega,rfl⟩) ?_
 ·exact zE
 rintro k δ _ _ ⟨rfl,uK,kP,bu,rfl⟩;dsimp only[dq,List.foldl];have uK:1≤k:=uK;have kP:k≤most+1:=kP;by_cases q:k≤most
 ·cases hi:zU (W k) (kq e deep s) with
  |true=>
   obtain⟨l2,h1,h2,h3⟩:=NO uK q hi bu;have y8:=EI σ L p c0 e vs b (kq e deep s) (W k) hL;rw[hi,h1] at y8;rw[h1] at hi;rw[h2,h3,h1];obtain⟨t,r,rfl⟩:=dv hi;refine bJ ?_;refine iQ ?_;refine bt ?_;refine zw rfl (ax.cV (first:=[]) (cap:=[]) rfl (hf σ k) rfl) ?_;rintro _ _ _ ⟨_,⟨rfl,rfl,rfl⟩,rfl⟩;refine az.cl ?_;refine zw rfl (ax.cE (y8) rfl) ?_;rintro _ _ _ ⟨_,⟨⟨rfl,rfl⟩,rfl⟩,rfl⟩;refine az.cl ?_;refine dc ?_;(first|refine XA.aW (R:=Rg _ _ _ _ _ _) zL (Rg.ll) ?_|refine az.aW (R:=Rg _ _ _ _ _ _) zL (Rg.ll) ?_|refine DA.aW (R:=Rg _ _ _ _ _ _) zL (Rg.ll) ?_);rintro n ⟨rQ,Vl⟩;refine gX ?_;obtain⟨hx,aV,E6⟩:=iM Vl;refine px ?_;exact ao.ret (aB.one rfl rfl) (Rg.Hb (k:=n+1) aV E6) ⟨⟨rfl,rfl⟩,rfl⟩
  |false=>
   have y8:=EI σ L p c0 e vs b (kq e deep s) (W k) hL;rw[hi] at y8
   have YB:∀j:Nat,1≤j→j<k+1→zU (W j) (kq e deep s)=false:=fun j a c=>by
    by_cases qq:j=k
    ·subst qq;exact hi
    ·exact bu j a ad
   refine bJ ?_;refine iQ ?_;refine bt ?_;refine zw rfl (ax.cV (first:=[]) (cap:=[]) rfl (hf σ k) rfl) ?_;rintro _ _ _ ⟨_,⟨rfl,rfl,rfl⟩,rfl⟩;refine az.cl ?_;refine zw rfl (ax.cE (y8) rfl) ?_;rintro _ _ _ ⟨_,⟨⟨rfl,rfl⟩,rfl⟩,rfl⟩;refine az.cl ?_;refine bm ?_;refine⟨bQ,k+1,_,zM,?_,⟨rfl,by show 1≤k+1;omega,by show k+1≤most+1;omega,YB,rfl⟩,ad⟩
   ·exact zE
 ·obtain⟨h1,h2⟩:=NP (W:=W) (most:=most) (fun j a c=>bu j a ad);rw[h1,h2];refine bJ ?_;refine ik ?_;refine bJ ?_;refine zw rfl (ax.cE (IS σ L p c0 e vs b (kq e deep s) 5 au hL) rfl) ?_;rintro _ _ _ ⟨_,⟨⟨rfl,rfl⟩,rfl⟩,rfl⟩;refine az.cl ?_;refine bJ ?_;exact ao.ret (aB.one rfl rfl) zE ⟨⟨rfl,rfl⟩,rfl⟩
end
theorem Rg.any {L:List Tk} {sl vs:Value} {e:Int} {b:Nat} {s:iO}:∀m,Rg L sl e vs b s m→∃x:Nat×(Int×Int),(x.1≤L.length∧match s with|.ok l=>x.2.1=0∧x.2.2=0∧L.drop x.1=l|.error y=>x.2.1=y.1∧x.2.2=y.2∧y.1≠0)∧Sat [jT b sl e x.1 x.2.1 x.2.2 vs] m:=by
 rintro m ⟨k,c,a,h,h2⟩;exact⟨(k,(c,a)),h2,zk h⟩
theorem Rg.mk {L:List Tk} {sl vs:Value} {e:Int} {b k:Nat} {c a:Int} {s:iO} (h:k≤L.length∧match s with|.ok l=>c=0∧a=0∧L.drop k=l|.error y=>c=y.1∧a=y.2∧y.1≠0):ar [jT b sl e k c a vs] [Rg L sl e vs b s]:=ar.one (fun m hm=>⟨k,c,a,hm,h⟩)
theorem QG {vl:List Va} {e:Int} {s:iO} {y:Int×Int} (h:dJ (dY e) s=.error y):dJ (gk vl e) s=.error y∧dI (gk vl e) 0 s=0:=by
 cases s with
 |error z=>exact⟨h,rfl⟩
 |ok l=>
  cases l with
  |nil=>exact⟨h,rfl⟩
  |cons t r=>
   rw[dJ,dY] at h
   cases hq:dW t.text with
   |true=>rw[hq] at h;cases h
   |false=>
    rw[hq] at h;(have hv:gk vl e (t::r)=.error (bD e (t::r) 5):=by rw[gk,ag (by rw[hq];exact Bool.noConfusion)]);exact⟨by rw[dJ,hv];exact h,by rw[dI,hv]⟩
theorem Kk {e:Int} {s:iO} {r:List Tk} (h:dJ (dY e) s=.ok r):∃t,s=.ok (t::r)∧dW t.text=true∧dI (dY e) ByteArray.empty s=t.text:=by
 cases s with
 |error z=>cases h
 |ok l=>
  cases l with
  |nil=>cases h
  |cons t r'=>
   rw[dJ,dY] at h
   cases hq:dW t.text with
   |true=>
    rw[hq] at h;cases h;exact⟨t,rfl,hq,by rw[dI,dY,aq hq]⟩
   |false=>rw[hq] at h;cases h
section
variable (σ:PH) (L:List Tk) (p:Option Addr) (c0:Nat) (e:Int) (b:Nat) (s:iO)
theorem yP (vl:List Va) (pv:Option Addr) (cv:Nat) (hv:bV 2 sB σ (.slice pv vl.length cv) vl) (hL:bV 4 je σ (.slice p L.length c0) L) (hF:∀t∈L,lH t):
 ah Tryz.prog 127 #[ptr b] σ [Rg L (.slice p L.length c0) e (.slice pv vl.length cv) b s] (aA fun v aj al=>(v=i64 (dI (gk vl e) 0 s)∧σ=aj)∧al=[Rg L (.slice p L.length c0) e (.slice pv vl.length cv) b (dJ (gk vl e) s)]):=by
 have IV:=hv.jK;refine ah.aW .head Rg.any (enters Tryz.func127 rfl rfl) ?_;rintro⟨k,c,a⟩ KJ;simp only at KJ;have qj:=ah.pre (Rg.mk (b:=b) (sl:=.slice p L.length c0) (e:=e) (vs:=.slice pv vl.length cv) KJ) (NN σ L p c0 e (.slice pv vl.length cv) b s hL hF);show ah _ _ _ _ [jT b (.slice p L.length c0) e k c a (.slice pv vl.length cv)] _
 cases hn:dJ (dY e) s with
 |error y=>
  obtain⟨h1,h2⟩:=QG (vl:=vl) hn;rw[hn] at qj;rw[h1,h2];refine cM Tryz.func127 ?_;refine dV ?_;refine zw rfl (ax.cE (qj) rfl) ?_;rintro _ _ _ ⟨_,⟨⟨rfl,rfl⟩,rfl⟩,rfl⟩;refine az.cl ?_;(first|refine XA.aW (R:=Rg _ _ _ _ _ _) zL (Rg.U1) ?_|refine az.aW (R:=Rg _ _ _ _ _ _) zL (Rg.U1) ?_|refine DA.aW (R:=Rg _ _ _ _ _ _) zL (Rg.U1) ?_);rintro k2 ⟨kP,hy⟩;refine gX ?_;have U2:=yO σ e (.slice pv vl.length cv) b k2 (.slice p L.length c0) y.1 y.2 hy;(refine aR ?_;refine XA.gen [(0,_),(2,_),(3,_),(4,_),(5,_)] iX fun δ=>?_);dsimp only[List.foldl];refine XA.loop [(2,2),(5,5),(12,35)] (fun i:Nat=>[(5,i64 i)]) (fun i aj al=>σ=aj∧i=0∧al=[jT b (.slice p L.length c0) e k2 y.1 y.2 (.slice pv vl.length cv)]) (fun _=>0) 0 eb (Δ0:=_) ?_ (⟨rfl,rfl,rfl⟩) ?_
  ·exact zE
  rintro i δ _ _ ⟨rfl,OJ,rfl⟩;dsimp only[dq,List.foldl];have OJ:i=0:=OJ;subst OJ;by_cases uB:0<vl.length
  ·(have YC:(0:Int)<(vl.length:Nat):=by omega);refine bm ?_;refine zG ?_;refine yC (U2) ?_;refine dB ?_;refine yC (U2) ?_;refine cp ?_;exact ao.ret (aB.one rfl rfl) (Rg.Ag kP hy) ⟨⟨rfl,rfl⟩,rfl⟩
  ·(have YC:¬(0:Int)<(vl.length:Nat):=by omega);refine Jc ?_;refine yC (U2) ?_;refine cp ?_;exact ao.ret (aB.one rfl rfl) (Rg.Ag kP hy) ⟨⟨rfl,rfl⟩,rfl⟩
 |ok r=>
  obtain⟨t,rfl,YD,n7⟩:=Kk hn;obtain⟨hk,rfl,rfl,hd⟩:=KJ;rw[hn,n7] at qj;refine cM Tryz.func127 ?_;refine dV ?_;refine zw rfl (ax.cE (qj) rfl) ?_;rintro _ _ _ ⟨_,⟨⟨rfl,rfl⟩,rfl⟩,rfl⟩;refine az.cl ?_;(first|refine XA.aW (R:=Rg _ _ _ _ _ _) zL (Rg.ll) ?_|refine az.aW (R:=Rg _ _ _ _ _ _) zL (Rg.ll) ?_|refine DA.aW (R:=Rg _ _ _ _ _ _) zL (Rg.ll) ?_);rintro k2 ⟨kP,E6⟩;refine gX ?_;have YE:=mA σ e (.slice pv vl.length cv) b k2 (.slice p L.length c0);(refine aR ?_;refine XA.gen [(0,_),(2,_),(3,_),(4,_),(5,_)] iX fun δ=>?_);dsimp only[List.foldl];refine XA.loop [(2,2),(5,5),(12,35)] (fun i:Nat=>[(5,i64 i)]) (fun i aj al=>σ=aj∧i≤vl.length∧lq t.text vl 0=lq t.text (vl.drop i) i∧al=[jT b (.slice p L.length c0) e k2 0 0 (.slice pv vl.length cv)]) (fun i=>vl.length-i) 0 eb (Δ0:=_) ?_ (⟨rfl,cg _,rfl,rfl⟩) ?_
  ·exact zE
  rintro i δ _ _ ⟨rfl,hi,bu,rfl⟩;dsimp only[dq,List.foldl];have hi:i≤vl.length:=hi;have bu:lq t.text vl 0=lq t.text (vl.drop i) i:=bu;by_cases aV:i<vl.length
  ·(have sO:(i:Int)<(vl.length:Nat):=by omega);obtain⟨w,hw⟩:∃w,vl[i]? =some w:=⟨_,b9 aV⟩;obtain⟨gg,o,row,rfl,⟨rfl,-,-⟩,-,bG⟩:=hv.at hw;have a0:cH σ gg (o+i*2) [.string w.name]:=bG.sub (j:=0) rfl;rw[eC hw,lq] at bu;refine bm ?_;refine zG ?_;refine yC (YE) ?_;refine iA ?_;refine zO rfl (Rd.fE rfl rfl) ?_;refine aU ?_;refine XA.bE rfl (fun hc=>?_) (fun hc=>?_)
   ·rw[aq hc] at bu;(have YF:gk vl e (t::r)=.ok ((i:Int),r):=by rw[gk,aq YD,bu]);refine bm ?_;exact ao.ret (aB.one rfl rfl) (Rg.Hb kP E6) ⟨⟨by rw[dI,YF],rfl⟩,by rw[dJ,YF]⟩
   ·rw[ag hc] at bu;refine bt ?_;refine⟨bQ,i+1,_,zM,?_,⟨rfl,aV,bu,rfl⟩,ad⟩
    ·exact zE
  ·(have sO:¬(i:Int)<(vl.length:Nat):=by omega);(have pB:i=vl.length:=by omega);subst pB;rw[List.drop_length,lq] at bu;(have YF:gk vl e (t::r)=.error (bD e (t::r) 10):=by rw[gk,aq YD,bu]);refine Jc ?_;refine yC (YE) ?_;refine eA ?_;refine yC (oV σ L p c0 e _ b k 10 hL hk) ?_;refine bJ ?_;rw[hd];exact ao.ret (aB.one rfl rfl) (Rg.Ag hk (fu au)) ⟨⟨by rw[dI,YF],rfl⟩,by rw[dJ,YF]⟩
end
theorem QH (σ:PH) (k:Int):ah Tryz.prog 164 #[i64 k] σ [] (aA fun v aj al=>v=.string (cS k)∧σ=aj∧al=[]):=by
 by_cases h1:k<1
 ·(have hw:cS k=ByteArray.empty:=by rw[cS,ag ad]);rw[hw];refine cM Tryz.func164 ?_;refine bg ?_;refine zw rfl (ax.bs (fun _ _=>ae) rfl rfl rfl rfl rfl) ?_;rintro _ _ _ ⟨g4,rfl,rfl,rfl⟩;refine rb ?_;exact bC rfl rfl ⟨rfl,rfl,rfl⟩
 by_cases h7:k>8
 ·(have hw:cS k=ByteArray.empty:=by rw[cS,ag ad]);rw[hw];refine cM Tryz.func164 ?_;refine bg ?_;refine zw rfl (ax.bs (fun _ _=>ae) rfl rfl rfl rfl rfl) ?_;rintro _ _ _ ⟨g4,rfl,rfl,rfl⟩;refine dC ?_;refine iQ ?_;refine bg ?_;exact bC rfl rfl ⟨rfl,rfl,rfl⟩
 (have uF:k=1∨k=2∨k=3∨k=4∨k=5∨k=6∨k=7∨k=8:=by omega);clear h1 h7;rcases uF with rfl|rfl|rfl|rfl|rfl|rfl|rfl|rfl
 ·refine cM Tryz.func164 ?_;refine bg ?_;refine zw rfl (ax.bs (fun _ _=>ae) rfl rfl rfl rfl rfl) ?_;rintro _ _ _ ⟨g4,rfl,rfl,rfl⟩;refine jZ ?_;exact bC rfl rfl ⟨rfl,rfl,rfl⟩
 ·refine cM Tryz.func164 ?_;refine bg ?_;refine zw rfl (ax.bs (fun _ _=>ae) rfl rfl rfl rfl rfl) ?_;rintro _ _ _ ⟨g4,rfl,rfl,rfl⟩;refine jZ ?_;exact bC rfl rfl ⟨rfl,rfl,rfl⟩
 ·refine cM Tryz.func164 ?_;refine bg ?_;refine zw rfl (ax.bs (fun _ _=>ae) rfl rfl rfl rfl rfl) ?_;rintro _ _ _ ⟨g4,rfl,rfl,rfl⟩;refine jZ ?_;exact bC rfl rfl ⟨rfl,rfl,rfl⟩
 ·refine cM Tryz.func164 ?_;refine bg ?_;refine zw rfl (ax.bs (fun _ _=>ae) rfl rfl rfl rfl rfl) ?_;rintro _ _ _ ⟨g4,rfl,rfl,rfl⟩;refine jZ ?_;exact bC rfl rfl ⟨rfl,rfl,rfl⟩
 ·refine cM Tryz.func164 ?_;refine bg ?_;refine zw rfl (ax.bs (fun _ _=>ae) rfl rfl rfl rfl rfl) ?_;rintro _ _ _ ⟨g4,rfl,rfl,rfl⟩;refine jZ ?_;exact bC rfl rfl ⟨rfl,rfl,rfl⟩
 ·refine cM Tryz.func164 ?_;refine bg ?_;refine zw rfl (ax.bs (fun _ _=>ae) rfl rfl rfl rfl rfl) ?_;rintro _ _ _ ⟨g4,rfl,rfl,rfl⟩;refine jZ ?_;exact bC rfl rfl ⟨rfl,rfl,rfl⟩
 ·refine cM Tryz.func164 ?_;refine bg ?_;refine zw rfl (ax.bs (fun _ _=>ae) rfl rfl rfl rfl rfl) ?_;rintro _ _ _ ⟨g4,rfl,rfl,rfl⟩;refine jZ ?_;exact bC rfl rfl ⟨rfl,rfl,rfl⟩
 ·refine cM Tryz.func164 ?_;refine bg ?_;refine zw rfl (ax.bs (fun _ _=>ae) rfl rfl rfl rfl rfl) ?_;rintro _ _ _ ⟨g4,rfl,rfl,rfl⟩;refine jZ ?_;exact bC rfl rfl ⟨rfl,rfl,rfl⟩
theorem QI (σ:PH) (k:Int):ah Tryz.prog 125 #[i64 k] σ [] (aA fun v aj al=>v=.string (eH k)∧σ=aj∧al=[]):=by
 by_cases h1:k<1
 ·(have hw:eH k=ByteArray.empty:=by rw[eH,ag ad]);rw[hw];refine cM Tryz.func125 ?_;refine bg ?_;refine zw rfl (ax.bs (fun _ _=>ae) rfl rfl rfl rfl rfl) ?_;rintro _ _ _ ⟨g4,rfl,rfl,rfl⟩;refine rb ?_;exact bC rfl rfl ⟨rfl,rfl,rfl⟩
 by_cases h7:k>7
 ·(have hw:eH k=ByteArray.empty:=by rw[eH,ag ad]);rw[hw];refine cM Tryz.func125 ?_;refine bg ?_;refine zw rfl (ax.bs (fun _ _=>ae) rfl rfl rfl rfl rfl) ?_;rintro _ _ _ ⟨g4,rfl,rfl,rfl⟩;refine dC ?_;refine iQ ?_;refine bg ?_;exact bC rfl rfl ⟨rfl,rfl,rfl⟩
 (have uF:k=1∨k=2∨k=3∨k=4∨k=5∨k=6∨k=7:=by omega);clear h1 h7;rcases uF with rfl|rfl|rfl|rfl|rfl|rfl|rfl
 ·refine cM Tryz.func125 ?_;refine bg ?_;refine zw rfl (ax.bs (fun _ _=>ae) rfl rfl rfl rfl rfl) ?_;rintro _ _ _ ⟨g4,rfl,rfl,rfl⟩;refine jZ ?_;exact bC rfl rfl ⟨rfl,rfl,rfl⟩
 ·refine cM Tryz.func125 ?_;refine bg ?_;refine zw rfl (ax.bs (fun _ _=>ae) rfl rfl rfl rfl rfl) ?_;rintro _ _ _ ⟨g4,rfl,rfl,rfl⟩;refine jZ ?_;exact bC rfl rfl ⟨rfl,rfl,rfl⟩
 ·refine cM Tryz.func125 ?_;refine bg ?_;refine zw rfl (ax.bs (fun _ _=>ae) rfl rfl rfl rfl rfl) ?_;rintro _ _ _ ⟨g4,rfl,rfl,rfl⟩;refine jZ ?_;exact bC rfl rfl ⟨rfl,rfl,rfl⟩
 ·refine cM Tryz.func125 ?_;refine bg ?_;refine zw rfl (ax.bs (fun _ _=>ae) rfl rfl rfl rfl rfl) ?_;rintro _ _ _ ⟨g4,rfl,rfl,rfl⟩;refine jZ ?_;exact bC rfl rfl ⟨rfl,rfl,rfl⟩
 ·refine cM Tryz.func125 ?_;refine bg ?_;refine zw rfl (ax.bs (fun _ _=>ae) rfl rfl rfl rfl rfl) ?_;rintro _ _ _ ⟨g4,rfl,rfl,rfl⟩;refine jZ ?_;exact bC rfl rfl ⟨rfl,rfl,rfl⟩
 ·refine cM Tryz.func125 ?_;refine bg ?_;refine zw rfl (ax.bs (fun _ _=>ae) rfl rfl rfl rfl rfl) ?_;rintro _ _ _ ⟨g4,rfl,rfl,rfl⟩;refine jZ ?_;exact bC rfl rfl ⟨rfl,rfl,rfl⟩
 ·refine cM Tryz.func125 ?_;refine bg ?_;refine zw rfl (ax.bs (fun _ _=>ae) rfl rfl rfl rfl rfl) ?_;rintro _ _ _ ⟨g4,rfl,rfl,rfl⟩;refine jZ ?_;exact bC rfl rfl ⟨rfl,rfl,rfl⟩
end Go.Proofs.YtgeoiflbjcehcaaGreatDoor
