import Derived.Test.YtgeoiflbjcehcaaGreatDoorDd26
set_option maxHeartbeats 4000000
set_option maxRecDepth 2000
set_option linter.unusedVariables false
set_option linter.unusedSimpArgs false
namespace Go.Proofs.YtgeoiflbjcehcaaGreatDoor
open Go X
theorem EP (l:List ByteArray) (x:ByteArray) (h:l≠[]):jW (l++[x])=jW l++vR++x:=by
 cases l with
 |nil=>exact absurd rfl h
 |cons y r=>show (r++[x]).foldl _ y=_;rw[List.foldl_append];rfl
theorem IX (l:List ByteArray) (x:ByteArray):(jW l).size+x.size≤(jW (l++[x])).size∧(l≠[]→(jW l).size+1+x.size≤(jW (l++[x])).size):=by
 cases l with
 |nil=>exact⟨by show 0+x.size≤x.size;omega,fun h=>absurd rfl h⟩
 |cons y r=>
  rw[EP _ _ aZ];have e:vR.size=1:=rfl;simp only[jX];exact⟨ad,fun _=>by omega⟩
theorem ER (l:List ByteArray):∀(k i:Nat),i+k=l.length→(jW (l.take i)).size≤(jW l).size
 |0,i,h=>by rw[List.take_of_length_le ad];exact bX _
 |k+1,i,h=>by
  obtain⟨x,hx⟩:∃x,l[i]? =some x:=⟨_,b9 ad⟩;have h1:=ER l k (i+1) ad;rw[eV hx] at h1;have:=(IX (l.take i) x).1;omega
theorem yW (σ:PH) (g:Nat) (told:ByteArray) (pt:Option Addr) (ct:Nat) (v1 v2:Value) (text:List ByteArray) (hx:qm text) (hT:py σ) (hE:kT σ) (hb:told.size+200≤1000000000):
 ah Tryz.prog 28 #[ptr g] σ [vY g told (.slice pt text.length ct) v1 v2,aS 9 1 (.slice pt text.length ct) text.length (text.map Value.string)]
  (aA fun v aj al=>∃cs,v=.tuple #[.agg (List.toArray cs),.bool (decide (pN (br (jW text))=0))]∧gT aj cs (S7 (br (jW text)))∧σ.sub aj∧al=[vY g (Kc told (br (jW text))) (.slice pt text.length ct) v1 v2,aS 9 1 (.slice pt text.length ct) text.length (text.map Value.string)]):=by
 have Vw:=Oa σ (jW text) hx.s hT hE;obtain⟨Ff,yG⟩:=wP (s:=jW text);have Rb:=hx.n;have hxs:=hx.s;refine cM Tryz.func28 ?_;refine aU ?_;refine di (fun g2=>?_) (ae rfl);(refine dh ?_;refine XA.gen [(0,_),(2,_),(3,_),(4,_),(5,_)] iX fun δ=>?_);dsimp only[List.foldl];refine XA.loop [(4,5),(8,29)] (fun x:Nat×ByteArray=>[(5,i64 x.1),(4,.string x.2)]) (fun x aj al=>σ=aj∧x.1≤text.length∧x.2=jW (text.take x.1)∧al=[aw g2 [.slice none 0 0,.slice none 0 0] 69,vY g told (.slice pt text.length ct) v1 v2,aS 9 1 (.slice pt text.length ct) text.length (text.map Value.string)]) (fun x=>text.length-x.1) (0,ByteArray.empty) mO (Δ0:=_) ?_ (⟨rfl,cg _,rfl,rfl⟩) ?_
 ·exact zE
 rintro⟨i,t⟩ δ _ _ ⟨rfl,hi,ht,rfl⟩;dsimp only[dq,List.foldl];simp only at hi ht;by_cases aV:i<text.length
 ·obtain⟨x,ZS⟩:∃x,text[i]? =some x:=⟨_,b9 aV⟩;(have eL:(text.map Value.string)[i]? =some (.string x):=by rw[List.getElem?_map,ZS];rfl);have hz:=ER text (text.length-(i+1)) (i+1) ad;rw[eV ZS] at hz;have FE:=IX (text.take i) x;rw[←ht] at FE;by_cases h0:i=0
  ·subst h0;have ht0:t=ByteArray.empty:=ht;subst ht0;(have e3:ByteArray.empty++x=jW (text.take (0+1)):=by rw[eV ZS];show ByteArray.empty++x=x;rw[ByteArray.empty_append]);(first|refine XA.aW (R:=aS 9 1 _ _ _) zL (my aV) ?_|refine az.aW (R:=aS 9 1 _ _ _) zL (my aV) ?_|refine DA.aW (R:=aS 9 1 _ _ _) zL (my aV) ?_);rintro gt ⟨rfl,BB⟩;refine gX ?_;refine bm ?_;refine iQ ?_;refine rM ?_;refine zO rfl (X.Rd.fi rfl rfl (by show 0+x.size≤_;omega)) ?_;refine aR ?_;refine⟨bQ,(1,ByteArray.empty++x),_,zM,?_,⟨rfl,aV,e3,rfl⟩,ad⟩
   ·exact zE
  ·have ix:text.take i≠[]:=fun h=>by
    have:=congrArg List.length h;rw[List.length_take,List.length_nil] at this;omega
   have hz3:=FE.2 ix;(have e3:(t++vR)++x=jW (text.take (i+1)):=by rw[eV ZS,EP _ _ ix,ht]);(have OJ:((i:Nat):Int)>0:=by omega);have VG:vR.size=1:=rfl;(first|refine XA.aW (R:=aS 9 1 _ _ _) zL (my ad) ?_|refine az.aW (R:=aS 9 1 _ _ _) zL (my ad) ?_|refine DA.aW (R:=aS 9 1 _ _ _) zL (my ad) ?_);rintro gt ⟨rfl,BB⟩;refine gX ?_;refine bm ?_;refine iQ ?_;refine cp ?_;refine XA.aY rfl (by first|rfl|exact aM OJ) ?_;refine aU ?_;refine zO rfl (X.Rd.fi rfl rfl (by show t.size+1≤_;omega)) ?_;refine bm ?_;refine zO rfl (X.Rd.fi rfl rfl (by show (t++vR).size+x.size≤_;rw[jX];omega)) ?_;refine aR ?_;refine⟨bQ,(i+1,(t++vR)++x),_,zM,?_,⟨rfl,aV,e3,rfl⟩,ad⟩
   ·exact zE
 ·have DH:text.take i=text:=List.take_of_length_le ad;rw[DH] at ht;subst ht;refine bm ?_;refine ik ?_;refine bJ ?_;refine zw rfl (ax.cE (Vw) rfl) ?_;rintro _ cO _ ⟨_,⟨cs,rfl,hp,bz,rfl⟩,rfl⟩;refine az.cl ?_;have oW:=hT.mono bz;have lG:=hp;obtain⟨vs,bs,rfl,Ck,Cl⟩:=lG;obtain⟨OE,OF,rfl,-,-⟩:=Ck.shape;obtain⟨OG,OH,rfl,-,-⟩:=Cl.shape;refine cx ?_;refine di (fun g6=>?_) (ae rfl);refine di (fun g7=>?_) (ae rfl);refine bm ?_;by_cases h0:pN (br (jW text))=0
  ·obtain⟨pr,FO⟩:∃pr,br (jW text)=.ok pr:=by
    cases hq:br (jW text) with
    |ok pr=>exact⟨pr,rfl⟩
    |error x=>rw[hq] at h0;exact absurd h0 (kl hq)
   (have ha:Kc told (br (jW text))=told:=by rw[FO];rfl);rw[ha];refine XA.aI rfl (by first|rfl|exact aE (fun h=>h h0)) ?_;refine cx ?_;refine et 6 172 [] (ar.bB (R:=aw g6 _ _) zL (ar.bB (R:=aw g7 _ _) zL (ar.nil _))) ?_;refine bY ?_;refine aP.fw rfl rfl Gd.free (ax.st (ae rfl) rfl) ?_;rintro _ _ _ ⟨rfl,rfl,rfl⟩;refine stays ?_;refine bY ?_;exact ao.ret (X.aB.Hm rfl rfl rfl (Ld.bn (ae rfl) rfl zL rfl cK cJ)) zE ⟨_,rfl,hp,bz,rfl⟩
  ·obtain⟨x,FO⟩:∃x,br (jW text)=.error x:=by
    cases hq:br (jW text) with
    |ok pr=>rw[hq] at h0;exact absurd rfl h0
    |error x=>exact⟨x,rfl⟩
   (have ha:Kc told (br (jW text))=fq told (cD (cD eM (pN (br (jW text)))) (Dm (br (jW text)))):=by rw[FO];rfl);rw[ha]
   have e6:((⟨#[110,111,32]⟩:ByteArray)++cY (pN (br (jW text))))++⟨#[32]⟩++cY (Dm (br (jW text)))=cD (cD eM (pN (br (jW text)))) (Dm (br (jW text))):=by
    rw[cD,cD,ByteArray.append_assoc,←ByteArray.append_assoc (a:=eM)];rfl
   have BA:=eP Ff;have nh:=eP yG;have Kx:=gW Ff eM;have hl4:=gW yG (cD eM (pN (br (jW text))));have Ky:eM.size=2:=rfl;refine XA.aY rfl (by first|rfl|exact aM h0) ?_;refine XA.draw aC _ _ [8,10] [(0,.pu),(1,.pu),(2,.rd),(6,.pu),(7,.rd),(3,.wr),(4,.pu),(5,.pu),(8,.wr),(9,.pu),(10,.wr)] aC (PH.sub.refl _) (ar.bB (R:=aw g7 _ _) zL (ar.nil _)) ?_;refine dc ?_;refine aP.fw rfl rfl Gd.free (ax.cE (qu cO _ Ff oW) rfl) ?_;rintro _ _ _ ⟨_,⟨rfl,rfl,rfl⟩,rfl⟩;refine stays (aP.cl ?_);refine zu rfl rfl (X.Rd.fi rfl rfl (by show 3+(cY _).size≤_;omega)) ?_;refine zu rfl rfl (X.Rd.fi rfl rfl (by rw[jX];show 3+(cY _).size+1≤_;omega)) ?_;refine aP.b7 rfl rfl Gd.free aC (ax.cE (qu cO _ yG oW) rfl) ?_;rintro _ _ _ ⟨_,⟨rfl,rfl,rfl⟩,rfl⟩;refine aP.cl ?_;refine zu rfl rfl (X.Rd.fi rfl rfl (by rw[jX,jX];show 3+(cY _).size+1+(cY _).size≤_;omega)) ?_;rw[e6];refine aP.b7 rfl rfl Gd.free aC (ax.cE (kn cO g told _ v1 v2 _ ad) rfl) ?_;rintro _ _ _ ⟨_,⟨rfl,rfl,rfl⟩,rfl⟩;refine aP.cl ?_;refine cx ?_;refine et 6 172 [] (ar.bB (R:=aw g6 _ _) zL (ar.bB (R:=aw g7 _ _) zL (ar.nil _))) ?_;refine bY ?_;refine aP.fw rfl rfl Gd.free (ax.st (ae rfl) rfl) ?_;rintro _ _ _ ⟨rfl,rfl,rfl⟩;refine stays ?_;refine bY ?_;exact ao.ret (X.aB.Hm rfl rfl rfl (Ld.bn (ae rfl) rfl zL rfl cK cJ)) zE ⟨_,rfl,hp,bz,rfl⟩
theorem GR (σ:PH) (g4 g5:Nat) (p pn:Option Addr) (c cn:Nat) (w0:ByteArray) (r:List ByteArray) (n:List Int) (w:ByteArray) (many:Int) (h:bV 1 pw σ (.slice p (w0::r).length c) (w0::r)):
 ah Tryz.prog 27 #[.string w,i64 many,ptr g4,ptr g5] σ [aw g4 [.slice p (w0::r).length c] 22,aw g5 [.slice pn n.length cn] 28] (aA fun v aj al=>v=.bool (decide (w0=w∧(n.length:Int)=many))∧σ=aj∧al=[aw g4 [.slice p (w0::r).length c] 22,aw g5 [.slice pn n.length cn] 28]):=by
 obtain⟨g,o,row,rfl,⟨rfl,-⟩,-,bG⟩:=h.at (k:=0) (x:=w0) rfl;(have Dg:cH σ g o [.string w0]:=by simpa using bG);have j3:(0:Int)≤0∧(0:Int)<(((w0::r).length:Nat):Int):=⟨ad,G7⟩;by_cases hw:w0=w
 ·rw[show decide (w0=w∧(n.length:Int)=many)=decide ((n.length:Int)=many) from by rw[decide_eq_decide];exact⟨And.right,fun h=>⟨hw,h⟩⟩];refine Zd Tryz.func27 ?_;refine cp ?_;refine zO rfl (Rd.fE rfl rfl) ?_;refine aR ?_;exact bC rfl rfl ⟨rfl,rfl,rfl⟩
 ·rw[show decide (w0=w∧(n.length:Int)=many)=false from aE (fun h=>hw h.1)];refine Zd Tryz.func27 ?_;refine cp ?_;refine zO rfl (Rd.fE rfl rfl) ?_;refine aR ?_;exact bC rfl rfl ⟨rfl,rfl,rfl⟩
theorem GU {s:ByteArray} {k:Nat} (h:k<s.size):∃c:UInt8,s.data.toList[k]? =some c∧aJ s k=c.toNat:=by
 obtain⟨c,hc⟩:∃c,s.data.toList[k]? =some c:=⟨_,b9 (by rw[Array.length_toList];exact h)⟩;exact⟨c,hc,yM hc⟩
theorem ES (σ:PH) (ls:List ByteArray) (pl:Option Addr) (cl:Nat) (hl:bV 1 pw σ (.slice pl ls.length cl) ls):
 ah Tryz.prog 9 #[.slice pl ls.length cl] σ [] (aA fun v aj al=>v=.agg #[i64 (dj ls).1,i64 (dj ls).2]∧σ=aj∧al=[]):=by
 obtain⟨p0,c0,e0,rh,UZ⟩:=hl.shape;cases e0;simp only[maxLen] at UZ;by_cases EF:150<ls.length
 ·(have hF:dj ls=(3,-1):=by rw[dj,aq EF]);(have GK:((ls.length:Nat):Int)>150:=by omega);rw[hF];refine cM Tryz.func9 ?_;refine aU ?_;refine di (fun g2=>?_) (ae rfl);refine aR ?_;refine XA.aY rfl (by first|rfl|exact aM GK) ?_;refine aU ?_;refine yC (wi σ 3 (-1)) ?_;refine dc ?_;exact ao.ret (aB.Hn rfl rfl (Ld.bn (ae rfl) rfl zL rfl cK cJ)) (ar.nil _) ⟨rfl,rfl,rfl⟩
 ·(have GK:¬((ls.length:Nat):Int)>150:=by omega);(have hF0:dj ls=CK 0 ls:=by rw[dj,ag EF]);rw[hF0];refine cM Tryz.func9 ?_;refine aU ?_;refine di (fun g2=>?_) (ae rfl);refine aR ?_;refine XA.aI rfl (by first|rfl|exact aE GK) ?_;(refine bt ?_;refine XA.gen [(0,_),(2,_),(3,_)] iX fun δ=>?_);dsimp only[List.foldl];refine XA.loop [(3,4),(9,32)] (fun i:Nat=>[(3,i64 i)]) (fun i aj al=>σ=aj∧i≤ls.length∧CK 0 ls=CK (i:Nat) (ls.drop i)∧al=[aw g2 [i64 0,i64 0] 34]) (fun i=>ls.length-i) 0 eb (Δ0:=_) ?_ (⟨rfl,cg _,rfl,rfl⟩) ?_
  ·exact zE
  rintro i δ _ _ ⟨rfl,OJ,bu,rfl⟩;dsimp only[dq,List.foldl];by_cases aV:i<ls.length
  ·obtain⟨s,hs⟩:∃s,ls[i]? =some s:=⟨_,b9 aV⟩;obtain⟨gs,os,row,rfl,⟨rfl,rn⟩,-,bG⟩:=hl.at hs;rw[Nat.mul_one] at bG;(have gP:=fun h=>EE hs h);(have hht:=fun h=>IQ hs h);simp only[maxLen] at rn;refine bt ?_;refine iQ ?_;refine aR ?_;refine XA.loop [(4,4),(15,32)] (fun k:Nat=>[(4,i64 k)]) (fun k aj al=>σ=aj∧k≤s.size∧rF s=(s.data.toList.drop k).any (· ==10)∧al=[aw g2 [i64 0,i64 0] 34]) (fun k=>s.size-k) 0 eb (Δ0:=_) ?_ (⟨rfl,cg _,rfl,rfl⟩) ?_
   ·exact zE
   rintro k Dc _ _ ⟨rfl,tl,jg,rfl⟩;dsimp only[dq,List.foldl];by_cases Lp:k<s.size
   ·obtain⟨c,hc,hb⟩:=GU Lp;rw[eC hc,List.any_cons] at jg;by_cases wL:c=10
    ·subst wL;(have adx:((aJ s k:Nat):Int)=10:=by rw[hb];rfl);(have hn:rF s=true:=by rw[jg];rfl);rw[hht hn] at bu;rw[bu];refine bm ?_;refine iQ ?_;refine cp ?_;refine zO rfl (Rd.bh (ae rfl) rfl rfl rfl gD) ?_;refine cx ?_;refine XA.aY rfl (by first|rfl|exact aM adx) ?_;refine cx ?_;refine yC (wi σ 14 i) ?_;refine dB ?_;exact ao.ret (aB.Hn rfl rfl (Ld.bn (ae rfl) rfl zL rfl cK cJ)) (ar.nil _) ⟨rfl,rfl,rfl⟩
    ·(have hbn:¬((aJ s k:Nat):Int)=10:=fun e=>wL (UInt8.toNat_inj.1 (by rw[←hb];exact Int.ofNat.inj e)));(have Y0:rF s=(s.data.toList.drop (k+1)).any (· ==10):=by rw[jg,show (c==10)=false from by simpa using wL,Bool.false_or]);refine bm ?_;refine iQ ?_;refine cp ?_;refine zO rfl (Rd.bh (ae rfl) rfl rfl rfl gD) ?_;refine cx ?_;refine XA.aI rfl (by first|rfl|exact aE hbn) ?_;refine bt ?_;refine⟨bQ,k+1,_,zM,?_,⟨rfl,Lp,Y0,rfl⟩,ad⟩
     ·exact zE
   ·have HR:s.data.toList.drop k=[]:=List.drop_of_length_le (by rw[Array.length_toList];show s.size≤k;omega);rw[HR] at jg;have jg:rF s=false:=jg;have gP:=gP jg;refine bm ?_;refine ik ?_;refine bm ?_;refine⟨bQ,i+1,_,zM,?_,⟨rfl,aV,bu.trans gP,rfl⟩,ad⟩
    ·exact zE
  ·have HR:ls.drop i=[]:=List.drop_of_length_le ad;rw[HR] at bu;have bu:CK 0 ls=(0,0):=bu;rw[bu];refine bt ?_;refine ik ?_;refine bm ?_;exact ao.ret (aB.Hn rfl rfl (Ld.bn (ae rfl) rfl zL rfl cK cJ)) (ar.nil _) ⟨rfl,rfl,rfl⟩
def wa (σ:PH) (xv:Value) (lf:Option (Pr×List Int×Li)) (k:Nat) (Γ:List HP):Prop:=match lf with
 |none=>xv=.pointer none∧Γ=[]
 |some (p,inp,L)=>∃gb pc cc iv,xv=ptr gb∧bV 4 tR σ (.slice pc (ak p).length cc) (ak p)∧a7 σ iv inp∧fR σ gb (.slice pc (ak p).length cc) iv L.b Γ∧fX p inp L k∧yv L.b∧kY p.body∧(∀x∈inp,aG x)∧L.b.kept.st=0
theorem wa.le {σ:PH} {xv:Value} {lf:Option (Pr×List Int×Li)} {k l:Nat} {Γ:List HP} (h:wa σ xv lf k Γ) (hl:k≤l):wa σ xv lf l Γ:=by
 cases lf with
 |none=>exact h
 |some x=>
  obtain⟨p,inp,L⟩:=x;obtain⟨gb,pc,cc,iv,e,h1,h2,h3,h4,h5⟩:=h;exact⟨gb,pc,cc,iv,e,h1,h2,h3,h4.le hl,h5⟩
theorem wa.mono {σ aj:PH} {xv:Value} {lf:Option (Pr×List Int×Li)} {k:Nat} {Γ:List HP} (h:wa σ xv lf k Γ) (hs:σ.sub aj):wa aj xv lf k Γ:=by
 cases lf with
 |none=>exact h
 |some x=>
  obtain⟨p,inp,L⟩:=x;obtain⟨gb,pc,cc,iv,e,h1,h2,h3,h4,h5⟩:=h;exact⟨gb,pc,cc,iv,e,h1.mono hs (fun _ _ h=>h),h2.mono hs,h3.mono hs,h4,h5⟩
def rH (σ:PH) (g:Nat) (d:nt) (told:ByteArray) (k:Nat) (Γ:List HP):Prop:=∃pt ct pi ci xv cr,a7 σ (.slice pi d.input.length ci) d.input∧(∀x∈d.input,aG x)∧wa σ xv d.ua k cr∧
 Γ=vY g told (.slice pt d.text.length ct) (.slice pi d.input.length ci) xv::aS 9 1 (.slice pt d.text.length ct) d.text.length (d.text.map Value.string)::cr
theorem rH.mono {σ aj:PH} {g:Nat} {d:nt} {acc:ByteArray} {k:Nat} {Γ:List HP} (h:rH σ g d acc k Γ) (hs:σ.sub aj):rH aj g d acc k Γ:=by
 obtain⟨pt,ct,pi,ci,xv,cr,a,b,c,d⟩:=h;exact⟨pt,ct,pi,ci,xv,cr,a.mono hs,b,c.mono hs,d⟩
theorem vt {σ:PH} {gb:Nat} {pc:Option Addr} {cc:Nat} {iv:Value} {p:Pr} {inp:List Int} {L:Li} {k m:Nat} {Γ:List HP} (s:oP) (hc:bV 4 tR σ (.slice pc (ak p).length cc) (ak p)) (OM:a7 σ iv inp) (hL:fR σ gb (.slice pc (ak p).length cc) iv (jV (ak p) inp s L).1.b Γ) (cR:fX p inp L k) (hk:k+3000≤1000000) (hB:yv L.b) (hS:kY p.body) (hi:∀x∈inp,aG x) (j5:L.b.kept.st=0) (hm:(jV (ak p) inp s L).2≤m):wa σ (ptr gb) (some (p,inp,(jV (ak p) inp s L).1)) (k+m) Γ:=
 ⟨gb,pc,cc,iv,rfl,hc,OM,hL,(mw s cR hk).1.le ad,RX (ud hS) hi s hB,hS,hi,IK s cR hk j5⟩
theorem ET (σ:PH) (v:Value) (l:List Int) (h:a7 σ v l) (hT:py σ) (hl:∀x∈l,aG x) (hn:l.length≤1000000):
 ah Tryz.prog 53 #[v] σ [emp] (aA fun r aj al=>r=.string (dD l)∧σ=aj∧al=[emp]):=
 X.ah.pre (ar.nil _) (X.ah.post (EG σ v l h hT hl hn) (fun v aj al ⟨a,b,c⟩=>⟨[emp],⟨a,b,rfl⟩,ar.rL (ar.nil _)⟩))
theorem EU (σ:PH) (p:Option Addr) (c:Nat) (l:List Int) (hT:py σ) (hl:∀x∈l,aG x) (hn:l.length≤1000000):
 ah Tryz.prog 53 #[.slice p l.length c] σ [aS 2 1 (.slice p l.length c) l.length (ints l)] (aA fun r aj al=>r=.string (dD l)∧σ=aj∧al=[aS 2 1 (.slice p l.length c) l.length (ints l)]):=
 X.ah.Xc (enters Tryz.func53 rfl rfl) (fun m ⟨m1,m2,a,b,c,d,e⟩=>by obtain⟨u,h⟩:=cm m1 a;exact⟨u,aH u m1 m h d⟩) aH
  (fun cO _ hf hs=>EG cO _ l ⟨p,c,rfl,hf.1,hf.2.1,hf.2.2.2⟩ (hT.mono hs) hl hn)
theorem EV (code:List In) (inp:List Int):∀(f:Nat) (b:Be),(runM code inp f b).2≤f
 |0,b=>bX _
 |f+1,b=>by
  rw[runM];split
  ·exact cg _
  ·exact Nat.succ_le_succ (EV code inp f _)
theorem QO (σ:PH) (g:Nat) (d:nt) (told:ByteArray) (k:Nat) (s:ByteArray) (Γ:List HP) (hD:rH σ g d told k Γ) (hx:qm d.text) (hs:s.size≤1000000) (hT:py σ) (hE:kT σ) (hk:k+3000≤160000) (hb:told.size+4000000≤1000000000):
 ah Tryz.prog 17 #[ptr g,.string s] σ Γ (aA fun v aj al=>v=.tuple #[]∧σ.sub aj∧rH aj g (fK d s).1 (dR told (fK d s).2) (k+nY s) al):=by
 obtain⟨pt,ct,pi,ci,xv,cr,hi,lN,hL,rfl⟩:=hD;by_cases h1:0<s.size∧aJ s 0=124
 ·(have hA:fK d s=({d with text:=d.text++[s.extract 1 s.size]},[]):=by rw[fK,aq h1]);rw[hA];have Rb:=hx.n;have h0:=h1.1;(have Yp:((s.size:Nat):Int)>0:=by omega);(have UU:((aJ s 0:Nat):Int)=124:=by rw[h1.2];rfl);(have hlen:(d.text++[s.extract 1 s.size]).length=d.text.length+1:=by simp);(have UW:(d.text++[s.extract 1 s.size]).map Value.string=d.text.map Value.string++[.string (s.extract 1 s.size)]:=by simp);refine cw Tryz.func17 ?_;refine bJ ?_;(first|(refine zG ?_;refine zO rfl (Rd.bh (ae rfl) rfl rfl rfl gD) ?_)|refine zH ?_);refine bY ?_;refine XA.aY rfl (by first|rfl|exact aM UU) ?_;refine bS ?_;refine et 12 371871 [8,11] (ar.bB (R:=aw g _ _) zL (ar.nil _)) ?_;refine a8 ?_;refine zu rfl rfl (X.Rd.R6 (ae rfl) rfl rfl rfl ⟨au,ad⟩ rfl) ?_;refine aP.fw rfl rfl Gd.free (ax.jY (ae rfl) rfl (ae rfl)) ?_;rintro _ _ _ ⟨g31,rfl,rfl,rfl⟩;refine stays ?_;refine aP.b7 rfl rfl Gd.free aC (ax.kM (ae rfl) rfl (ae rfl) rfl rfl rfl) ?_;rintro _ _ _ ⟨p32,c32,rfl,rfl,rfl⟩;refine aU ?_;refine kS rfl (ax.st (ae rfl) rfl) ?_;refine bY ?_;exact ao.ret (al:=vY g told (.slice p32 (d.text.length+1) c32) (.slice pi d.input.length ci) xv::aS 9 1 (.slice p32 (d.text.length+1) c32) (d.text.length+1) (d.text.map Value.string++[.string (s.extract 1 s.size)])::cr) (aB.none rfl) oZ ⟨rfl,.refl _,p32,c32,pi,ci,xv,cr,hi,lN,hL.le (Nat.le_add_right _ _),by simp only[hlen,UW];rfl⟩
 ·have Yw:=AZ s;(have h1':¬(((aJ s 0:Nat):Int)=124∧((s.size:Nat):Int)>0):=fun h=>h1 ⟨ad,ad⟩);refine cw Tryz.func17 ?_;refine cx ?_;refine az.join (List.take_append_drop 8 _).symm [(16,23)] (fun _:Unit=>[(23,.bool (decide (((aJ s 0:Nat):Int)=124∧((s.size:Nat):Int)>0)))]) (fun _ aj al=>σ=aj∧al=vY g told (.slice pt d.text.length ct) (.slice pi d.input.length ci) xv::aS 9 1 (.slice pt d.text.length ct) d.text.length (d.text.map Value.string)::cr) ?_ ?_
  ·by_cases h0:((s.size:Nat):Int)>0
   ·rw[show decide (((aJ s 0:Nat):Int)=124∧((s.size:Nat):Int)>0)=decide (((aJ s 0:Nat):Int)=124) from by rw[decide_eq_decide];exact⟨And.left,fun h=>⟨h,h0⟩⟩];refine dc ?_;(first|(refine zG ?_;refine zO rfl (Rd.bh (ae rfl) rfl rfl rfl gD) ?_)|refine zH ?_);refine bY ?_;refine⟨bQ,(),_,zM,?_,⟨rfl,rfl⟩⟩
    ·exact ar.refl _
   ·rw[show decide (((aJ s 0:Nat):Int)=124∧((s.size:Nat):Int)>0)=false from aE (fun h=>h0 h.2)];refine dc ?_;(first|(refine zG ?_;refine zO rfl (Rd.bh (ae rfl) rfl rfl rfl gD) ?_)|refine zH ?_);refine bY ?_;refine⟨bQ,(),_,zM,?_,⟨rfl,rfl⟩⟩
    ·exact ar.refl _
  rintro-δ _ _ ⟨rfl,rfl⟩;dsimp only[dq,List.foldl];refine aU ?_;refine XA.aI rfl (by first|rfl|exact aE h1') ?_;refine dc ?_;refine zw rfl (ax.cE (EH σ s ad) rfl) ?_;rintro _ cO _ ⟨_,⟨p,c,rfl,uR,bz,rfl⟩,rfl⟩;refine az.cl ?_;have oW:=hT.mono bz;have Cz:=hE.mono bz
  cases hW:gq s with
  |nil=>
   (have hA:fK d s=(d,[]):=by rw[fK,ag h1,hW]);rw[hA];refine di (fun g4=>?_) (ae rfl);refine cp ?_;refine XA.aY rfl (by first|rfl|exact aM (by rw[hW];rfl)) ?_;refine aU ?_;exact ao.ret (aB.none rfl) ar.tail ⟨rfl,bz,pt,ct,pi,ci,xv,cr,hi.mono bz,lN,(hL.mono bz).le (Nat.le_add_right _ _),rfl⟩
  |cons w r=>
   rw[hW] at uR Yw;(have ix:¬(((w::r).length:Nat):Int)=0:=by rw[bF];omega);have j3:(0:Int)≤0∧(0:Int)<(((w::r).length:Nat):Int):=⟨ad,G7⟩;rw[bF] at Yw;obtain⟨gw,ow,Yx,rfl,⟨rfl,-⟩,-,EC⟩:=uR.at (k:=0) (x:=w) rfl;(have Cq:cH cO gw ow [.string w]:=by simpa using EC);refine di (fun g4=>?_) (ae rfl);refine cp ?_;refine XA.aI rfl (by first|rfl|exact aE ix) ?_;refine bY ?_;refine di (fun g5=>?_) (ae rfl);(refine bt ?_;refine XA.eX (ar.dU (e:=2) (size:=1) (ar.refl _)) ?_;refine XA.gen [(0,_),(4,_),(5,_),(6,_)] iX fun δ=>?_);dsimp only[List.foldl];refine XA.loop [(6,8),(40,61)] (fun x:Nat×(Option Addr×Nat)=>[(6,i64 ((x.1+1:Nat):Int))]) (fun x aj al=>cO=aj∧x.1≤r.length∧∃acc:List Int,acc.length=x.1∧(∀y∈acc,aG y)∧jc r=(jc (r.drop x.1)).map (acc++ ·)∧al=aS 2 1 (.slice x.2.1 x.1 x.2.2) x.1 (ints acc)::aw g5 [.slice x.2.1 x.1 x.2.2] 28::aw g4 [.slice (some ⟨gw,ow,none⟩) (w::r).length c] 22::vY g told (.slice pt d.text.length ct) (.slice pi d.input.length ci) xv::aS 9 1 (.slice pt d.text.length ct) d.text.length (d.text.map Value.string)::cr) (fun x=>r.length-x.1) (0,(none,0)) eb (Δ0:=_) ?_ (⟨rfl,cg _,[],rfl,fun y hy=>(by cases hy),aZ,rfl⟩) ?_
   ·exact ar.refl _
   rintro⟨j,pl,cl⟩ δ _ _ ⟨rfl,hj,acc,dr,yG,bu,rfl⟩;dsimp only[dq,List.foldl];simp only at hj dr bu;by_cases aV:j<r.length
   ·obtain⟨v,hv⟩:∃v,r[j]? =some v:=⟨_,b9 aV⟩;obtain⟨gv,ov,JM,ev0,⟨rfl,-⟩,-,Y1⟩:=uR.at (k:=j+1) (x:=v) hv;simp only[Option.some.injEq,Addr.mk.injEq,and_true] at ev0;obtain⟨rfl,rfl⟩:=ev0;rw[Nat.mul_one] at Y1;(have ZP:v.size≤100000000:=by have:=yL (s:=s) (x:=v) (by rw[hW];exact List.mem_cons_of_mem _ (fg hv));omega);(have rj:((j+1:Nat):Int)<(((w::r).length:Nat):Int):=by rw[bF];omega);have uG:(0:Int)≤((j+1:Nat):Int)∧((j+1:Nat):Int)<(((w::r).length:Nat):Int):=⟨ad,rj⟩
    cases hN:eY v with
    |none=>
     have zc:=sr bu hv hN;(have hA:fK d s=(d,[jQ]):=by rw[fK,ag h1,hW];simp only;rw[zc]);rw[hA];refine bt ?_;refine XA.aY rfl (by first|rfl|exact aM rj) ?_;refine aR ?_;refine yC (mc cO ZP oW Cz hN) ?_;refine lR ?_;refine yC (kn cO g told _ _ _ jQ (by show told.size+4+1≤_;omega)) ?_;refine bt ?_;exact ao.ret (aB.none rfl) (al:=vY g (fq told jQ) (.slice pt d.text.length ct) (.slice pi d.input.length ci) xv::aS 9 1 (.slice pt d.text.length ct) d.text.length (d.text.map Value.string)::cr) oZ ⟨rfl,bz,pt,ct,pi,ci,xv,cr,hi.mono bz,lN,(hL.mono bz).le (Nat.le_add_right _ _),rfl⟩
    |some m=>
     have gP:=yJ acc bu hv hN;have um:ints (acc++[m])=ints acc++[i64 m]:=by simp[ints]
     have Gz:∀y∈acc++[m],aG y:=fun y hy=>by
      rcases List.mem_append.1 hy with hy|hy
      ·exact yG y hy
      ·rw[List.mem_singleton] at hy;subst hy;exact NA hN
     refine bt ?_;refine XA.aY rfl (by first|rfl|exact aM rj) ?_;refine aR ?_;refine yC (ma cO ZP oW Cz hN) ?_;refine mI ?_;refine zw rfl (ax.jY (ae rfl) rfl (ae rfl)) ?_;rintro _ _ _ ⟨g60,rfl,rfl,rfl⟩;refine zw rfl (ax.kM (ae rfl) rfl (ae rfl) rfl rfl rfl) ?_;rintro _ _ _ ⟨p61,c61,rfl,rfl,rfl⟩;refine aR ?_;refine⟨bQ,(j+1,(p61,c61)),_,zM,?_,⟨rfl,aV,acc++[m],(by rw[bq,dr];rfl),Gz,gP,rfl⟩,(by show r.length-(j+1)<r.length-j;omega)⟩
     ·rw[um];exact ar.bB (dm.tail dm.head) (ar.refl _)
   ·have e:r.drop j=[]:=List.drop_of_length_le ad;(have uO:acc.length=r.length:=by omega);rw[e] at bu;subst dr;(have bu:jc r=some acc:=by rw[bu,jc];simp);(have VG:¬((acc.length+1:Nat):Int)<(((w::r).length:Nat):Int):=by rw[bF];omega);(have hA:fK d s=iW d w acc:=by rw[fK,ag h1,hW];simp only;rw[bu]);rw[hA]
    have sC:Co w acc≤nY s:=by
     rw[nY,hW,Co];simp only;split
     ·rename_i hq;rw[aq ⟨hq.1,ad⟩];exact bX _
     ·exact cg _
    refine bt ?_;refine XA.aI rfl (by first|rfl|exact aE VG) ?_;refine bg ?_;refine zO rfl (Rd.I1 xl xl) ?_;refine bg ?_;refine az.mX (R:=aS 2 1 _ _ _) zL cm aH ?_;rintro cL ⟨⟩ hf bT;have QE:a7 cL (.slice pl acc.length cl) acc:=⟨pl,cl,rfl,hf.1,hf.2.1,hf.2.2.2⟩;have kV:=bz.trans bT;have n8:=oW.mono bT;have xx:=Cz.mono bT;have GV:=uR.mono bT (fun _ _ h=>h);have UX:=Cq.mono bT;have vC:=hi.mono kV;have rW:=hL.mono kV;refine zw rfl (ax.cV (first:=[]) (cap:=[ptr g4,ptr g5]) rfl (GR cL g4 g5 _ pl _ cl w r acc Eg 0 GV) rfl) ?_;rintro _ _ _ ⟨_,⟨rfl,rfl,rfl⟩,rfl⟩;refine az.cl ?_;refine cx ?_;by_cases He:w=Eg∧(acc.length:Int)=0
    ·(have zm:iW d w acc=({d with text:=[]},[]):=by rw[iW,aq ⟨He.1,ad⟩]);rw[zm];refine XA.aY rfl (by first|rfl|exact aM He) ?_;refine bg ?_;exact ao.normal (aB.none rfl) (al:=vY g told (.slice none 0 0) (.slice pi d.input.length ci) xv::aS 9 1 (.slice none 0 0) 0 []::cr) oZ ⟨rfl,kV,none,0,pi,ci,xv,cr,vC,lN,rW.le (Nat.le_add_right _ _),rfl⟩
    refine XA.aI rfl (by first|rfl|exact aE He) ?_;refine dc ?_;refine zO rfl (Rd.fE rfl rfl) ?_;refine cx ?_;by_cases ri:w=Gq
    ·(have zm:iW d w acc=({d with input:=acc},[]):=by rw[iW,ag (fun h=>He ⟨h.1,ad⟩),aq ri]);rw[zm];refine XA.aY rfl (by first|rfl|exact aM ri) ?_;refine bJ ?_;exact ao.normal (aB.none rfl) (al:=vY g told (.slice pt d.text.length ct) (.slice pl acc.length cl) xv::aS 9 1 (.slice pt d.text.length ct) d.text.length (d.text.map Value.string)::cr) oZ ⟨rfl,kV,pt,ct,pl,cl,xv,cr,QE,yG,rW.le (Nat.le_add_right _ _),rfl⟩
    refine XA.aI rfl (by first|rfl|exact aE ri) ?_;refine cx ?_;refine zw rfl (ax.cV (first:=[]) (cap:=[ptr g4,ptr g5]) rfl (GR cL g4 g5 _ pl _ cl w r acc vS 0 GV) rfl) ?_;rintro _ _ _ ⟨_,⟨rfl,rfl,rfl⟩,rfl⟩;refine az.cl ?_;refine cx ?_;by_cases Vb:w=vS∧(acc.length:Int)=0
    ·(have zm:iW d w acc=iK d:=by rw[iW,ag (fun h=>He ⟨h.1,ad⟩),ag ri,aq ⟨Vb.1,ad⟩]);rw[zm];have kU:=yW cL g told pt ct (.slice pi d.input.length ci) xv d.text hx n8 xx ad
     cases hP:br (jW d.text) with
     |error x=>
      have h0:=kl hP;(have hB:iK d=(d,[oQ x]):=by rw[iK,hP]);rw[hP,show decide (pN (Except.error x:wg Pr)=0)=false from aE h0] at kU;rw[hB];refine XA.aY rfl (by first|rfl|exact aM Vb) ?_;refine cx ?_;refine zw rfl (ax.cE (kU) rfl) ?_;rintro _ fZ _ ⟨_,⟨cs,rfl,hp,cQ,rfl⟩,rfl⟩;refine az.cl ?_;obtain⟨vs,bs,rfl,Ck,Cl⟩:=hp;obtain⟨OE,OF,rfl,-,-⟩:=Ck.shape;obtain⟨OG,OH,rfl,-,-⟩:=Cl.shape;refine cx ?_;refine di (fun g10=>?_) (ae rfl);refine dh ?_;exact ao.ret (aB.none rfl) (al:=vY g (fq told (oQ x)) (.slice pt d.text.length ct) (.slice pi d.input.length ci) xv::aS 9 1 (.slice pt d.text.length ct) d.text.length (d.text.map Value.string)::cr) oZ ⟨rfl,kV.trans cQ,pt,ct,pi,ci,xv,cr,vC.mono cQ,lN,(rW.mono cQ).le (Nat.le_add_right _ _),rfl⟩
     |ok pr=>
      obtain⟨Fc,hN⟩:=oG hP;have Yj:=sf pr;rw[hP] at kU;refine XA.aY rfl (by first|rfl|exact aM Vb) ?_;refine cx ?_;refine zw rfl (ax.cE (kU) rfl) ?_;rintro _ fZ _ ⟨_,⟨cs,rfl,hp,cQ,rfl⟩,rfl⟩;refine az.cl ?_;have Ob:=kV.trans cQ;have Uy:=n8.mono cQ;have Jn:=vC.mono cQ;have Ux:kY pr.body:=hp.i;have lG:=hp;obtain⟨vs,bs,rfl,Ck,Cl⟩:=lG;obtain⟨OE,OF,rfl,-,-⟩:=Ck.shape;obtain⟨OG,OH,rfl,-,-⟩:=Cl.shape;refine cx ?_;refine di (fun g10=>?_) (ae rfl);refine sT ?_;by_cases Pw:40<d.input.length
      ·(have hB:iK d=(d,[cD eM 1]):=by rw[iK,hP];simp only;rw[aq Pw]);rw[hB];(have Vc:((d.input.length:Nat):Int)>40:=by omega);have Cu:=eP (n:=1) ⟨au,au⟩;(have e6:(⟨#[110,111,32]⟩:ByteArray)++cY 1=cD eM 1:=by rw[cD,←ByteArray.append_assoc];rfl);refine XA.aY rfl (by first|rfl|exact aM Vc) ?_;refine cx ?_;refine yC (qu fZ 1 ⟨au,au⟩ Uy) ?_;refine zO rfl (X.Rd.fi rfl rfl (by show 3+(cY 1).size≤_;omega)) ?_;rw[e6];refine yC (kn fZ g told _ _ _ (cD eM 1) (by have:=gW (n:=1) ⟨au,au⟩ eM;have:eM.size=2:=rfl;omega)) ?_;refine dc ?_;exact ao.ret (aB.none rfl) (al:=vY g (fq told (cD eM 1)) (.slice pt d.text.length ct) (.slice pi d.input.length ci) xv::aS 9 1 (.slice pt d.text.length ct) d.text.length (d.text.map Value.string)::cr) oZ ⟨rfl,Ob,pt,ct,pi,ci,xv,cr,Jn,lN,(rW.mono cQ).le (Nat.le_add_right _ _),rfl⟩
      ·(have hB:iK d=({d with ua:=some (pr,d.input,L0 (sizes pr.vars).toNat)},[VD]):=by rw[iK,hP];simp only;rw[ag Pw]);rw[hB];(have Vc:¬((d.input.length:Nat):Int)>40:=by omega);refine XA.aI rfl (by first|rfl|exact aE Vc) ?_;refine cx ?_;refine et 10 41070 [6,9] (ar.bB (R:=aw g10 _ _) zL (ar.bB (R:=aw g _ _) zL (ar.nil _))) ?_;refine a8 ?_;refine aP.b7 rfl rfl Gd.free aC (ax.cE (RL fZ _ pr _ d.input hp Jn Fc ad) rfl) ?_;rintro _ qf _ ⟨VI,⟨gb,pc,cc,rfl,jU,ns,zQ⟩,rfl⟩;refine aP.cl ?_;have adA:=zQ;obtain⟨sp9,sc9,ZT,ZU,ZV,ZW,k09,k19,k29,k39,k49,k59,hk9,rfl⟩:=adA;(try dsimp only[List.append,List.cons_append,List.nil_append]);refine aU ?_;refine kS rfl (ax.st (ae rfl) rfl) ?_;refine bY ?_;refine yC (kn qf g told _ _ _ VD (by show told.size+2+1≤_;omega)) ?_;refine aU ?_;refine ao.normal (aB.none rfl) ?_ ⟨rfl,Ob.trans jU,pt,ct,pi,ci,ptr gb,_,Jn.mono jU,lN,⟨gb,pc,cc,_,rfl,ns,Jn.mono jU,zQ,(RU Fc d.input ad ad).le (cg _),IB _,Ux,lN,rfl⟩,rfl⟩;exact zE
    refine XA.aI rfl (by first|rfl|exact aE Vb) ?_;refine cx ?_;refine zw rfl (ax.cV (first:=[]) (cap:=[ptr g4,ptr g5]) rfl (GR cL g4 g5 _ pl _ cl w r acc jR 1 GV) rfl) ?_;rintro _ _ _ ⟨_,⟨rfl,rfl,rfl⟩,rfl⟩;refine az.cl ?_;refine cx ?_;by_cases Vd:w=jR∧(acc.length:Int)=1
    ·(have zm:iW d w acc=(d,iL d (acc.getD 0 0)):=by rw[iW,ag (fun h=>He ⟨h.1,ad⟩),ag ri,ag (fun h=>Vb ⟨h.1,ad⟩),aq ⟨Vd.1,ad⟩]);obtain⟨x0,qW⟩:∃x,acc[0]? =some x:=⟨_,b9 ad⟩;(have DJ:acc.getD 0 0=x0:=by simp[List.getD,qW]);have R5:=yG x0 (fg qW);obtain⟨AY,on,rfl,jN⟩:=QE.at qW;(have qn:cH cL AY on [i64 x0]:=by simpa using jN);rw[zm,DJ];have Ve:(0:Int)≤0∧(0:Int)<((acc.length:Nat):Int):=⟨ad,ad⟩;have kU:=yW cL g told pt ct (.slice pi d.input.length ci) xv d.text hx n8 xx ad
     cases hP:br (jW d.text) with
     |error x=>
      have h0:=kl hP;(have hB:iL d x0=[oQ x]:=by rw[iL,hP]);rw[hP,show decide (pN (Except.error x:wg Pr)=0)=false from aE h0] at kU;rw[hB];refine XA.aY rfl (by first|rfl|exact aM Vd) ?_;refine cx ?_;refine zw rfl (ax.cE (kU) rfl) ?_;rintro _ fZ _ ⟨_,⟨cs,rfl,hp,cQ,rfl⟩,rfl⟩;refine az.cl ?_;obtain⟨vs,bs,rfl,Ck,Cl⟩:=hp;obtain⟨OE,OF,rfl,-,-⟩:=Ck.shape;obtain⟨OG,OH,rfl,-,-⟩:=Cl.shape;refine cx ?_;refine di (fun g12=>?_) (ae rfl);refine dh ?_;exact ao.ret (aB.none rfl) (al:=vY g (fq told (oQ x)) (.slice pt d.text.length ct) (.slice pi d.input.length ci) xv::aS 9 1 (.slice pt d.text.length ct) d.text.length (d.text.map Value.string)::cr) oZ ⟨rfl,kV.trans cQ,pt,ct,pi,ci,xv,cr,vC.mono cQ,lN,(rW.mono cQ).le (Nat.le_add_right _ _),rfl⟩
     |ok pr=>
      obtain⟨Fc,hN⟩:=oG hP;have Yj:=sf pr;rw[hP] at kU;refine XA.aY rfl (by first|rfl|exact aM Vd) ?_;refine cx ?_;refine zw rfl (ax.cE (kU) rfl) ?_;rintro _ fZ _ ⟨_,⟨cs,rfl,hp,cQ,rfl⟩,rfl⟩;refine az.cl ?_;have Ob:=kV.trans cQ;have Uy:=n8.mono cQ;have Jn:=vC.mono cQ;have afb:=qn.mono cQ;have Ux:kY pr.body:=hp.i;have lG:=hp;obtain⟨vs,bs,rfl,Ck,Cl⟩:=lG;obtain⟨OE,OF,rfl,-,-⟩:=Ck.shape;obtain⟨OG,OH,rfl,-,-⟩:=Cl.shape;refine cx ?_;refine di (fun g12=>?_) (ae rfl);refine dV ?_;refine az.join (List.take_append_drop 18 _).symm [(121,138)] (fun _:Unit=>[(138,.bool (decide (((d.input.length:Nat):Int)>40∨x0<0∨x0>3000)))]) (fun _ aj al=>fZ=aj∧al=aw g12 [.slice OE pr.vars.length OF,.slice OG pr.body.length OH] 69::vY g told (.slice pt d.text.length ct) (.slice pi d.input.length ci) xv::aS 9 1 (.slice pt d.text.length ct) d.text.length (d.text.map Value.string)::aw g4 [.slice (some ⟨gw,ow,none⟩) (w::r).length c] 22::aw g5 [.slice (some ⟨AY,on,none⟩) acc.length cl] 28::cr) ?_ ?_
      ·by_cases z1:((d.input.length:Nat):Int)>40
       ·rw[show decide (((d.input.length:Nat):Int)>40∨x0<0∨x0>3000)=true from aM (.inl z1)];refine mI ?_;refine⟨bQ,(),_,zM,?_,⟨rfl,rfl⟩⟩
        ·exact ar.refl _
       by_cases z2:x0<0
       ·rw[show decide (((d.input.length:Nat):Int)>40∨x0<0∨x0>3000)=true from aM (.inr (.inl z2))];refine mI ?_;refine⟨bQ,(),_,zM,?_,⟨rfl,rfl⟩⟩
        ·exact ar.refl _
       ·rw[show decide (((d.input.length:Nat):Int)>40∨x0<0∨x0>3000)=decide (x0>3000) from by rw[decide_eq_decide];exact⟨fun h=>(h.resolve_left z1).resolve_left z2,fun h=>.inr (.inr h)⟩];refine mI ?_;refine⟨bQ,(),_,zM,?_,⟨rfl,rfl⟩⟩
        ·exact ar.refl _
      rintro-δ5 _ _ ⟨rfl,rfl⟩;dsimp only[dq,List.foldl];refine aU ?_;by_cases hr:((d.input.length:Nat):Int)>40∨x0<0∨x0>3000
      ·(have hB:iL d x0=[cD eM 1]:=by rw[iL,hP];simp only;rw[aq ad]);rw[hB];have Cu:=eP (n:=1) ⟨au,au⟩;(have e6:(⟨#[110,111,32]⟩:ByteArray)++cY 1=cD eM 1:=by rw[cD,←ByteArray.append_assoc];rfl);refine XA.aY rfl (by first|rfl|exact aM hr) ?_;refine cx ?_;refine yC (qu fZ 1 ⟨au,au⟩ Uy) ?_;refine zO rfl (X.Rd.fi rfl rfl (by show 3+(cY 1).size≤_;omega)) ?_;rw[e6];refine yC (kn fZ g told _ _ _ (cD eM 1) (by have:=gW (n:=1) ⟨au,au⟩ eM;have:eM.size=2:=rfl;omega)) ?_;refine dc ?_;exact ao.ret (aB.none rfl) (al:=vY g (fq told (cD eM 1)) (.slice pt d.text.length ct) (.slice pi d.input.length ci) xv::aS 9 1 (.slice pt d.text.length ct) d.text.length (d.text.map Value.string)::cr) oZ ⟨rfl,Ob,pt,ct,pi,ci,xv,cr,Jn,lN,(rW.mono cQ).le (Nat.le_add_right _ _),rfl⟩
      ·obtain⟨f,rfl⟩:∃f:Nat,x0=f:=⟨x0.toNat,ad⟩;have hid:=Qe fZ _ pr _ d.input f hp Jn Fc ad ad ad ad;obtain⟨-,-,mK,y5⟩:=dw Fc;have um:=ef mK;(have hB:iL d f=sn pr d.input f:=by rw[iL,hP];simp only;rw[ag ad,Int.toNat_natCast]);rw[hB];obtain⟨q1,q2⟩:=vm (ak pr) d.input f (sj (sizes pr.vars).toNat);have q3:=EV (ak pr) d.input f (sj (sizes pr.vars).toNat);have Nz:=Gx (ud Ux) lN f (IB (sizes pr.vars).toNat);refine XA.aI rfl (by first|rfl|exact aE hr) ?_;refine cx ?_;refine XA.join [(14,15),(143,154)] (fun y:Nat×((Be×Nat)×((Option Addr×Nat)×(Option Addr×Nat)))=>[(14,ptr y.1),(15,i64 ((y.2.1.2:Nat):Int))]) (fun y aj al=>fZ.sub aj∧runM (ak pr) d.input f (sj (sizes pr.vars).toNat)=y.2.1∧a7 aj (.slice y.2.2.1.1 y.2.1.1.out.length y.2.2.1.2) y.2.1.1.out∧a7 aj (.slice y.2.2.2.1 y.2.1.1.m.cells.length y.2.2.2.2) y.2.1.1.m.cells∧al=aw y.1 [i64 (qg y.2.1.1),.slice y.2.2.1.1 y.2.1.1.out.length y.2.2.1.2,.slice y.2.2.2.1 y.2.1.1.m.cells.length y.2.2.2.2] 75::vY g told (.slice pt d.text.length ct) (.slice pi d.input.length ci) xv::aS 9 1 (.slice pt d.text.length ct) d.text.length (d.text.map Value.string)::cr) ?_ ?_
       ·skip;refine XA.mM aC _ _ [9,10,11,13,14] 15 #[false,false,false,false,false,false,false,false,false,false,false,false,false,false,false] rfl rfl aC (PH.sub.refl _) (ar.bB (R:=aw g12 _ _) zL (ar.bB (R:=aw g _ _) zL (ar.bB (R:=aw g5 _ _) zL (ar.nil _)))) ?_;refine qr 0 #[tT,fF,fF,fF,fF,fF,fF,fF,fF,fF,fF,fF,fF,fF,fF] rfl (Rd.Bl rfl) ?_;refine qp 1 #[tT,tT,fF,fF,fF,fF,fF,fF,fF,fF,fF,fF,fF,fF,fF] rfl Rd.mv ?_;refine qp 2 #[tT,tT,tT,fF,fF,fF,fF,fF,fF,fF,fF,fF,fF,fF,fF] rfl (Rd.nilCheck rfl) ?_;refine qp 3 #[tT,tT,tT,tT,fF,fF,fF,fF,fF,fF,fF,fF,fF,fF,fF] rfl (Rd.fA rfl) ?_;refine qr 4 #[tT,tT,tT,tT,tT,fF,fF,fF,fF,fF,fF,fF,fF,fF,fF] rfl (Rd.yZ rfl (ae rfl) rfl) ?_;refine qr 5 #[tT,tT,tT,tT,tT,tT,fF,fF,fF,fF,fF,fF,fF,fF,fF] rfl (Rd.yZ rfl (ae rfl) rfl) ?_;refine qp 6 #[tT,tT,tT,tT,tT,tT,tT,fF,fF,fF,fF,fF,fF,fF,fF] rfl (Rd.K8 rfl rfl) ?_;refine qr 7 #[tT,tT,tT,tT,tT,tT,tT,tT,fF,fF,fF,fF,fF,fF,fF] rfl (Rd.yZ rfl (ae rfl) rfl) ?_;refine cX.w2 (i:=8) (j:=12) aC ?_ ?_
        ·refine qw #[tT,tT,tT,tT,tT,tT,tT,tT,tT,fF,fF,fF,fF,fF,fF] rfl (ax.cE hid rfl) ?_;rintro _ qf _ ⟨_,⟨b,kk,po,co,pc,cc,cZ,rfl,Kf,Bs,jU,rfl⟩,rfl⟩;refine⟨⟨zX,zE⟩,cX.re zC ?_⟩;refine qp 9 #[tT,tT,tT,tT,tT,tT,tT,tT,tT,tT,fF,fF,fF,fF,fF] rfl Rd.mv ?_;refine qp 10 #[tT,tT,tT,tT,tT,tT,tT,tT,tT,tT,tT,fF,fF,fF,fF] rfl (Rd.extract rfl rfl) ?_;refine qp 11 #[tT,tT,tT,tT,tT,tT,tT,tT,tT,tT,tT,tT,fF,fF,fF] rfl (Rd.extract rfl rfl) ?_;refine qa 12 ?_;refine qw #[tT,tT,tT,tT,tT,tT,tT,tT,tT,tT,tT,tT,tT,fF,fF] rfl (ax.alloc (ae rfl)) ?_;rintro _ _ _ ⟨g14,rfl,rfl,rfl⟩;refine⟨⟨zX,zE⟩,cX.re zC ?_⟩;refine qa 13 ?_;refine ji.b7 (bc:=#[tT,tT,tT,tT,tT,tT,tT,tT,tT,tT,tT,tT,tT,tT,fF]) rfl rfl Gd.free aC rfl aC (ax.st (ae rfl) rfl) ?_;rintro _ _ _ ⟨rfl,rfl,rfl⟩;refine cX.re zC ?_;refine qp 14 #[tT,tT,tT,tT,tT,tT,tT,tT,tT,tT,tT,tT,tT,tT,tT] rfl Rd.CZ ?_;refine cX.nil rfl ?_;refine DA.bI ⟨zK,(g14,((b,kk),((po,co),(pc,cc)))),_,zM,?_,jU,cZ,Kf,Bs,rfl⟩;exact oZ
        ·refine qw #[tT,tT,tT,tT,tT,tT,tT,tT,fF,fF,fF,fF,tT,fF,fF] rfl (ax.alloc (ae rfl)) ?_;rintro _ _ _ ⟨g14,rfl,rfl,rfl⟩;refine⟨⟨zX,zE⟩,cX.re zC ?_⟩;refine qa 8 ?_;refine qw #[tT,tT,tT,tT,tT,tT,tT,tT,tT,fF,fF,fF,tT,fF,fF] rfl (ax.cE hid rfl) ?_;rintro _ qf _ ⟨_,⟨b,kk,po,co,pc,cc,cZ,rfl,Kf,Bs,jU,rfl⟩,rfl⟩;refine⟨⟨zX,zE⟩,cX.re zC ?_⟩;refine qp 9 #[tT,tT,tT,tT,tT,tT,tT,tT,tT,tT,fF,fF,tT,fF,fF] rfl Rd.mv ?_;refine qp 10 #[tT,tT,tT,tT,tT,tT,tT,tT,tT,tT,tT,fF,tT,fF,fF] rfl (Rd.extract rfl rfl) ?_;refine qp 11 #[tT,tT,tT,tT,tT,tT,tT,tT,tT,tT,tT,tT,tT,fF,fF] rfl (Rd.extract rfl rfl) ?_;refine qa 13 ?_;refine ji.b7 (bc:=#[tT,tT,tT,tT,tT,tT,tT,tT,tT,tT,tT,tT,tT,tT,fF]) rfl rfl Gd.free aC rfl aC (ax.st (ae rfl) rfl) ?_;rintro _ _ _ ⟨rfl,rfl,rfl⟩;refine cX.re zC ?_;refine qp 14 #[tT,tT,tT,tT,tT,tT,tT,tT,tT,tT,tT,tT,tT,tT,tT] rfl Rd.CZ ?_;refine cX.nil rfl ?_;refine DA.bI ⟨zK,(g14,((b,kk),((po,co),(pc,cc)))),_,zM,?_,jU,cZ,Kf,Bs,rfl⟩;exact oZ
       rintro⟨g14,⟨b,kk⟩,⟨po,co⟩,⟨pc,cc⟩⟩ δ6 qf _ ⟨jU,cZ,Kf,Bs,rfl⟩;dsimp only[dq,List.foldl];refine bS ?_;simp only at cZ Kf Bs;rw[cZ] at q1 q2 q3 Nz;simp only at q1 q2 q3 Nz;have ZX:=Uy.mono jU;(have TU:b.out.length≤3000:=by have:(sj (sizes pr.vars).toNat).out.length=0:=rfl;omega);(have tz:b.m.cells.length≤48:=by have:(sj (sizes pr.vars).toNat).m.cells.length=(sizes pr.vars).toNat:=List.length_replicate;omega);have RZ:aG ((kk:Nat):Int):=⟨ad,ad⟩;have hkz:=eP RZ;have ain:=gW RZ k9;have aio:k9.size=4:=rfl;(have e6:(⟨#[116,111,111,107,32]⟩:ByteArray)++cY ((kk:Nat):Int)=cD k9 ((kk:Nat):Int):=by rw[cD,←ByteArray.append_assoc];rfl);(have mP:sn pr d.input f=cD k9 ((kk:Nat):Int)::jr (qg b) b.out b.m.cells:=by rw[sn,cZ]);rw[mP];refine bY ?_;refine yC (qu qf _ RZ ZX) ?_;refine zO rfl (X.Rd.fi rfl rfl (by show 5+(cY _).size≤_;omega)) ?_;rw[e6];refine yC (kn qf g told _ _ _ (cD k9 ((kk:Nat):Int)) ad) ?_;refine dc ?_
       have hz5:(fq told (cD k9 ((kk:Nat):Int))).size≤told.size+100:=by
        have z2:vR.size=1:=rfl;rw[fq];simp only[jX];omega
       refine yC (A0 qf g (fq told (cD k9 ((kk:Nat):Int))) _ _ _ (qg b) po pc _ _ co cc b.out b.m.cells emp emp (ET qf _ _ Kf ZX Nz.out ad) (ET qf _ _ Bs ZX Nz.m.2 ad) (Cp b) ZX Nz.out Nz.m.2 ad) ?_;refine aU ?_;exact ao.normal (aB.none rfl) (al:=vY g (dR (fq told (cD k9 ((kk:Nat):Int))) (jr (qg b) b.out b.m.cells)) (.slice pt d.text.length ct) (.slice pi d.input.length ci) xv::aS 9 1 (.slice pt d.text.length ct) d.text.length (d.text.map Value.string)::cr) oZ ⟨rfl,Ob.trans jU,pt,ct,pi,ci,xv,cr,Jn.mono jU,lN,((rW.mono cQ).mono jU).le (Nat.le_add_right _ _),rfl⟩
    cases wC:d.ua with
    |none=>
     rw[wC] at rW;obtain⟨rfl,rfl⟩:=rW;(have zm:iW d w acc=(d,[jQ]):=by rw[iW,ag (fun h=>He ⟨h.1,ad⟩),ag ri,ag (fun h=>Vb ⟨h.1,ad⟩),ag (fun h=>Vd ⟨h.1,ad⟩),wC]);rw[zm];refine XA.aI rfl (by first|rfl|exact aE Vd) ?_;refine a8 ?_;(iterate 3 (refine zO rfl (Rd.lE (ae rfl) rfl rfl) ?_;refine eA ?_));refine zO rfl (Rd.lE (ae rfl) rfl rfl) ?_;refine aR ?_;refine yC (kn cL g told _ _ _ jQ (by show told.size+4+1≤_;omega)) ?_;refine aU ?_;exact ao.normal (aB.none rfl) (al:=vY g (fq told jQ) (.slice pt d.text.length ct) (.slice pi d.input.length ci) (.pointer none)::aS 9 1 (.slice pt d.text.length ct) d.text.length (d.text.map Value.string)::[]) oZ ⟨rfl,kV,pt,ct,pi,ci,_,[],vC,lN,by rw[wC];exact⟨rfl,rfl⟩,rfl⟩
    |some lf=>
     obtain⟨lp,inp,L⟩:=lf;rw[wC] at rW;obtain⟨gb,pc,cc,iv,rfl,hc,OM,VL,cR,zQ,OL,Oc,j5⟩:=rW;(have zm:iW d w acc=ib d lp inp L w acc:=by rw[iW,ag (fun h=>He ⟨h.1,ad⟩),ag ri,ag (fun h=>Vb ⟨h.1,ad⟩),ag (fun h=>Vd ⟨h.1,ad⟩),wC]);rw[zm];(have hcz:L.b.m.cells.length≤48:=by rw[cR.iJ.cells];have:=(dw cR.iJ.ch).2.2.2;omega);have Gb:=cR.iJ.ol;obtain⟨sp9,sc9,ZT,ZU,ZV,ZW,k09,k19,k29,k39,k49,k59,hk9,rfl⟩:=id VL;refine XA.aI rfl (by first|rfl|exact aE Vd) ?_;refine a8 ?_;refine zO rfl (Rd.lE (ae rfl) rfl rfl) ?_;refine aU ?_;refine zG ?_;refine zw rfl (ax.cV (first:=[]) (cap:=[ptr g4,ptr g5]) rfl (GR cL g4 g5 _ pl _ cl w r acc rl 1 GV) rfl) ?_;rintro _ _ _ ⟨_,⟨rfl,rfl,rfl⟩,rfl⟩;refine az.cl ?_;refine bY ?_;by_cases Sg:w=rl∧(acc.length:Int)=1
     ·obtain⟨x0,qW⟩:∃x,acc[0]? =some x:=⟨_,b9 ad⟩;(have DJ:acc.getD 0 0=x0:=by simp[List.getD,qW]);have R5:=yG x0 (fg qW);obtain⟨AY,on,rfl,jN⟩:=QE.at qW;(have qn:cH cL AY on [i64 x0]:=by simpa using jN);(have rf:ib d lp inp L w acc=ia d lp inp L ⟨1,x0,0,0⟩:=by rw[ib,aq ⟨Sg.1,ad⟩,DJ]);rw[rf,km d lp inp L _ wC];have Ve:(0:Int)≤0∧(0:Int)<((acc.length:Nat):Int):=⟨ad,ad⟩;have qs:=Cr cL g told (.slice pt d.text.length ct) (.slice pi d.input.length ci) d lp inp L k ⟨1,x0,0,0⟩ gb pc cc iv _ (Int.le_refl _) (by show (0:Int)<18446744073709551616;decide) hc OM VL cR ad j5 n8 ad;refine XA.aY rfl (by first|rfl|exact aM Sg) ?_;refine a8 ?_;refine zw rfl (ax.cE (qs) rfl) ?_;rintro _ fZ _ ⟨_,⟨rfl,cQ,mY,kN,rfl⟩,rfl⟩;refine az.cl ?_;obtain⟨sp8,sc8,pl8,cl8,op8,oc8,k08,k18,k28,k38,k48,k58,Ov,rfl⟩:=id kN;(try dsimp only[List.append,List.cons_append,List.nil_append]);refine aU ?_;refine ao.normal (aB.none rfl) ?_ ⟨rfl,kV.trans cQ,pt,ct,pi,ci,ptr gb,_,vC.mono cQ,lN,(vt _ (hc.mono cQ (fun _ _ h=>h)) (OM.mono cQ) kN cR ad zQ OL Oc j5 (by rw[Co,aq ⟨.inl Sg.1,ad⟩];exact(mw _ cR ad).2.1)).le (Nat.add_le_add_left sC _),rfl⟩;exact zE
     refine XA.aI rfl (by first|rfl|exact aE Sg) ?_;refine a8 ?_;refine zO rfl (Rd.lE (ae rfl) rfl rfl) ?_;refine aU ?_;refine zG ?_;refine zw rfl (ax.cV (first:=[]) (cap:=[ptr g4,ptr g5]) rfl (GR cL g4 g5 _ pl _ cl w r acc qi 1 GV) rfl) ?_;rintro _ _ _ ⟨_,⟨rfl,rfl,rfl⟩,rfl⟩;refine az.cl ?_;refine bY ?_;by_cases VM:w=qi∧(acc.length:Int)=1
     ·obtain⟨x0,qW⟩:∃x,acc[0]? =some x:=⟨_,b9 ad⟩;(have DJ:acc.getD 0 0=x0:=by simp[List.getD,qW]);have R5:=yG x0 (fg qW);obtain⟨AY,on,rfl,jN⟩:=QE.at qW;(have qn:cH cL AY on [i64 x0]:=by simpa using jN);(have rf:ib d lp inp L w acc=ia d lp inp L ⟨2,0,0,j7 x0⟩:=by rw[ib,ag (fun h=>Sg ⟨h.1,ad⟩),aq ⟨VM.1,ad⟩,DJ]);rw[rf,km d lp inp L _ wC];have Ve:(0:Int)≤0∧(0:Int)<((acc.length:Nat):Int):=⟨ad,ad⟩;have qs:=Cr cL g told (.slice pt d.text.length ct) (.slice pi d.input.length ci) d lp inp L k ⟨2,0,0,j7 x0⟩ gb pc cc iv _ (wQ _) (wR _) hc OM VL cR ad j5 n8 ad;refine XA.aY rfl (by first|rfl|exact aM VM) ?_;refine bg ?_;refine zw rfl (ax.cE (qs) rfl) ?_;rintro _ fZ _ ⟨_,⟨rfl,cQ,mY,kN,rfl⟩,rfl⟩;refine az.cl ?_;obtain⟨sp8,sc8,pl8,cl8,op8,oc8,k08,k18,k28,k38,k48,k58,Ov,rfl⟩:=id kN;(try dsimp only[List.append,List.cons_append,List.nil_append]);refine aU ?_;refine ao.normal (aB.none rfl) ?_ ⟨rfl,kV.trans cQ,pt,ct,pi,ci,ptr gb,_,vC.mono cQ,lN,(vt _ (hc.mono cQ (fun _ _ h=>h)) (OM.mono cQ) kN cR ad zQ OL Oc j5 ((mw (⟨2,0,0,j7 x0⟩:oP) cR ad).2.2.elim (fun h=>by rw[h];exact cg _) (fun h=>by have:((jV (ak lp) inp ⟨2,0,0,j7 x0⟩ L).2:Int)≤0:=h;omega))).le (Nat.add_le_add_left sC _),rfl⟩;exact zE
     refine XA.aI rfl (by first|rfl|exact aE VM) ?_;refine a8 ?_;refine zO rfl (Rd.lE (ae rfl) rfl rfl) ?_;refine aU ?_;refine zG ?_;refine zw rfl (ax.cV (first:=[]) (cap:=[ptr g4,ptr g5]) rfl (GR cL g4 g5 _ pl _ cl w r acc la 3 GV) rfl) ?_;rintro _ _ _ ⟨_,⟨rfl,rfl,rfl⟩,rfl⟩;refine az.cl ?_;refine bY ?_;by_cases VN:w=la∧(acc.length:Int)=3
     ·obtain⟨x0,qW⟩:∃x,acc[0]? =some x:=⟨_,b9 ad⟩;(have DJ:acc.getD 0 0=x0:=by simp[List.getD,qW]);have R5:=yG x0 (fg qW);obtain⟨AY,on,rfl,jN⟩:=QE.at qW;(have qn:cH cL AY on [i64 x0]:=by simpa using jN);obtain⟨x1,rC⟩:∃x,acc[1]? =some x:=⟨_,b9 ad⟩;(have DK:acc.getD 1 0=x1:=by simp[List.getD,rC]);obtain⟨acU,on1,sA,Ih⟩:=QE.at rC;simp only[Option.some.injEq,Addr.mk.injEq,and_true] at sA;obtain⟨rfl,rfl⟩:=sA;(have UQ:cH cL AY (on+1) [i64 x1]:=by simpa using Ih);obtain⟨x2,PZ⟩:∃x,acc[2]? =some x:=⟨_,b9 ad⟩;(have KI:acc.getD 2 0=x2:=by simp[List.getD,PZ]);obtain⟨acV,on2,rI,DW⟩:=QE.at PZ;simp only[Option.some.injEq,Addr.mk.injEq,and_true] at rI;obtain⟨rfl,rfl⟩:=rI;(have UR:cH cL AY (on+2) [i64 x2]:=by simpa using DW);(have rf:ib d lp inp L w acc=ia d lp inp L ⟨3,x0,x1,j7 x2⟩:=by rw[ib,ag (fun h=>Sg ⟨h.1,ad⟩),ag (fun h=>VM ⟨h.1,ad⟩),aq ⟨VN.1,ad⟩,DJ,DK,KI]);rw[rf,km d lp inp L _ wC];have Ve:(0:Int)≤0∧(0:Int)<((acc.length:Nat):Int):=⟨ad,ad⟩;have qs:=Cr cL g told (.slice pt d.text.length ct) (.slice pi d.input.length ci) d lp inp L k ⟨3,x0,x1,j7 x2⟩ gb pc cc iv _ (wQ _) (wR _) hc OM VL cR ad j5 n8 ad;refine XA.aY rfl (by first|rfl|exact aM VN) ?_;refine et 13 1085592 [12] (ar.bB (R:=aw g5 _ _) zL (ar.nil _)) ?_;refine bm ?_;refine aP.b7 rfl rfl Gd.free aC (ax.cE (qs) rfl) ?_;rintro _ fZ _ ⟨_,⟨rfl,cQ,mY,kN,rfl⟩,rfl⟩;refine aP.cl ?_;obtain⟨sp8,sc8,pl8,cl8,op8,oc8,k08,k18,k28,k38,k48,k58,Ov,rfl⟩:=id kN;(try dsimp only[List.append,List.cons_append,List.nil_append]);refine aU ?_;refine ao.normal (aB.none rfl) ?_ ⟨rfl,kV.trans cQ,pt,ct,pi,ci,ptr gb,_,vC.mono cQ,lN,(vt _ (hc.mono cQ (fun _ _ h=>h)) (OM.mono cQ) kN cR ad zQ OL Oc j5 (by rw[Co,aq ⟨.inr VN.1,ad⟩];exact(mw _ cR ad).2.1)).le (Nat.add_le_add_left sC _),rfl⟩;exact zE
     refine XA.aI rfl (by first|rfl|exact aE VN) ?_;refine a8 ?_;refine zO rfl (Rd.lE (ae rfl) rfl rfl) ?_;refine aU ?_;refine zG ?_;refine zw rfl (ax.cV (first:=[]) (cap:=[ptr g4,ptr g5]) rfl (GR cL g4 g5 _ pl _ cl w r acc Eh 0 GV) rfl) ?_;rintro _ _ _ ⟨_,⟨rfl,rfl,rfl⟩,rfl⟩;refine az.cl ?_;refine bY ?_;by_cases S8:w=Eh∧(acc.length:Int)=0
     ·(have rf:ib d lp inp L w acc=(d,jr (qg L.b) L.b.out L.b.m.cells):=by rw[ib,ag (fun h=>Sg ⟨h.1,ad⟩),ag (fun h=>VM ⟨h.1,ad⟩),ag (fun h=>VN ⟨h.1,ad⟩),aq ⟨S8.1,ad⟩]);rw[rf];refine XA.aY rfl (by first|rfl|exact aM S8) ?_;refine a8 ?_;refine yC (M6 cL gb _ _ _ _ _ _ _ _ _ _ _ _ L.b.m.st ZT ZV L.b.m.cells.length ZU L.b.out.length ZW L.b.wrong) ?_;refine yC (A0 cL g told _ _ _ (qg L.b) ZV ZT _ _ ZW ZU L.b.out L.b.m.cells _ _ (EU cL ZV ZW _ n8 zQ.out ad) (EU cL ZT ZU _ n8 zQ.m.2 ad) (Cp L.b) n8 zQ.out zQ.m.2 ad) ?_;refine aU ?_;refine ao.normal (aB.none rfl) ?_ ⟨rfl,kV,pt,ct,pi,ci,ptr gb,_,vC,lN,by rw[wC];exact⟨gb,pc,cc,iv,rfl,hc,OM,VL,cR.le (Nat.le_add_right _ _),zQ,OL,Oc,j5⟩,rfl⟩;exact zE
     ·(have rf:ib d lp inp L w acc=(d,[jQ]):=by rw[ib,ag (fun h=>Sg ⟨h.1,ad⟩),ag (fun h=>VM ⟨h.1,ad⟩),ag (fun h=>VN ⟨h.1,ad⟩),ag (fun h=>S8 ⟨h.1,ad⟩)]);rw[rf];refine XA.aI rfl (by first|rfl|exact aE S8) ?_;refine aU ?_;refine yC (kn cL g told _ _ _ jQ (by show told.size+4+1≤_;omega)) ?_;refine aU ?_;refine ao.normal (aB.none rfl) ?_ ⟨rfl,kV,pt,ct,pi,ci,ptr gb,_,vC,lN,by rw[wC];exact⟨gb,pc,cc,iv,rfl,hc,OM,VL,cR.le (Nat.le_add_right _ _),zQ,OL,Oc,j5⟩,rfl⟩;exact zE
theorem Vf (σ:PH):ah Tryz.prog 7 #[] σ [] (aA fun v aj al=>∃g,v=ptr g∧σ=aj∧al=[aw g [.pointer none,.slice none 0 0,.slice none 0 0,.slice none 0 0,.pointer none] 49]):=by
 (refine zf0 Tryz.func7 ?_;refine bJ ?_;refine cP fun g2=>?_;refine bY ?_);exact bC rfl rfl ⟨_,rfl,rfl,rfl⟩
theorem Od (σ:PH):ah Tryz.prog 7 #[] σ [] (aA fun v aj al=>∃g,v=ptr g∧σ=aj∧vX aj g Qm 0 al):=
 X.ah.post (Vf σ) fun v aj al ⟨g,a,b,c⟩=>⟨_,⟨g,a,b,.pointer none,.slice none 0 0,none,0,none,0,.pointer none,[],⟨none,0,rfl,bX _,cg _,fun h=>absurd h (Nat.not_lt_zero _)⟩,(fun x hx=>by cases hx),⟨rfl,rfl⟩,rfl⟩,by rw[c];exact ar.bB dm.head (ar.dU (ar.nil _))⟩
theorem Y2 (σ:PH) (g:Nat) (d:nt) (Y3:ByteArray) (k:Nat) (ls:List ByteArray) (pl:Option Addr) (cl:Nat) (Γ:List HP) (hD:rH σ g d Y3 k Γ) (hl:bV 1 pw σ (.slice pl ls.length cl) ls) (Oo:vr d.text+nZ ls≤1000000) (hT:py σ) (hE:kT σ) (hk:k+gN ls+3000≤160000) (EF:ls.length≤150) (gO:∀j,j≤ls.length→(dR ByteArray.empty (dy d (ls.take j)).2).size≤4000000*j):
 ah Tryz.prog 10 #[ptr g,.slice pl ls.length cl] σ Γ (aA fun v aj al=>v=.string (dR ByteArray.empty (dy d ls).2)∧σ.sub aj∧rH aj g (dy d ls).1 (dR ByteArray.empty (dy d ls).2) (k+gN ls) al):=by
 obtain⟨p0,c0,e0,rh,UZ⟩:=hl.shape;cases e0;simp only[maxLen] at UZ;obtain⟨pt,ct,pi,ci,xv,cr,hi,lN,hL,rfl⟩:=hD;(refine cw Tryz.func10 ?_;refine mI ?_;refine XA.gen [(0,_),(1,_),(4,_),(5,_)] iX fun δ=>?_);dsimp only[List.foldl];refine XA.loop [(5,5),(9,20)] (fun i:Nat=>[(5,i64 i)]) (fun i aj al=>σ.sub aj∧i≤ls.length∧rH aj g (dy d (ls.take i)).1 (dR ByteArray.empty (dy d (ls.take i)).2) (k+gN (ls.take i)) al) (fun i=>ls.length-i) 0 eb (Δ0:=_) ?_ (⟨.refl _,cg _,pt,ct,pi,ci,xv,cr,hi,lN,hL,rfl⟩) ?_
 ·exact ar.refl _
 rintro j Dc cL mY ⟨bT,hj,hX⟩;dsimp only[dq,List.foldl];by_cases uP:j<ls.length
 ·obtain⟨s,hs⟩:∃s,ls[j]? =some s:=⟨_,b9 uP⟩;obtain⟨gs,os,row,rfl,⟨rfl,-⟩,-,bG⟩:=(hl.mono bT (fun _ _ h=>h)).at hs;rw[Nat.mul_one] at bG;have tz:=oU ls j;have ac3:=gO j ad;have DG:=oU ls (j+1);rw[eV hs,lO,gN,gN] at DG;have WW:=mV (ls.take j) d;have ZH:=uj ls j;have VH:=ED s (fg hs);have Kt:=QO cL g _ _ _ s mY hX (qm.of ad) ad (hT.mono bT) (hE.mono bT) ad ad;refine bt ?_;refine iQ ?_;refine aR ?_;refine zw rfl (ax.cE Kt rfl ar.US) ?_;rintro _ fZ _ ⟨UY,⟨rfl,cQ,hX3⟩,rfl⟩;refine az.eX C8 ?_;refine bt ?_;refine⟨bQ,j+1,_,zM,?_,⟨bT.trans cQ,uP,(by rw[eV hs,qt,so,lO];show rH _ _ _ _ (k+(gN (ls.take j)+(nY s+0))) _;rw[Nat.add_zero,←Nat.add_assoc];exact hX3)⟩,ad⟩
  ·exact ar.refl _
 ·have DH:ls.take j=ls:=List.take_of_length_le ad;rw[DH] at hX;obtain⟨pt2,ct2,Qi,Qj,xv2,VI,vC,U0,rW,rfl⟩:=hX;refine bt ?_;refine ik ?_;refine dh ?_;exact ao.ret (aB.one rfl rfl) (ar.refl _) ⟨rfl,bT,pt2,ct2,Qi,Qj,xv2,VI,vC,U0,rW,rfl⟩
def jo (s:ByteArray):Nat:=match gq s with
 |[]=>0
 |w::r=>if r.length≠0∧(w=rl∨w=la∨w=jR) then 1 else 0
def gy:List ByteArray→Nat
 |[]=>0
 |s::l=>jo s+gy l
theorem A8:∀(a b:List ByteArray),gy (a++b)=gy a+gy b
 |[],b=>by simp[gy]
 |s::a,b=>by rw[List.cons_append,gy,gy,A8 a b];omega
theorem GX (s:ByteArray):nY s≤3000*jo s:=by
 cases hW:gq s with
 |nil=>rw[nY,hW];exact cg _
 |cons w r=>
  (have e1:nY s=if (w=rl∨w=la)∧r.length≠0 then 3000 else 0:=by rw[nY,hW]);(have e2:jo s=if r.length≠0∧(w=rl∨w=la∨w=jR) then 1 else 0:=by rw[jo,hW]);rw[e1,e2];split
  ·rename_i h;rw[aq ⟨h.2,h.1.elim .inl (fun h=>.inr (.inl h))⟩];exact bX _
  ·exact cg _
theorem EW (s:ByteArray):jo s=1∨jo s=0:=by
 cases hW:gq s with
 |nil=>exact .inr (by rw[jo,hW])
 |cons w r=>
  (have e2:jo s=if r.length≠0∧(w=rl∨w=la∨w=jR) then 1 else 0:=by rw[jo,hW]);rw[e2];split
  ·exact .inl rfl
  ·exact .inr rfl
theorem sx:∀(l:List ByteArray),gN l≤3000*gy l
 |[]=>bX _
 |s::l=>by have:=GX s;have:=sx l;rw[gN,gy];omega
theorem A9:∀(l:List ByteArray),gy l≤l.length
 |[]=>bX _
 |s::l=>by
  have h:=EW s;have:=A9 l;rw[gy,bF];omega
theorem GY (σ:PH) (ls:List ByteArray) (pl:Option Addr) (cl:Nat) (hl:bV 1 pw σ (.slice pl ls.length cl) ls) (hz:nZ ls≤10000000) (hn:ls.length≤10000000):
 ah Tryz.prog 6 #[.slice pl ls.length cl] σ [] (aA fun v aj al=>v=.bool (decide (9000<nZ ls∨25<gy ls))∧σ.sub aj∧al=[]):=by
 obtain⟨p0,c0,e0,rh,UZ⟩:=hl.shape;cases e0;simp only[maxLen] at UZ;(refine cM Tryz.func6 ?_;refine lR ?_;refine XA.gen [(0,_),(2,_),(3,_),(4,_),(5,_)] iX fun δ=>?_);dsimp only[List.foldl];refine XA.loop [(3,47)] (fun i:Nat=>[(5,i64 i),(3,i64 (nZ (ls.take i):Nat)),(4,i64 (gy (ls.take i):Nat))]) (fun i aj al=>σ.sub aj∧i≤ls.length∧al=[]) (fun i=>ls.length-i) 0 (by exact⟨rfl,rfl,rfl,trivial⟩) (Δ0:=_) ?_ (⟨.refl _,cg _,rfl⟩) ?_
 ·exact zE
 rintro j Dc cL _ ⟨bT,hj,rfl⟩;dsimp only[dq,List.foldl];by_cases uP:j<ls.length
 ·obtain⟨s,hs⟩:∃s,ls[j]? =some s:=⟨_,b9 uP⟩;obtain⟨gs,os,row,rfl,⟨rfl,-⟩,-,bG⟩:=(hl.mono bT (fun _ _ h=>h)).at hs;rw[Nat.mul_one] at bG;have Cu:=uj ls j;have FE:=uj ls (j+1);rw[eV hs,wS,nZ,nZ] at FE;have VH:=ED s (fg hs);have uq:=A9 (ls.take j);rw[List.length_take] at uq;(have e1:((nZ (ls.take j):Nat):Int)+((s.size:Nat):Int)=((nZ (ls.take (j+1)):Nat):Int):=by rw[eV hs,wS,nZ,nZ];omega);(have e2:gy (ls.take (j+1))=gy (ls.take j)+jo s:=by rw[eV hs,A8,gy,gy];omega);refine bt ?_;refine iQ ?_;refine px ?_;rw[e1];refine zw rfl (ax.cE (EH cL s ad) rfl) ?_;rintro _ fZ _ ⟨_,⟨p,c,rfl,uR,cQ,rfl⟩,rfl⟩;refine az.cl ?_;refine dc ?_;refine az.join (List.take_append_drop 21 _).symm [(25,45)] (fun _:Unit=>[(45,.bool (decide (jo s=1)))]) (fun _ aj al=>fZ=aj∧al=[]) ?_ ?_
  ·cases hW:gq s with
   |nil=>
    rw[show decide (jo s=1)=false from aE (by rw[jo,hW];decide)];(have hq:¬((([]:List ByteArray).length:Nat):Int)>1:=by decide);refine bg ?_;(first|(refine zG ?_;refine zO rfl (Rd.fE rfl rfl) ?_)|refine zH ?_);refine bY ?_;(first|(refine zG ?_;refine zO rfl (Rd.fE rfl rfl) ?_)|refine zH ?_);refine dc ?_;(first|(refine zG ?_;refine zO rfl (Rd.fE rfl rfl) ?_)|refine zH ?_);refine bY ?_;refine⟨bQ,(),_,zM,?_,⟨rfl,rfl⟩⟩
    ·exact zE
   |cons w r=>
    rw[hW] at uR;(have um:jo s=if r.length≠0∧(w=rl∨w=la∨w=jR) then 1 else 0:=by rw[jo,hW]);by_cases hr:(((w::r).length:Nat):Int)>1
    ·(have Dx:r.length≠0:=by rw[bF] at hr;omega);obtain⟨gw,ow,Yx,rfl,⟨rfl,-⟩,-,EC⟩:=uR.at (k:=0) (x:=w) rfl;(have Cq:cH fZ gw ow [.string w]:=by simpa using EC);have j3:(0:Int)≤0∧(0:Int)<(((w::r).length:Nat):Int):=⟨ad,ad⟩;by_cases h1:w=rl
     ·rw[show decide (jo s=1)=true from aM (by rw[um,aq ⟨Dx,.inl h1⟩])];refine bg ?_;(first|(refine zG ?_;refine zO rfl (Rd.fE rfl rfl) ?_)|refine zH ?_);refine bY ?_;(first|(refine zG ?_;refine zO rfl (Rd.fE rfl rfl) ?_)|refine zH ?_);refine dc ?_;(first|(refine zG ?_;refine zO rfl (Rd.fE rfl rfl) ?_)|refine zH ?_);refine bY ?_;refine⟨bQ,(),_,zM,?_,⟨rfl,rfl⟩⟩
      ·exact zE
     by_cases h2:w=la
     ·rw[show decide (jo s=1)=true from aM (by rw[um,aq ⟨Dx,.inr (.inl h2)⟩])];refine bg ?_;(first|(refine zG ?_;refine zO rfl (Rd.fE rfl rfl) ?_)|refine zH ?_);refine bY ?_;(first|(refine zG ?_;refine zO rfl (Rd.fE rfl rfl) ?_)|refine zH ?_);refine dc ?_;(first|(refine zG ?_;refine zO rfl (Rd.fE rfl rfl) ?_)|refine zH ?_);refine bY ?_;refine⟨bQ,(),_,zM,?_,⟨rfl,rfl⟩⟩
      ·exact zE
     ·rw[show decide (jo s=1)=decide (w=jR) from by
       rw[decide_eq_decide,um];by_cases h3:w=jR
       ·rw[aq ⟨Dx,.inr (.inr h3)⟩];exact⟨fun _=>h3,fun _=>rfl⟩
       ·rw[ag (fun h=>h.2.elim h1 (fun h=>h.elim h2 h3))];exact⟨fun h=>(by cases h),fun h=>absurd h h3⟩]
      refine bg ?_;(first|(refine zG ?_;refine zO rfl (Rd.fE rfl rfl) ?_)|refine zH ?_);refine bY ?_;(first|(refine zG ?_;refine zO rfl (Rd.fE rfl rfl) ?_)|refine zH ?_);refine dc ?_;(first|(refine zG ?_;refine zO rfl (Rd.fE rfl rfl) ?_)|refine zH ?_);refine bY ?_;refine⟨bQ,(),_,zM,?_,⟨rfl,rfl⟩⟩
      ·exact zE
    ·rw[show decide (jo s=1)=false from aE (by rw[um,ag (fun h=>h.1 (by rw[bF] at hr;omega))];decide)];refine bg ?_;(first|(refine zG ?_;refine zO rfl (Rd.fE rfl rfl) ?_)|refine zH ?_);refine bY ?_;(first|(refine zG ?_;refine zO rfl (Rd.fE rfl rfl) ?_)|refine zH ?_);refine dc ?_;(first|(refine zG ?_;refine zO rfl (Rd.fE rfl rfl) ?_)|refine zH ?_);refine bY ?_;refine⟨bQ,(),_,zM,?_,⟨rfl,rfl⟩⟩
     ·exact zE
  rintro-Zf _ _ ⟨rfl,rfl⟩;dsimp only[dq,List.foldl];refine aU ?_;by_cases h1:jo s=1
  ·(have e3:((gy (ls.take j):Nat):Int)+1=((gy (ls.take (j+1)):Nat):Int):=by rw[e2,h1];omega);refine XA.aY rfl (by first|rfl|exact aM h1) ?_;refine dB ?_;rw[e3];refine⟨bQ,j+1,_,zM,?_,⟨bT.trans cQ,uP,rfl⟩,ad⟩
   ·exact zE
  ·have h0:jo s=0:=(EW s).resolve_left h1;(have e3:gy (ls.take j)=gy (ls.take (j+1)):=by rw[e2,h0,Nat.add_zero]);rw[e3];refine XA.aI rfl (by first|rfl|exact aE h1) ?_;refine bt ?_;refine⟨bQ,j+1,_,zM,?_,⟨bT.trans cQ,uP,rfl⟩,ad⟩
   ·exact zE
 ·have DH:ls.take j=ls:=List.take_of_length_le ad;rw[DH];by_cases h1:((nZ ls:Nat):Int)>9000
  ·rw[show decide (9000<nZ ls∨25<gy ls)=true from aM (.inl ad)];refine bt ?_;refine ik ?_;refine dV ?_;exact bC rfl rfl ⟨rfl,bT,rfl⟩
  ·rw[show decide (9000<nZ ls∨25<gy ls)=decide (((gy ls:Nat):Int)>25) from by rw[decide_eq_decide];omega];refine bt ?_;refine ik ?_;refine dV ?_;exact bC rfl rfl ⟨rfl,bT,rfl⟩
end Go.Proofs.YtgeoiflbjcehcaaGreatDoor
