import Derived.Test.YtgeoiflbjcehcaaGreatDoorDd19
set_option maxHeartbeats 4000000
set_option maxRecDepth 2000
set_option linter.unusedVariables false
set_option linter.unusedSimpArgs false
namespace Go.Proofs.YtgeoiflbjcehcaaGreatDoor
open Go X
def Uc (st:Int):Int:=if st=0 then 13 else if 1<st then IntKind.i64.wrap (st-2) else 0
theorem M7 (σ:PH) (g mb sb db pb:Nat) (cv iv:Value) (left:Int) (bR:Bool) (d:av) (s:eZ) (M:Me) (m:Mi) (out:List Int) (wrong:Bool) (n:Nat) (hS:cG M.C m) (hn:n≤m.cells.length) (hl:out.length≤1000000):
 ah Tryz.prog 72 #[ptr g,i64 n] σ [aw g [ptr mb,cv,iv,ptr pb,i64 left,.bool bR] 179,gJ mb sb db d s M,dp pb out wrong] (aA fun v aj al=>∃po co pc cc,v=.agg #[i64 (if wrong then 15 else Uc m.st),.slice po out.length co,.slice pc n cc]∧a7 aj (.slice po out.length co) out∧a7 aj (.slice pc n cc) (m.cells.take n)∧σ.sub aj∧al=[aw g [ptr mb,cv,iv,ptr pb,i64 left,.bool bR] 179,gJ mb sb db d s M,dp pb out wrong]):=by
 have y5:=hS.lc;have e4:M.ld 4=m.st:=hS.st;have y6:=jM σ mb sb db d s M 4;rw[e4] at y6;obtain⟨st,gP⟩:∃st,st=m.st:=⟨_,rfl⟩;rw[←gP] at y6⊢;refine cw Tryz.func72 ?_;refine aU ?_;refine di (fun g4=>?_) (ae rfl);refine bJ ?_;refine zw rfl (ax.cE (Qa σ pb out wrong hl) rfl) ?_;rintro _ _ _ ⟨_,⟨po,co,rfl,rfl,rfl⟩,rfl⟩;refine az.cl ?_;refine bS ?_;refine di (fun g5=>?_) (ae rfl);refine aR ?_;refine yC (y6) ?_;(first|refine XA.aW (R:=dp pb out wrong) zL (dp.aW) ?_|refine az.aW (R:=dp pb out wrong) zL (dp.aW) ?_|refine DA.aW (R:=dp pb out wrong) zL (dp.aW) ?_);rintro⟨q,cq⟩-;refine gX ?_;refine cx ?_;refine XA.join [(19,28)] (fun _:Unit=>[]) (fun _ aj al=>σ=aj∧al=[aw g5 [i64 (Uc st),.slice po out.length co,.slice none 0 0] 75,aw g4 [i64 0,.slice none 0 0,.slice none 0 0] 75,aw pb [.slice q out.length cq,i64 (yp wrong)] 168,aS 2 1 (.slice q out.length cq) out.length (ints out),aS 2 1 (.slice po out.length co) out.length (ints out),aw g [ptr mb,cv,iv,ptr pb,i64 left,.bool bR] 179,gJ mb sb db d s M]) ?_ ?_
 ·refine bJ ?_;by_cases h0:st=0
  ·rw[Uc,aq h0];refine XA.aY rfl (aM h0) ?_;refine a8 ?_;refine⟨bQ,(),_,zM,?_,⟨rfl,rfl⟩⟩
   ·exact zE
  by_cases h1:1<st
  ·rw[Uc,ag h0,aq h1];refine XA.aI rfl (aE h0) ?_;refine bg ?_;refine XA.aY rfl (aM h1) ?_;refine bJ ?_;refine⟨bQ,(),_,zM,?_,⟨rfl,rfl⟩⟩
   ·exact zE
  rw[Uc,ag h0,ag h1];refine XA.aI rfl (aE h0) ?_;refine bg ?_;refine XA.aI rfl (aE h1) ?_;refine cx ?_;refine⟨bQ,(),_,zM,?_,⟨rfl,rfl⟩⟩
  ·exact zE
 rintro⟨⟩ δ _ _ ⟨rfl,rfl⟩;dsimp only[dq,List.foldl];refine eA ?_;refine XA.join [(37,44)] (fun _:Unit=>[]) (fun _ aj al=>σ=aj∧al=[aw g5 [i64 (if wrong then 15 else Uc st),.slice po out.length co,.slice none 0 0] 75,aw g4 [i64 0,.slice none 0 0,.slice none 0 0] 75,aw pb [.slice q out.length cq,i64 (yp wrong)] 168,aS 2 1 (.slice q out.length cq) out.length (ints out),aS 2 1 (.slice po out.length co) out.length (ints out),aw g [ptr mb,cv,iv,ptr pb,i64 left,.bool bR] 179,gJ mb sb db d s M]) ?_ ?_
 ·skip
  cases wrong with
  |true=>
   refine dB ?_;refine⟨bQ,(),_,zM,?_,⟨rfl,rfl⟩⟩
   ·exact zE
  |false=>
   refine cx ?_;refine⟨bQ,(),_,zM,?_,⟨rfl,rfl⟩⟩
   ·exact zE
 rintro⟨⟩ Dc _ _ ⟨rfl,rfl⟩;dsimp only[dq,List.foldl];(refine bS ?_;refine XA.eX (ar.dU (e:=2) (size:=1) (ar.refl _)) ?_;refine bJ ?_;refine XA.gen [(0,_),(4,_),(5,_),(45,_),(46,_)] iX fun δ=>?_);dsimp only[List.foldl];refine XA.loop [(7,7),(46,61)] (fun x:Nat×(Option Addr×Nat)=>[(46,i64 x.1)]) (fun x aj al=>σ=aj∧x.1≤n∧al=[aw g5 [i64 (if wrong then 15 else Uc st),.slice po out.length co,.slice x.2.1 x.1 x.2.2] 75,aS 2 1 (.slice x.2.1 x.1 x.2.2) x.1 (ints (m.cells.take x.1)),aw g4 [i64 0,.slice none 0 0,.slice none 0 0] 75,aw pb [.slice q out.length cq,i64 (yp wrong)] 168,aS 2 1 (.slice q out.length cq) out.length (ints out),aS 2 1 (.slice po out.length co) out.length (ints out),aw g [ptr mb,cv,iv,ptr pb,i64 left,.bool bR] 179,gJ mb sb db d s M]) (fun x=>n-x.1) (0,(none,0)) eb (Δ0:=_) ?_ (⟨rfl,cg _,rfl⟩) ?_
 ·exact zE
 rintro⟨k,pc,cc⟩ Zf _ _ ⟨rfl,hk,rfl⟩;dsimp only[dq,List.foldl];have hk:k≤n:=hk;refine a8 ?_;refine XA.bE rfl (fun aV=>?_) (fun aV=>?_)
 ·(have aV:k<n:=by omega);have Fc:M.ld (5+(k:Int))=m.cells.getD k 0:=hS.ce k ad;obtain⟨y,hy⟩:∃y,y=m.cells.getD k 0:=⟨_,rfl⟩;(have hxk:m.cells[k]? =some y:=by rw[hy,ey,b9 ad];rfl);have DH:=Ac hxk;(have hlk:(ints (m.cells.take k)).length=k*1:=by rw[dz,List.length_take];omega);have Ya:=jM σ mb sb db d s M (5+(k:Int));rw[Fc,←hy] at Ya;have jd:dT [i64 y]:=kz rfl;refine aR ?_;refine et 13 1233714 [10,12] (ar.bB (R:=aw g5 _ _) zL (ar.bB (R:=aw g _ _) zL (ar.nil _))) ?_;refine bJ ?_;refine aP.fw rfl rfl Gd.free (ax.cE (Ya) rfl) ?_;rintro _ _ _ ⟨_,⟨rfl,rfl,rfl⟩,rfl⟩;refine stays (aP.cl ?_);refine aP.fw rfl rfl Gd.free (ax.jY (ae rfl) rfl (ae rfl)) ?_;rintro _ _ _ ⟨g58,rfl,rfl,rfl⟩;refine stays ?_;refine aP.b7 rfl rfl Gd.free aC (ax.kM (ae rfl) rfl (ae rfl) rfl rfl rfl) ?_;rintro _ _ _ ⟨p59,c59,rfl,rfl,rfl⟩;refine bS ?_;refine kS rfl (ax.st (ae rfl) rfl) ?_;refine bJ ?_;refine⟨bQ,(k+1,(p59,c59)),_,zM,?_,⟨rfl,aV,rfl⟩,gF⟩
  ·rw[DH,show ints (m.cells.take k++[y])=ints (m.cells.take k)++[i64 y] by simp[ints]];exact zE
 (obtain rfl:k=n:=by omega);refine bm ?_;refine DA.mX (R:=aS 2 1 (.slice po out.length co) _ _) zL cm aH ?_;rintro cO ⟨⟩ Bw bz;refine DA.mX (R:=aS 2 1 (.slice pc k cc) _ _) zL cm aH ?_;rintro cL ⟨⟩ n9 bT;refine DA.eX (ar.eT (Θ:=[aw pb [.slice q out.length cq,i64 (yp wrong)] 168,aS 2 1 (.slice q out.length cq) out.length (ints out)]) zD (dp.mk rfl rfl rfl) (ar.refl _)) ?_;exact ao.ret (aB.vP rfl rfl (Ld.bn (ae rfl) rfl zL rfl cK cJ)) zE ⟨po,co,pc,cc,rfl,fQ rfl (aH () _ _ Bw bT),fQ (by rw[List.length_take];omega) n9,bz.trans bT,rfl⟩
def bp (code:List In) (inp:List Int) (keep:Bool) (b:Be):Be:=if b.m.st=0 then cW code inp keep b else b
def mu (code:List In) (inp:List Int) (M:Me):Me:=if M.ld 4=0 then M.nU code inp else M
theorem J1 (inp:List Int) (x:In) (b:Be) (keep:Bool):(aN inp keep x b).m=(aN inp false x b).m∧(aN inp keep x b).out=(aN inp false x b).out∧(aN inp keep x b).wrong=(aN inp false x b).wrong:=by
 cases keep with
 |false=>exact⟨rfl,rfl,rfl⟩
 |true=>
  by_cases h:x.op=15
  ·obtain⟨op,a1,a2,a3⟩:=x;simp only at h;subst h;exact⟨rfl,rfl,rfl⟩
  ·(have e:aN inp true x b=aN inp false x b:=by simp only[aN,ag h]);rw[e];exact⟨rfl,rfl,rfl⟩
theorem Gh (code:List In) (inp:List Int) (b:Be) (keep:Bool):(cW code inp keep b).m=(cW code inp false b).m∧(cW code inp keep b).out=(cW code inp false b).out∧(cW code inp keep b).wrong=(cW code inp false b).wrong:=by
 rw[cW,cW]
 cases code[b.m.next]? with
 |none=>exact⟨rfl,rfl,rfl⟩
 |some x=>exact J1 inp x (bump b) keep
theorem Gi (code:List In) (inp:List Int) (b:Be) (keep:Bool):(bp code inp keep b).m=(bp code inp false b).m∧(bp code inp keep b).out=(bp code inp false b).out∧(bp code inp keep b).wrong=(bp code inp false b).wrong:=by
 rw[bp,bp];split
 ·exact Gh code inp b keep
 ·exact⟨rfl,rfl,rfl⟩
structure gU (p:Pr) (inp:List Int) (M:Me) (b:Be) (k:Nat):Prop where
 ch:bZ p=0
 inv:BY p inp b.out.length b.m
 sh:cG M.C b.m
 inl:inp.length≤1000000
 cl:(ak p).length≤1000000
 ol:b.out.length≤k
theorem gU.st {p:Pr} {inp:List Int} {M:Me} {b:Be} {k:Nat} (h:gU p inp M b k):M.ld 4=b.m.st:=h.sh.st
theorem gU.ok {p:Pr} {inp:List Int} {M:Me} {b:Be} {k:Nat} (h:gU p inp M b k) (hk:k≤1000000) (h0:b.m.st=0):∃x,np (ak p) inp b x∧b.m.stack.length<59:=by
 obtain⟨x,hx⟩:=h.inv.ok h.ch h0 h.inl (by have:=h.ol;omega) h.cl;obtain⟨h1,h2⟩:=h.inv.at_ h0;have:=MQ h.ch h1;exact⟨x,hx,ad⟩
theorem gU.next {p:Pr} {inp:List Int} {M:Me} {b:Be} {k:Nat} (h:gU p inp M b k) (hk:k≤1000000) (keep:Bool):gU p inp (mu (ak p) inp M) (bp (ak p) inp keep b) (k+1):=by
 have e:=h.st;by_cases h0:b.m.st=0
 ·obtain⟨x,hx,hs⟩:=h.ok hk h0;obtain⟨q1,q2,q3,-⟩:=h.inv.step (keep:=keep) h.ch hx;rw[mu,aq ad,bp,aq h0];exact⟨h.ch,q1,h.sh.step keep hx hs,h.inl,h.cl,by have:=h.ol;omega⟩
 ·rw[mu,ag ad,bp,ag h0];exact⟨h.ch,h.inv,h.sh,h.inl,h.cl,by have:=h.ol;omega⟩
theorem gU.cells {p:Pr} {inp:List Int} {M:Me} {b:Be} {k:Nat} (h:gU p inp M b k):b.m.cells.length=(sizes p.vars).toNat:=h.inv.cells
section
variable (σ:PH) (g mb sb db pb:Nat) (pc pi:Option Addr) (cc ci:Nat) (inp:List Int) (d:av) (s:eZ) (M:Me) (b:Be) (p:Pr) (k:Nat)
theorem Yb (hc:bV 4 tR σ (.slice pc (ak p).length cc) (ak p)) (hi:a7 σ (.slice pi inp.length ci) inp) (hg:s.gen<4611686018427387904) (h:gU p inp M b k) (hk:k≤1000000):
 ah Tryz.prog 156 #[ptr g] σ [aw g [ptr mb,.slice pc (ak p).length cc,.slice pi inp.length ci,ptr pb,i64 0,.bool false] 179,gJ mb sb db d s M,dp pb b.out b.wrong] (aA fun v aj al=>∃(d':av) (s':eZ),v=.bool (decide (b.m.st=0))∧s'.gen≤s.gen+1∧(d'=d∧s'=s∨Good d' s'∧dP d' s'=(mu (ak p) inp M).C∧b.m.st=0∧∃x,(ak p)[b.m.next]? =some x∧x.op=15)∧((∀x,(ak p)[b.m.next]? =some x→x.op≠15)→d'=d∧s'=s)∧((∀x,(ak p)[b.m.next]? =some x→x.op=15)→b.m.st=0→Good d' s'∧dP d' s'=(mu (ak p) inp M).C)∧σ.sub aj∧al=[aw g [ptr mb,.slice pc (ak p).length cc,.slice pi inp.length ci,ptr pb,i64 0,.bool false] 179,gJ mb sb db d' s' (mu (ak p) inp M),dp pb (bp (ak p) inp false b).out (bp (ak p) inp false b).wrong]):=by
 have e:=h.st;by_cases h0:b.m.st=0
 ·obtain⟨x,hx,hs⟩:=h.ok hk h0;rw[mu,aq ad,bp,aq h0];by_cases ki:x.op=15
  ·have e1:(cW (ak p) inp false b).out=b.out∧(cW (ak p) inp false b).wrong=b.wrong:=by
    rw[cW,hx.at_];obtain⟨op,a1,a2,a3⟩:=x;simp only at ki;subst ki;exact⟨rfl,rfl⟩
   rw[e1.1,e1.2];refine ah.ret (R:=fun v aj al=>∃cr,(∃(d':av) (s':eZ),v=.bool true∧s'.gen=s.gen+1∧dP d' s'=(M.nU (ak p) inp).C∧Good d' s'∧σ.sub aj∧cr=[aw g [ptr mb,.slice pc (ak p).length cc,.slice pi inp.length ci,ptr pb,i64 0,.bool false] 179,gJ mb sb db d' s' (M.nU (ak p) inp)])∧al=cr++[dp pb b.out b.wrong]) (((Qb σ g mb sb db pb pc pi cc ci (ak p) inp false d s M b x hc hg h.sh hx ki).frame [dp pb b.out b.wrong] (ar.refl _)).mono ?_) ?_
   ·rintro e aj _ ⟨cr,q,rfl⟩
    cases e with
    |returned v=>exact⟨cr,q,rfl⟩
    |panicked c=>exact q.elim
    |outgrown=>exact q.elim
   ·rintro v aj _ ⟨cr,⟨d',s',rfl,q1,q2,q3,q4,rfl⟩,rfl⟩;refine⟨d',s',by rw[aM h0],ad,.inr ⟨q3,q2,h0,x,hx.at_,ki⟩,fun q=>absurd ki (q x hx.at_),fun _ _=>⟨q3,q2⟩,q4,rfl⟩
  ·refine(T8 σ g mb sb db pb pc pi cc ci (ak p) inp 0 false d s M b x hc hi h.inl h.sh hx hs ki).ret ?_;rintro v aj _ ⟨rfl,rfl,rfl⟩;exact⟨d,s,by rw[aM h0],ad,.inl ⟨rfl,rfl⟩,fun _=>⟨rfl,rfl⟩,fun q=>absurd (q x hx.at_) ki,.refl _,rfl⟩
 ·rw[mu,ag ad,bp,ag h0];refine ah.ret (R:=fun v aj al=>∃cr,(v=.bool false∧σ=aj∧cr=[aw g [ptr mb,.slice pc (ak p).length cc,.slice pi inp.length ci,ptr pb,i64 0,.bool false] 179,gJ mb sb db d s M])∧al=cr++[dp pb b.out b.wrong]) (((Gf σ g mb sb db pb (.slice pc (ak p).length cc) (.slice pi inp.length ci) 0 false d s M ad).frame [dp pb b.out b.wrong] (ar.refl _)).mono ?_) ?_
  ·rintro e aj _ ⟨cr,q,rfl⟩
   cases e with
   |returned v=>exact⟨cr,q,rfl⟩
   |panicked c=>exact q.elim
   |outgrown=>exact q.elim
  ·rintro v aj _ ⟨cr,⟨rfl,rfl,rfl⟩,rfl⟩;exact⟨d,s,by rw[aE h0],ad,.inl ⟨rfl,rfl⟩,fun _=>⟨rfl,rfl⟩,fun _ q=>absurd q h0,.refl _,rfl⟩
end
theorem aB.ct {P:Program} {ρ:Env} {σ:PH} {Γ:List HP} {fn:Func} {t1 t3:Tmp} {T1:TypeId} {g1 o1:Nat} {v1 v3:Value} (hf:fn.results=#[.cell t1 T1,.tmp t3]) (h1:ρ t1=.pointer (some ⟨g1,o1,none⟩)) (h3:ρ t3=v3)
 (l1:∀h,Ho σ Γ h→Ld P h T1 g1 o1 v1):aB P fn ρ σ Γ (.tuple #[v1,v3]):=fun h hh w a hw he=>by
 have e1:=he.get t1;rw[h1] at e1;simp at e1;have e3:=he.get t3;rw[h3] at e3;simp at e3;simp[results,hf,e1,e3,asAddr,l1 h hh w hw]
theorem Io {p:Pr} (hc:bZ p=0) (inp:List Int):BY p inp 0 (sj (sizes p.vars).toNat).m:=by
 have hl:0<(ak p).length:=by
  have:ak p=aK p.vars p.body 0++[⟨16,0,0,0⟩]:=rfl;rw[this,bq];simp
 exact⟨fun _=>⟨hl,by simp[sj,wJ]⟩,by simp[sj],bX _,cg _⟩
theorem Qe (σ:PH) (cs:List Value) (p:Pr) (iv:Value) (inp:List Int) (fuel:Nat) (hp:gT σ cs p) (hi:a7 σ iv inp) (hc:bZ p=0) (hN:fh p.body≤10000) (pB:inp.length≤1000000) (hf:fuel≤1000000) (fG:(ak p).length≤1000000):
 ah Tryz.prog 31 #[.agg cs.toArray,iv,i64 fuel] σ [] (aA fun v aj al=>∃b k po co pc cc,runM (ak p) inp fuel (sj (sizes p.vars).toNat)=(b,k)∧v=.tuple #[.agg #[i64 (qg b),.slice po b.out.length co,.slice pc b.m.cells.length cc],i64 (k:Nat)]∧a7 aj (.slice po b.out.length co) b.out∧a7 aj (.slice pc b.m.cells.length cc) b.m.cells∧σ.sub aj∧al=[]):=by
 have lG:=hp;obtain⟨vs,bs,rfl,hv,hb⟩:=hp;obtain⟨pv,cv,rfl,jx,Hf⟩:=hv.shape;obtain⟨pi,ci,rfl,XZ,CB⟩:=hi.shape;obtain⟨B0,Yc⟩:∃B0,B0=sj (sizes p.vars).toNat:=⟨_,rfl⟩;(have hM0:BY p inp B0.out.length B0.m:=by rw[Yc];exact Io hc inp);(have hl0:B0.out.length≤0:=by rw[Yc];exact bX _);have eR:=RL σ _ p _ inp lG hi hc hN;rw[←Yc] at eR⊢;have iP:aQ Ft.zero 0 [i64 0,.slice none 0 0,.slice none 0 0]=[i64 0,.slice none 0 0,.slice none 0 0]:=rfl;(refine lS Tryz.func31 ?_;refine aU ?_;refine cP fun g3=>?_);refine di (fun g6=>?_) (ae rfl);refine bg ?_;refine zw rfl (ax.cE (eR) rfl) ?_;rintro _ cO _ ⟨_,⟨g,pc,cc,rfl,bz,ns,hB⟩,rfl⟩;refine az.cl ?_;obtain⟨sp,sc,pl,cl,op,oc,k0,k1,k2,k3,k4,k5,hk,rfl⟩:=hB;have hB:fR cO g (.slice pc (ak p).length cc) (.slice pi inp.length ci) B0 _:=⟨sp,sc,pl,cl,op,oc,k0,k1,k2,k3,k4,k5,hk,rfl⟩;(refine aR ?_;refine XA.gen [(2,_),(6,_),(7,_),(8,_),(9,_)] iX fun δ=>?_);dsimp only[List.foldl];refine XA.loop [(9,9),(13,21)] (fun x:Nat×Be=>[(9,i64 x.1)]) (fun x aj al=>cO.sub aj∧(∃cr,fR aj g (.slice pc (ak p).length cc) (.slice pi inp.length ci) x.2 cr∧al=aw g6 [i64 0,.slice none 0 0,.slice none 0 0] 75::cr)∧x.1≤fuel∧runM (ak p) inp fuel B0=((runM (ak p) inp (fuel-x.1) x.2).1,(runM (ak p) inp (fuel-x.1) x.2).2+x.1)∧BY p inp x.2.out.length x.2.m∧x.2.out.length≤x.1) (fun x=>fuel-x.1) (0,B0) eb (Δ0:=_) ?_ (⟨.refl _,⟨_,hB,rfl⟩,cg _,aZ,hM0,hl0⟩) ?_
 ·exact zE
 rintro⟨k,b⟩ δ cL _ ⟨bT,⟨cr,mP,rfl⟩,hkf,cZ,hM,Gb⟩;dsimp only[dq,List.foldl];simp only at mP hkf cZ hM Gb;obtain⟨Ip,Iq,Fe,J2,D8,Ir,m0,m1,m2,m3,m4,m5,kP,rfl⟩:=mP;by_cases aV:k<fuel
 ·obtain⟨f,hfu⟩:∃f,fuel-k=f+1:=⟨fuel-k-1,ad⟩;have mP:fR cL g (.slice pc (ak p).length cc) (.slice pi inp.length ci) b _:=⟨Ip,Iq,Fe,J2,D8,Ir,m0,m1,m2,m3,m4,m5,kP,rfl⟩;by_cases h0:b.m.st=0
  ·obtain⟨x,cR⟩:=hM.ok hc h0 pB ad fG;obtain⟨q1,q2,q3,-⟩:=hM.step (keep:=false) hc cR;rw[hfu,runM,ag ad] at cZ;refine bJ ?_;refine zG ?_;refine zw rfl (ax.cE (MN cL g pc cc (ak p) _ inp b x false _ (ns.mono bT (fun _ _ h=>h)) (hi.mono (bz.trans bT)) mP cR) rfl) ?_;rintro _ fZ _ ⟨_,⟨rfl,cQ,ry⟩,rfl⟩;refine az.cl ?_;obtain⟨KC,KD,Gj,KE,Gk,KG,n0,n1,n2,n3,n4,n5,CF,rfl⟩:=ry;have ry:fR fZ g (.slice pc (ak p).length cc) (.slice pi inp.length ci) (cW (ak p) inp false b) _:=⟨KC,KD,Gj,KE,Gk,KG,n0,n1,n2,n3,n4,n5,CF,rfl⟩;refine eA ?_;refine⟨bQ,(k+1,cW (ak p) inp false b),_,zM,?_,⟨bT.trans cQ,⟨_,ry,rfl⟩,ad,by rw[cZ,show fuel-(k+1)=f by omega];simp only[Prod.mk.injEq,true_and];omega,q1,by show (cW (ak p) inp false b).out.length≤k+1;omega⟩,gF⟩
   ·exact zE
  ·rw[hfu,runM,aq h0] at cZ;refine bJ ?_;refine zG ?_;refine zw rfl (ax.cE (step_done cL g _ _ b false _ mP h0) rfl) ?_;rintro _ _ _ ⟨_,⟨rfl,rfl,ry⟩,rfl⟩;refine az.cl ?_;obtain⟨KC,KD,Gj,KE,Gk,KG,n0,n1,n2,n3,n4,n5,CF,rfl⟩:=ry;refine bm ?_;refine yC (M6 cL g _ _ _ _ _ _ _ _ _ _ _ _ b.m.st Gj Gk _ _ _ _ b.wrong) ?_;dsimp only[List.append,List.cons_append,List.nil_append];refine az.mX (R:=aS 2 1 (.slice Gk b.out.length _) _ _) zL cm aH ?_;rintro fZ ⟨⟩ sG cQ;refine az.mX (R:=aS 2 1 (.slice Gj b.m.cells.length _) _ _) zL cm aH ?_;rintro qf ⟨⟩ TQ jU;refine a8 ?_;exact ao.ret (aB.ct rfl rfl rfl (Ld.bn (ae rfl) rfl zL rfl cK cJ)) (ar.nil _) ⟨b,k,Gk,_,Gj,_,by rw[cZ];simp,rfl,fQ rfl (aH () _ _ sG jU),fQ rfl TQ,((bz.trans bT).trans cQ).trans jU,rfl⟩
 ·rw[show fuel-k=0 by omega,runM] at cZ;refine bm ?_;refine ik ?_;refine bJ ?_;refine yC (M6 cL g _ _ _ _ _ _ _ _ _ _ _ _ b.m.st Fe D8 _ _ _ _ b.wrong) ?_;refine az.mX (R:=aS 2 1 (.slice D8 b.out.length _) _ _) zL cm aH ?_;rintro fZ ⟨⟩ sG cQ;refine az.mX (R:=aS 2 1 (.slice Fe b.m.cells.length _) _ _) zL cm aH ?_;rintro qf ⟨⟩ TQ jU;refine a8 ?_;exact ao.ret (aB.ct rfl rfl rfl (Ld.bn (ae rfl) rfl zL rfl cK cJ)) (ar.nil _) ⟨b,k,D8,_,Fe,_,by rw[cZ];simp,rfl,fQ rfl (aH () _ _ sG jU),fQ rfl TQ,((bz.trans bT).trans cQ).trans jU,rfl⟩
theorem lM (a:Int):gZ qY a=0:=by
 unfold gZ;split
 ·rename_i h;have h8:a.toNat/8<14:=by omega
  have e:qY.getD (a.toNat/8) av.bU=av.bU:=by
   rw[qY,ey,List.getElem?_replicate];split<;>rfl
  rw[e];(have h9:a.toNat%8<8:=by omega);generalize a.toNat%8=k at h9
  match k,h9 with
  |0,_=>rfl
  |1,_=>rfl
  |2,_=>rfl
  |3,_=>rfl
  |4,_=>rfl
  |5,_=>rfl
  |6,_=>rfl
  |7,_=>rfl
 ·rfl
theorem Ud {n:Nat} (h:n≤48):cG qY (sj n).m:=
 ⟨F4,lM _,lM _,lM _,lM _,lM _,fun k hk=>by rw[lM];simp[sj,ey,List.getElem?_replicate];split<;>rfl,fun j hj=>by simp[sj] at hj,by simpa[sj] using h,by simp[sj]⟩
def M0:Me:=⟨qY,wu⟩
theorem RM {p:Pr} (hc:bZ p=0) (inp:List Int) (hi:inp.length≤1000000) (hl:(ak p).length≤1000000):gU p inp M0 (sj (sizes p.vars).toNat) 0:=by
 obtain⟨-,-,mK,y5⟩:=dw hc;exact⟨hc,Io hc inp,Ud ad,hi,hl,bX _⟩
theorem Ue (σ:PH) (cs:List Value) (p:Pr) (iv:Value) (inp:List Int) (f:Nat) (hp:gT σ cs p) (hi:a7 σ iv inp) (hc:bZ p=0) (hl:inp.length≤40) (hf:f≤3000):
 ah Tryz.prog 68 #[.agg cs.toArray,iv,i64 f] σ [] (aA fun v aj al=>∃(c:Int) (s:RS) (po pc:Option Addr) (co cc:Nat),tX p inp f c s∧v=.tuple #[.agg #[i64 c,.slice po s.out.length co,.slice pc s.cells.length cc],i64 ((f:Int)-s.left),i64 0]∧a7 aj (.slice po s.out.length co) s.out∧a7 aj (.slice pc s.cells.length cc) s.cells∧s.left≤f∧σ.sub aj∧al=[]):=by
 refine(RD σ cs p iv inp f hp hi).ret ?_;rintro v aj al ⟨h1,h2,h3⟩;rw[ag (fun h=>h hc),ag ad] at h3;obtain⟨c,s,vo,vc,h4,h5,h6,h7,h8⟩:=h3;obtain⟨po,co,rfl,-,-⟩:=h6.shape;obtain⟨pc,cc,rfl,-,-⟩:=h7.shape;rw[Int.toNat_natCast] at h4 h8;exact⟨c,s,po,pc,co,cc,h4,h5,h6,h7,h8,h1,h2⟩
theorem J3 (σ:PH) (cs:List Value) (p:Pr) (iv:Value) (inp:List Int) (f:Int) (hp:gT σ cs p) (hi:a7 σ iv inp) (hc:bZ p=0) (hr:40<inp.length∨f<0∨3000<f):
 ah Tryz.prog 68 #[.agg cs.toArray,iv,i64 f] σ [] (aA fun v aj al=>v=.tuple #[.agg #[i64 0,.slice none 0 0,.slice none 0 0],i64 0,i64 1]∧σ.sub aj∧al=[]):=by
 refine(RD σ cs p iv inp f hp hi).ret ?_;rintro v aj al ⟨h1,h2,h3⟩;rw[ag (fun h=>h hc),aq hr] at h3;exact⟨h3,h1,h2⟩
theorem M8 (σ:PH) (g mb pb:Nat) (pc pi:Option Addr) (nc cc ni ci:Nat) (left:Int) (bR:Bool) (n:Int):
 ah Tryz.prog 158 #[ptr g,i64 n] σ [aw g [ptr mb,.slice pc nc cc,.slice pi ni ci,ptr pb,i64 left,.bool bR] 179] (aA fun v aj al=>v=.tuple #[]∧σ=aj∧al=[aw g [ptr mb,.slice pc nc cc,.slice pi ni ci,ptr pb,i64 n,.bool bR] 179]):=by
 refine cw Tryz.func158 ?_;refine bg ?_;exact iN rfl ⟨rfl,rfl,rfl⟩
def zr (code:List In) (m:Mi):Bool:=decide (m.st=0)&&(match code[m.next]? with|some x=>decide (x.op=15)|none=>false)
theorem M9 {code:List In} {m:Mi} (h:m.st≠0):zr code m=false:=by rw[zr,aE h];rfl
theorem yr {code:List In} {m:Mi} {x:In} (h:m.st=0) (hx:code[m.next]? =some x):zr code m=decide (x.op=15):=by rw[zr,aM h,hx];rfl
theorem D9 (σ:PH) (g mb sb db pb:Nat) (pc:Option Addr) (cc:Nat) (iv:Value) (left:Int) (bR:Bool) (d:av) (s:eZ) (M:Me) (b:Be) (inp:List Int) (p:Pr) (k:Nat) (hc:bV 4 tR σ (.slice pc (ak p).length cc) (ak p)) (h:gU p inp M b k) (hk:k≤1000000):
 ah Tryz.prog 157 #[ptr g] σ [aw g [ptr mb,.slice pc (ak p).length cc,iv,ptr pb,i64 left,.bool bR] 179,gJ mb sb db d s M] (aA fun v aj al=>v=.bool (zr (ak p) b.m)∧σ=aj∧al=[aw g [ptr mb,.slice pc (ak p).length cc,iv,ptr pb,i64 left,.bool bR] 179,gJ mb sb db d s M]):=by
 by_cases h0:b.m.st=0
 ·obtain⟨x,hx,-⟩:=h.ok hk h0;rw[yr h0 hx.at_];exact J0 σ g mb sb db pb pc cc (ak p) iv left bR d s M b inp x hc h.sh hx
 ·rw[M9 h0];exact D7 σ g mb sb db pb pc cc (ak p) iv left bR d s M (by rw[h.st];exact h0)
theorem B7 (σ:PH) (g:Nat) (pc:Option Addr) (cc:Nat) (iv:Value) (inp:List Int) (M:Me) (b:Be) (p:Pr) (k:Nat) (Γ:List HP) (hc:bV 4 tR σ (.slice pc (ak p).length cc) (ak p)) (hB:fR σ g (.slice pc (ak p).length cc) iv b Γ) (h:gU p inp M b k) (hk:k≤1000000):
 ah Tryz.prog 88 #[ptr g] σ Γ (aA fun v aj al=>v=.bool (zr (ak p) b.m)∧σ=aj∧fR aj g (.slice pc (ak p).length cc) iv b al):=by
 by_cases h0:b.m.st=0
 ·obtain⟨x,hx,-⟩:=h.ok hk h0;rw[yr h0 hx.at_];exact Gg σ g pc cc (ak p) iv inp b x Γ hc hB hx
 ·rw[M9 h0];exact B6 σ g _ iv b Γ hB h0
theorem yt (σ:PH) (g:Nat) (pc:Option Addr) (cc:Nat) (iv:Value) (inp:List Int) (M:Me) (b:Be) (p:Pr) (k:Nat) (keep:Bool) (Γ:List HP) (hc:bV 4 tR σ (.slice pc (ak p).length cc) (ak p)) (hi:a7 σ iv inp) (hB:fR σ g (.slice pc (ak p).length cc) iv b Γ) (h:gU p inp M b k) (hk:k≤1000000):
 ah Tryz.prog 52 #[ptr g,.bool keep] σ Γ (aA fun v aj al=>v=.bool (decide (b.m.st=0))∧σ.sub aj∧fR aj g (.slice pc (ak p).length cc) iv (bp (ak p) inp keep b) al):=by
 by_cases h0:b.m.st=0
 ·obtain⟨x,hx,-⟩:=h.ok hk h0;rw[aM h0,bp,aq h0];exact MN σ g pc cc (ak p) iv inp b x keep Γ hc hi hB hx
 ·rw[aE h0,bp,ag h0];refine(step_done σ g _ iv b keep Γ hB h0).ret ?_;rintro v aj al ⟨rfl,rfl,q⟩;exact⟨rfl,.refl _,q⟩
def jP (M:Me) (left:Int):Nat:=(max (((cz M.C M.dt).length:Int)+5-left) 0).toNat
def zt (mb sb db:Nat) (d:av) (s:eZ) (M:Me) (j:Nat):HP:=fun m=>∃x:List Bool×List (List Int),(Good d s∧r7 d s x.1 M.dt x.2 M.C)∧Sat [aw mb (bM sb x.1 M.dt x.2) 242,ck sb db s,bW db (gH d s (cz M.C M.dt) j)] m
theorem zt.aW {mb sb db:Nat} {d:av} {s:eZ} {M:Me} {j:Nat}:∀m,zt mb sb db d s M j m→∃x:List Bool×List (List Int),(Good d s∧r7 d s x.1 M.dt x.2 M.C)∧Sat [aw mb (bM sb x.1 M.dt x.2) 242,ck sb db s,bW db (gH d s (cz M.C M.dt) j)] m:=fun _ h=>h
theorem zt.mk {mb sb db:Nat} {d:av} {s:eZ} {C pg:List (List Int)} {inn dt:List Bool} {j:Nat} (hG:Good d s) (hM:r7 d s inn dt pg C):∀m,Sat [aw mb (bM sb inn dt pg) 242,ck sb db s,bW db (gH d s (cz C dt) j)] m→zt mb sb db d s ⟨C,dt⟩ j m:=fun _ h=>⟨(inn,pg),⟨hG,hM⟩,h⟩
theorem Na (σ:PH) (mb sb db:Nat) (d:av) (s:eZ) (M:Me):
 ah Tryz.prog 224 #[ptr mb] σ [gJ mb sb db d s M] (aA fun v aj al=>(∃(p:Option Addr) (c:Nat),v=.slice p (cz M.C M.dt).length c)∧σ=aj∧al=[gJ mb sb db d s M]):=by
 refine ah.aW .head gJ.aW (enters Tryz.func224 rfl rfl) ?_;rintro⟨inn,pg⟩ ⟨hG,hM⟩;refine ah.DZ (R:=fun v aj al=>∃cr,(∃(p:Option Addr) (c:Nat) (rows:List (List Value)),v=.slice p (cz M.C M.dt).length c∧σ=aj∧cr=[aw mb (bM sb inn M.dt pg) 242,aS 292 9 (.slice p (cz M.C M.dt).length c) (cz M.C M.dt).length rows.flatten])∧al=cr++[ck sb db s,bW db d]) ?_ ?_
 ·refine((H5 σ mb sb d s inn M.dt pg M.C hM).frame [ck sb db s,bW db d] (ar.refl _)).mono ?_;rintro e aj _ ⟨cr,h,rfl⟩
  cases e with
  |returned v=>obtain⟨p,c,rows,e1,-,e2,e3⟩:=h;exact⟨cr,⟨p,c,rows,e1,e2,e3⟩,rfl⟩
  |panicked c=>exact h.elim
  |outgrown=>exact h.elim
 ·rintro v aj _ ⟨_,⟨p,c,rows,rfl,rfl,rfl⟩,rfl⟩;exact⟨_,ar.eS (ar.bB .head (ar.bB (.tail (.head)) (ar.bB (.tail .head) (ar.nil _)))) (gJ.mk hG hM),⟨p,c,rfl⟩,rfl,rfl⟩
theorem Qf (σ:PH) (mb sb db:Nat) (d:av) (s:eZ) (M:Me) (left:Int) (hg:s.gen<4611686018427387904) (hl:0<left) (nh:left<9223372036854775808):
 ah Tryz.prog 225 #[ptr mb,i64 (max (((cz M.C M.dt).length:Int)+5-left) 0)] σ [gJ mb sb db d s M] (aA fun v aj al=>v=.bool false∧σ.sub aj∧al=[zt mb sb db d s M (jP M left)]):=by
 refine ah.aW .head gJ.aW (enters Tryz.func225 rfl rfl) ?_;rintro⟨inn,pg⟩ ⟨hG,hM⟩;have wo:(cz M.C M.dt).length≤14:=kf M.C M.dt 14;refine(Mh σ mb sb db d s inn M.dt pg M.C _ hG hg ⟨ad,ad⟩ hM).DZ ?_;rintro v aj _ ⟨j,wj,wD,Rx,rfl,hs,rfl⟩
 have hj:j=jP M left:=by
  unfold jP;rcases Nat.lt_or_ge j ((cz M.C M.dt).length+5) with h|h
  ·have:=wD h;omega
  ·have:=Rx ad (max (((cz M.C M.dt).length:Int)+5-left) 0).toNat ad;omega
 (have uP:j≠(cz M.C M.dt).length+5:=by rw[hj];unfold jP;omega);rw[ag uP,ag uP,←hj,aE uP];exact⟨_,ar.eS (ar.refl _) (zt.mk hG hM),rfl,hs,rfl⟩
section
variable (σ:PH) (g mb sb db pb:Nat) (cv iv:Value) (left:Int) (bR:Bool) (d:av) (s:eZ) (M:Me)
theorem J4 (pc pi:Option Addr) (nc cc ni ci:Nat) (hg:s.gen<4611686018427387904) (hl:0<left) (nh:left<9223372036854775808):
 ah Tryz.prog 197 #[ptr g] σ [aw g [ptr mb,.slice pc nc cc,.slice pi ni ci,ptr pb,i64 left,.bool bR] 179,gJ mb sb db d s M] (aA fun v aj al=>v=.tuple #[]∧σ.sub aj∧al=[aw g [ptr mb,.slice pc nc cc,.slice pi ni ci,ptr pb,i64 left,.bool true] 179,zt mb sb db d s M (jP M left)]):=by
 have wo:(cz M.C M.dt).length≤14:=kf M.C M.dt 14;have hsy:=Qf σ mb sb db d s M left hg hl nh;have hdi:=Na σ mb sb db d s M;obtain⟨L,hL⟩:∃L,L=(cz M.C M.dt).length:=⟨_,rfl⟩;rw[←hL] at wo hsy hdi;have mK:IntKind.i64.wrap ((L:Int)+2)=L+2:=X.wrap64_in ad ad;(have tq:IntKind.i64.wrap ((L:Int)+2+3)=L+5:=by rw[X.wrap64_in ad ad];omega);have hv3:IntKind.i64.wrap ((L:Int)+5-left)=L+5-left:=X.wrap64_in ad ad;refine cM Tryz.func197 ?_;refine dh ?_;refine XA.aY rfl (aM hl) ?_;refine XA.draw aC _ _ [] [(0,.pu),(1,.pu),(2,.pu),(3,.rd),(8,.pu),(9,.pu),(10,.pu),(11,.rd),(4,.wr),(5,.pu),(6,.pu),(7,.pu),(12,.pu),(13,.pu),(14,.pu)] aC (PH.sub.refl _) (ar.bB (R:=aw g _ _) zL (ar.nil _)) ?_;refine bJ ?_;refine aP.fw rfl rfl Gd.free (ax.cE (hdi) rfl) ?_;rintro _ _ _ ⟨_,⟨⟨p,c,rfl⟩,rfl,rfl⟩,rfl⟩;refine stays (aP.cl ?_);refine bY ?_;refine zu rfl rfl (Rd.max2 rfl rfl) ?_;refine aR ?_;rw[show (if 0>(L:Int)+2+3-left then (0:Int) else (L:Int)+2+3-left)=max ((L:Int)+5-left) 0 from by split<;>omega];refine zw rfl (ax.cE (hsy) rfl) ?_;rintro _ cO _ ⟨_,⟨rfl,bz,rfl⟩,rfl⟩;refine az.cl ?_;refine dc ?_;exact iN rfl ⟨rfl,bz,rfl⟩
end
section
variable (σ:PH) (g mb sb db pb:Nat) (pc pi:Option Addr) (cc ci:Nat) (code:List In) (inp:List Int) (left:Int) (bR:Bool) (d:av) (s:eZ) (M:Me) (b:Be) (x:In)
theorem Qg (hc:bV 4 tR σ (.slice pc code.length cc) code) (hg:s.gen<4611686018427387904) (hl:0<left) (nh:left<9223372036854775808) (hS:cG M.C b.m) (hk:np code inp b x) (ki:x.op=15):
 ah Tryz.prog 156 #[ptr g] σ [aw g [ptr mb,.slice pc code.length cc,.slice pi inp.length ci,ptr pb,i64 left,.bool bR] 179,gJ mb sb db d s M] (aA fun v aj al=>v=.bool true∧σ.sub aj∧al=[aw g [ptr mb,.slice pc code.length cc,.slice pi inp.length ci,ptr pb,i64 left,.bool true] 179,zt mb sb db d s (M.put 0 (M.ld 0+1)) (jP (M.put 0 (M.ld 0+1)) left)]):=by
 obtain⟨⟨next,stack,rd,outn,st,cells⟩,kept,out,wrong⟩:=b;obtain⟨gP,hx,-,-,-,-,-,ns,-,-,-⟩:=hk;simp only at gP hx ns hS;subst gP;obtain⟨kO,xa,xb,xn⟩:=x;simp only at ki;subst ki;have aV:=(List.getElem?_eq_some_iff.1 hx).1;obtain⟨gc,si,row,rfl,mJ,mZ,bG⟩:=hc.at hx;obtain rfl:row=[i64 15,i64 xa,i64 xb,i64 xn]:=mJ;have e0:M.ld 0=next:=hS.nx;have y6:=jM σ mb sb db d s M 4;rw[show M.ld 4=0 from hS.st] at y6;have mr:=yq σ g mb sb db pb (.slice (some ⟨gc,si,none⟩) code.length cc) (.slice pi inp.length ci) left bR d s M 0 1;rw[e0,X.wrap64_in ad ad] at mr;rw[e0];clear hS e0 hc hx;generalize M.put 0 (((next:Nat):Int)+1)=M1 at mr⊢;refine cM Tryz.func156 ?_;refine bm ?_;refine yC (y6) ?_;refine bg ?_;refine XA.join [(3,3),(11,18)] (fun y:Nat=>[(3,ptr y)]) (fun y aj al=>σ=aj∧al=[aw y [i64 15,i64 xa,i64 xb,i64 xn] 219,aw g [ptr mb,.slice (some ⟨gc,si,none⟩) code.length cc,.slice pi inp.length ci,ptr pb,i64 left,.bool bR] 179,gJ mb sb db d s M1]) ?_ ?_
 ·skip;refine XA.mM aC _ _ [9] 10 #[false,false,false,false,false,false,false,false,false,false] rfl rfl aC (PH.sub.refl _) (ar.bB (R:=aw g _ _) zL (ar.nil _)) ?_;refine qp 0 #[tT,fF,fF,fF,fF,fF,fF,fF,fF,fF] rfl Rd.mv ?_;refine qp 1 #[tT,tT,fF,fF,fF,fF,fF,fF,fF,fF] rfl (Rd.nilCheck rfl) ?_;refine qp 2 #[tT,tT,tT,fF,fF,fF,fF,fF,fF,fF] rfl (Rd.fA rfl) ?_;refine qr 3 #[tT,tT,tT,tT,fF,fF,fF,fF,fF,fF] rfl (Rd.yZ rfl (ae rfl) rfl) ?_;refine qp 4 #[tT,tT,tT,tT,tT,fF,fF,fF,fF,fF] rfl Rd.mv ?_;refine cX.w2 (i:=5) (j:=8) aC ?_ ?_
  ·refine qw #[tT,tT,tT,tT,tT,tT,fF,fF,fF,fF] rfl (ax.cE mr rfl) ?_;rintro _ _ _ ⟨_,⟨rfl,rfl,rfl⟩,rfl⟩;refine⟨⟨zX,zE⟩,cX.re zC ?_⟩;refine qp 6 #[tT,tT,tT,tT,tT,tT,tT,fF,fF,fF] rfl (Rd.K8 rfl rfl) ?_;refine qr 7 #[tT,tT,tT,tT,tT,tT,tT,tT,fF,fF] rfl (Rd.Bl rfl) ?_;refine qa 8 ?_;refine qw #[tT,tT,tT,tT,tT,tT,tT,tT,tT,fF] rfl (ax.alloc (ae rfl)) ?_;rintro _ _ _ ⟨g3,rfl,rfl,rfl⟩;refine⟨⟨zX,zE⟩,cX.re zC ?_⟩;refine qa 9 ?_;refine ji.b7 (bc:=#[tT,tT,tT,tT,tT,tT,tT,tT,tT,tT]) rfl rfl Gd.free aC rfl aC (ax.st (ae rfl) rfl) ?_;rintro _ _ _ ⟨rfl,rfl,rfl⟩;refine cX.re zC ?_;refine cX.nil rfl ?_;refine DA.bI ⟨zK,g3,_,zM,?_,rfl,rfl⟩;exact zE
  ·refine qw #[tT,tT,tT,tT,tT,fF,fF,fF,tT,fF] rfl (ax.alloc (ae rfl)) ?_;rintro _ _ _ ⟨g3,rfl,rfl,rfl⟩;refine⟨⟨zX,zE⟩,cX.re zC ?_⟩;refine qa 5 ?_;refine qw #[tT,tT,tT,tT,tT,tT,fF,fF,tT,fF] rfl (ax.cE mr rfl) ?_;rintro _ _ _ ⟨_,⟨rfl,rfl,rfl⟩,rfl⟩;refine⟨⟨zX,zE⟩,cX.re zC ?_⟩;refine qp 6 #[tT,tT,tT,tT,tT,tT,tT,fF,tT,fF] rfl (Rd.K8 rfl rfl) ?_;refine qr 7 #[tT,tT,tT,tT,tT,tT,tT,tT,tT,fF] rfl (Rd.Bl rfl) ?_;refine qa 9 ?_;refine ji.b7 (bc:=#[tT,tT,tT,tT,tT,tT,tT,tT,tT,tT]) rfl rfl Gd.free aC rfl aC (ax.st (ae rfl) rfl) ?_;rintro _ _ _ ⟨rfl,rfl,rfl⟩;refine cX.re zC ?_;refine cX.nil rfl ?_;refine DA.bI ⟨zK,g3,_,zM,?_,rfl,rfl⟩;exact zE
 rintro g3 δ _ _ ⟨rfl,rfl⟩;dsimp only[dq,List.foldl];refine zj ?_;(iterate 3 (refine bg ?_));refine cx ?_;refine zw rfl (ax.cE (J4 σ g mb sb db pb left bR d s M1 _ _ _ _ _ _ hg hl nh) rfl) ?_;rintro _ cO _ ⟨_,⟨rfl,bz,rfl⟩,rfl⟩;refine az.cl ?_;refine bt ?_;exact bC rfl rfl ⟨rfl,bz,rfl⟩
end
def gS (b:Be):Be:={b with m:=b.kept}
theorem fD {α:Type} {c:Prop} [Decidable c] {Q:α→Prop} {a b:α} (ha:Q a) (hb:Q b):Q (if c then a else b):=by
 by_cases h:c
 ·rw[aq h];exact ha
 ·rw[ag h];exact hb
theorem AK (inp:List Int) (keep:Bool) (x:In) (b:Be) (ki:x.op≠15):(aN inp keep x b).kept=b.kept:=by
 obtain⟨⟨next,stack,rd,outn,st,cells⟩,kept,out,wrong⟩:=b;(have h:∀b':Be,b'.kept=kept→(fun b':Be=>b'.kept=kept) b':=fun _ h=>h);generalize (fun b':Be=>b'.kept=kept)=Q at h;show (fun b':Be=>b'.kept=kept) _;simp only[aN];refine fD (Q:=fun b':Be=>b'.kept=kept) rfl ?_;refine fD (Q:=fun b':Be=>b'.kept=kept) rfl ?_;refine fD (Q:=fun b':Be=>b'.kept=kept) ?_ ?_
 ·cases stack with
  |nil=>rfl
  |cons k s=>exact fD (Q:=fun b':Be=>b'.kept=kept) rfl rfl
 refine fD (Q:=fun b':Be=>b'.kept=kept) ?_ ?_
 ·rcases stack with _|⟨y,_|⟨z,s⟩⟩<;>rfl
 refine fD (Q:=fun b':Be=>b'.kept=kept) ?_ ?_
 ·cases stack<;>rfl
 refine fD (Q:=fun b':Be=>b'.kept=kept) ?_ ?_
 ·rcases stack with _|⟨y,_|⟨z,s⟩⟩
  ·rfl
  ·rfl
  ·exact fD (Q:=fun b':Be=>b'.kept=kept) rfl rfl
 refine fD (Q:=fun b':Be=>b'.kept=kept) ?_ ?_
 ·cases stack with
  |nil=>rfl
  |cons k s=>exact fD (Q:=fun b':Be=>b'.kept=kept) rfl rfl
 refine fD (Q:=fun b':Be=>b'.kept=kept) (fD (Q:=fun b':Be=>b'.kept=kept) rfl rfl) ?_;refine fD (Q:=fun b':Be=>b'.kept=kept) ?_ ?_
 ·cases stack with
  |nil=>rfl
  |cons k s=>exact fD (Q:=fun b':Be=>b'.kept=kept) rfl rfl
 refine fD (Q:=fun b':Be=>b'.kept=kept) rfl ?_;rw[ag ki];exact fD (Q:=fun b':Be=>b'.kept=kept) rfl rfl
structure Li where
 b:Be
 M:Me
 Q:List (List Int)
structure oP where
 kind:Int
 n:Int
 K:Int
 mask:Int
section
variable (code:List In) (inp:List Int)
def eg (L:Li):Li:=⟨bp code inp true L.b,mu code inp L.M,if zr code L.b.m=true then (mu code inp L.M).C else L.Q⟩
def tZ (L:Li):Li:=⟨gS L.b,⟨L.Q,wu⟩,L.Q⟩
def fj (K:Int) (bit:Bool) (L:Li):Li:=if K=0∨K=1∧bit=true then tZ (eg code inp L) else tZ L
def jn:Nat→Li→Li×Nat
 |0,L=>(L,0)
 |f+1,L=>if L.b.m.st=0 then ((jn f (eg code inp L)).1,(jn f (eg code inp L)).2+1) else (L,0)
def fe (K:Int) (bit:Bool):Nat→Li→Li×Nat
 |0,L=>(L,0)
 |f+1,L=>if zr code L.b.m=true then (fj code inp K bit L,1) else if L.b.m.st=0 then ((fe K bit f (eg code inp L)).1,(fe K bit f (eg code inp L)).2+1) else (L,0)
def aO (s:oP):Int:=if s.kind<1∨3<s.kind then 2 else if (s.kind≠2∧(s.n<0∨3000<s.n))∨(s.kind=3∧s.K<0) then 1 else 0
def jV (s:oP) (L:Li):Li×Nat:=if aO s≠0 then (L,0) else if s.kind=1 then jn code inp s.n.toNat L else if s.kind=3 then fe code inp s.K (cU s.mask 0) s.n.toNat L else (tZ L,0)
end
structure fX (p:Pr) (inp:List Int) (L:Li) (k:Nat):Prop where
 iJ:gU p inp L.M L.b k
 kept:gU p inp ⟨L.Q,wu⟩ (gS L.b) k
theorem gU.le {p:Pr} {inp:List Int} {M:Me} {b:Be} {k l:Nat} (h:gU p inp M b k) (hl:k≤l):gU p inp M b l:=⟨h.ch,h.inv,h.sh,h.inl,h.cl,by have:=h.ol;omega⟩
theorem fX.le {p:Pr} {inp:List Int} {L:Li} {k l:Nat} (h:fX p inp L k) (hl:k≤l):fX p inp L l:=⟨h.iJ.le hl,h.kept.le hl⟩
theorem kL {code:List In} {m:Mi} (h:zr code m=true):m.st=0∧∃x,code[m.next]? =some x∧x.op=15:=by
 unfold zr at h;rw[Bool.and_eq_true] at h;refine⟨of_decide_eq_true h.1,?_⟩;revert h
 cases code[m.next]? with
 |none=>intro h;cases h.2
 |some x=>intro h;exact⟨x,rfl,of_decide_eq_true h.2⟩
theorem qh {code:List In} {inp:List Int} {keep:Bool} {b:Be} {x:In} (hx:code[b.m.next]? =some x) (h:x.op=15):cW code inp keep b={bump b with kept:=if keep then (bump b).m else b.kept}:=by
 rw[cW,hx];obtain⟨op,a1,a2,a3⟩:=x;simp only at h;subst h;cases keep<;>rfl
theorem fX.next {p:Pr} {inp:List Int} {L:Li} {k:Nat} (h:fX p inp L k) (hk:k≤1000000):fX p inp (eg (ak p) inp L) (k+1):=by
 have hm:=h.iJ.next hk true;refine⟨hm,?_⟩;by_cases hc:zr (ak p) L.b.m=true
 ·obtain⟨h0,x,hx,ki⟩:=kL hc;(have e:bp (ak p) inp true L.b={bump L.b with kept:=(bump L.b).m}:=by rw[bp,aq h0,qh hx ki];rfl);have e2:(eg (ak p) inp L).Q=(mu (ak p) inp L.M).C:=aq hc;have e3:(eg (ak p) inp L).b={bump L.b with kept:=(bump L.b).m}:=e;rw[e2,e3];rw[e] at hm;exact⟨hm.ch,hm.inv,hm.sh,hm.inl,hm.cl,hm.ol⟩
 ·have e2:(eg (ak p) inp L).Q=L.Q:=ag hc;rw[e2]
  have Yd:(bp (ak p) inp true L.b).kept=L.b.kept:=by
   by_cases h0:L.b.m.st=0
   ·obtain⟨x,hx,-⟩:=h.iJ.ok hk h0;(have ki:x.op≠15:=fun q=>hc (by rw[yr h0 hx.at_,aM q]));rw[bp,aq h0,cW,hx.at_];exact AK inp true x (bump L.b) ki
   ·rw[bp,ag h0]
  have PY:L.b.out.length≤(bp (ak p) inp true L.b).out.length:=by
   by_cases h0:L.b.m.st=0
   ·obtain⟨x,hx,-⟩:=h.iJ.ok hk h0;rw[bp,aq h0];exact(h.iJ.inv.step (keep:=true) h.iJ.ch hx).2.1
   ·rw[bp,ag h0];exact bX _
  have hi:=h.kept.inv;have hs:=h.kept.sh;have hw:(gS (bp (ak p) inp true L.b)).m=(gS L.b).m:=Yd;refine⟨h.kept.ch,⟨?_,?_,?_,?_⟩,?_,h.kept.inl,h.kept.cl,hm.ol⟩
  ·intro h;have Xz:(gS (eg (ak p) inp L).b).m=(gS L.b).m:=hw;rw[Xz] at h⊢;exact hi.at_ h
  ·show (gS (bp (ak p) inp true L.b)).m.cells.length=_;rw[hw];exact hi.cells
  ·show (gS (bp (ak p) inp true L.b)).m.outn≤(bp (ak p) inp true L.b).out.length;rw[hw];exact Nat.le_trans hi.outn PY
  ·show (gS (bp (ak p) inp true L.b)).m.rd≤_;rw[hw];exact hi.rd
  ·show cG L.Q (gS (bp (ak p) inp true L.b)).m;rw[hw];exact hs
theorem fX.Uf {p:Pr} {inp:List Int} {L:Li} {k:Nat} (h:fX p inp L k):fX p inp (tZ L) k:=⟨h.kept,h.kept⟩
theorem fX.ab1 {p:Pr} {inp:List Int} {L:Li} {k:Nat} {K:Int} {bit:Bool} (h:fX p inp L k) (hk:k≤1000000):fX p inp (fj (ak p) inp K bit L) (k+1):=by
 rw[fj];split
 ·exact(h.next hk).Uf
 ·exact h.Uf.le ad
theorem Is {p:Pr} {inp:List Int}:∀(f:Nat) {L:Li} {k:Nat},fX p inp L k→k+f≤1000000→fX p inp (jn (ak p) inp f L).1 (k+(jn (ak p) inp f L).2)∧(jn (ak p) inp f L).2≤f
 |0,L,k,h,hk=>⟨h,bX _⟩
 |f+1,L,k,h,hk=>by
  rw[jn];split
  ·obtain⟨h1,h2⟩:=Is f (h.next ad) ad;exact⟨by rw[show k+((jn (ak p) inp f (eg (ak p) inp L)).2+1)=k+1+(jn (ak p) inp f (eg (ak p) inp L)).2 by omega];exact h1,gF⟩
  ·exact⟨h,cg _⟩
theorem Iu (σ:PH) (mb sb db:Nat) (d:av) (s:eZ) (M:Me) (m:Int) (wm:0≤m) (wE:m<18446744073709551616):
 ah Tryz.prog 115 #[ptr db,.int .u64 m] σ [gJ mb sb db d s M] (aA fun v aj al=>∃d':av,v=.tuple #[]∧σ=aj∧Good d' s∧dP d' s=dP d s∧al=[bW db d']):=by
 refine ah.aW .head gJ.aW (enters Tryz.func115 rfl rfl) ?_;rintro⟨inn,pg⟩ ⟨hG,hM⟩;obtain⟨h1,h2⟩:=hG.settle (cU m);refine ah.DZ (R:=fun v aj al=>∃cr,(v=.tuple #[]∧σ=aj∧cr=[bW db (d.settle (cU m))])∧al=cr++[aw mb (bM sb inn M.dt pg) 242,ck sb db s]) ?_ ?_
 ·refine((HN σ db d m hG.HV wm wE).frame [aw mb (bM sb inn M.dt pg) 242,ck sb db s] (ar.bB (.tail (.tail .head)) (ar.bB .head (ar.bB .head (ar.nil _))))).mono ?_;rintro e aj _ ⟨cr,h,rfl⟩
  cases e with
  |returned v=>exact⟨cr,h,rfl⟩
  |panicked c=>exact h.elim
  |outgrown=>exact h.elim
 ·rintro v aj _ ⟨_,⟨rfl,rfl,rfl⟩,rfl⟩;exact⟨_,ar.bB .head (ar.nil _),_,rfl,rfl,h1,wH (kg h1.HS s) (kg hG.HS s) (fun p hp=>by rw[iH _ _ hp,iH _ _ hp,h2 p hp]),rfl⟩
theorem Gl {d:av} {s:eZ} {inn dt:List Bool} {pg C:List (List Int)} (hG:Good d s) (hM:r7 d s inn dt pg C) (left:Int) (hl:0<left) (is:Nat→Bool):
 ∃s'':eZ,Good ((gH d s (cz C dt) (jP ⟨C,dt⟩ left)).settle is) s''∧s''.gen≤s.gen+1∧dP ((gH d s (cz C dt) (jP ⟨C,dt⟩ left)).settle is) s''=if left=1∧is 0=true then C else dP d s:=by
 have wo:(cz C dt).length≤14:=kf C dt 14;have hw:=H6 (dt:=dt) hM.cc;have hn:∀x∈cz C dt,0≤x.n∧x.n<14:=wG;(have same:∀{d':av},Good d' s→(∀p:Nat,p<14→cC d' s p=cC d s p)→dP d' s=dP d s:=fun g h=>wH (kg g.HS s) (kg hG.HS s) (fun p hp=>by rw[iH _ _ hp,iH _ _ hp,h p hp]));by_cases h1:left=1
 ·(have hj:jP ⟨C,dt⟩ left=(cz C dt).length+4:=by unfold jP;simp only;omega);rw[hj];have hr:=DN hG hw wo hn is;by_cases h0:is 0=true
  ·rw[aq h0] at hr;rw[aq ⟨h1,h0⟩];exact⟨eW s (cz C dt),hr.1,Int.le_refl _,D0 hr.1 hM.cc (hM.sync (DT hn hr.2)).2⟩
  ·rw[ag h0] at hr;rw[ag (fun q=>h0 q.2)];exact⟨s,hr.1,ad,same hr.1 hr.2⟩
 ·(have hj:jP ⟨C,dt⟩ left≤(cz C dt).length+3:=by unfold jP;simp only;omega);have hp:=DM hG hw wo hj is;rw[ag (fun q=>h1 q.1)];exact⟨s,hp.1,ad,same hp.1 hp.2⟩
theorem Qh (σ:PH) (mb sb db:Nat) (d:av) (s:eZ) (M:Me) (left:Int) (hl:0<left) (m:Int) (wm:0≤m) (wE:m<18446744073709551616):
 ah Tryz.prog 115 #[ptr db,.int .u64 m] σ [zt mb sb db d s M (jP M left)] (aA fun v aj al=>∃(d':av) (s':eZ),v=.tuple #[]∧σ=aj∧Good d' s'∧s'.gen≤s.gen+1∧dP d' s'=(if left=1∧cU m 0=true then M.C else dP d s)∧al=[bW db d']):=by
 refine ah.aW .head zt.aW (enters Tryz.func115 rfl rfl) ?_;rintro⟨inn,pg⟩ ⟨hG,hM⟩;obtain⟨s',h1,h2,h3⟩:=Gl hG hM left hl (cU m);refine ah.DZ (R:=fun v aj al=>∃cr,(v=.tuple #[]∧σ=aj∧cr=[bW db ((gH d s (cz M.C M.dt) (jP M left)).settle (cU m))])∧al=cr++[aw mb (bM sb inn M.dt pg) 242,ck sb db s]) ?_ ?_
 ·refine((HN σ db _ m (JD hG (kf M.C M.dt 14) _) wm wE).frame [aw mb (bM sb inn M.dt pg) 242,ck sb db s] (ar.bB (.tail (.tail .head)) (ar.bB .head (ar.bB .head (ar.nil _))))).mono ?_;rintro e aj _ ⟨cr,h,rfl⟩
  cases e with
  |returned v=>exact⟨cr,h,rfl⟩
  |panicked c=>exact h.elim
  |outgrown=>exact h.elim
 ·rintro v aj _ ⟨_,⟨rfl,rfl,rfl⟩,rfl⟩;exact⟨_,ar.bB .head (ar.nil _),_,s',rfl,rfl,h1,h2,h3,rfl⟩
theorem B8 (σ:PH) (gx db pb:Nat) (a0:Option Addr) (pc pj:Option Addr) (Iv cc cj nc:Nat) (inp:List Int) (d:av) (s:eZ) (hG:Good d s) (hj:a7 σ (.slice pj inp.length cj) inp) (pB:inp.length≤1000000):
 ah Tryz.prog 108 #[ptr gx] σ [aw gx [.pointer a0,ptr db,ptr pb,.slice pc Iv cc,.slice pj inp.length cj,i64 nc] 125,bW db d] (aA fun v aj al=>∃(g mb sb:Nat) (pi:Option Addr) (ci:Nat),v=.tuple #[]∧σ.sub aj∧a7 aj (.slice pi inp.length ci) inp∧al=[aw gx [ptr g,ptr db,ptr pb,.slice pc Iv cc,.slice pj inp.length cj,i64 nc] 125,aw g [ptr mb,.slice pc Iv cc,.slice pi inp.length ci,ptr pb,i64 0,.bool false] 179,gJ mb sb db d s ⟨dP d s,wu⟩]):=by
 refine cM Tryz.func108 ?_;refine XA.draw aC _ _ [19,22] [(0,.pu),(1,.pu),(2,.pu),(3,.pu),(4,.rd),(7,.pu),(8,.pu),(9,.pu),(10,.rd),(11,.pu),(12,.pu),(13,.pu),(14,.rd),(15,.pu),(16,.pu),(17,.pu),(18,.rd),(5,.wr),(6,.wr),(19,.wr),(20,.pu),(21,.pu),(22,.wr)] aC (PH.sub.refl _) (ar.bB (R:=aw gx _ _) zL (ar.nil _)) ?_;refine dV ?_;refine aP.fw rfl rfl Gd.free (ax.cE (S9 σ db d hG.HS hG.HV) rfl) ?_;rintro _ _ _ ⟨_,⟨sb,rfl,rfl,rfl⟩,rfl⟩;refine stays (aP.cl ?_);rw[hG.open];refine aP.fw rfl rfl Gd.free (ax.cE (XL σ sb db d s hG) rfl) ?_;rintro _ _ _ ⟨_,⟨mb,rfl,rfl,rfl⟩,rfl⟩;refine stays (aP.cl ?_);refine aP.b7 rfl rfl Gd.free aC (ax.cE (Ub σ mb pb pc Iv cc _ inp hj pB) rfl) ?_;rintro _ cO _ ⟨_,⟨g,pi,ci,rfl,bz,wM,rfl⟩,rfl⟩;refine aP.cl ?_;refine aU ?_;refine kS rfl (ax.st (ae rfl) rfl) ?_;refine bS ?_;exact iN rfl ⟨g,mb,sb,pi,ci,rfl,bz,wM,rfl⟩
def j6 (σ:PH) (gx db pb:Nat) (pc:Option Addr) (cc nc:Nat) (p:Pr) (inp:List Int) (L:Li) (gn:Int) (Γ:List HP):Prop:=∃(g mb sb:Nat) (d:av) (s:eZ) (pi:Option Addr) (ci:Nat) (pj:Option Addr) (cj:Nat),dP d s=L.Q∧s.gen=gn∧Good d s∧a7 σ (.slice pi inp.length ci) inp∧a7 σ (.slice pj inp.length cj) inp∧
 Γ=[aw gx [ptr g,ptr db,ptr pb,.slice pc (ak p).length cc,.slice pj inp.length cj,i64 nc] 125,aw g [ptr mb,.slice pc (ak p).length cc,.slice pi inp.length ci,ptr pb,i64 0,.bool false] 179,gJ mb sb db d s L.M,dp pb L.b.out L.b.wrong]
theorem j6.mono {σ aj:PH} {gx db pb:Nat} {pc:Option Addr} {cc nc:Nat} {p:Pr} {inp:List Int} {L:Li} {gn:Int} {Γ:List HP} (h:j6 σ gx db pb pc cc nc p inp L gn Γ) (hs:σ.sub aj):j6 aj gx db pb pc cc nc p inp L gn Γ:=by
 obtain⟨g,mb,sb,d,s,pi,ci,pj,cj,h1,h2,h3,h4,h5,rfl⟩:=h;exact⟨g,mb,sb,d,s,pi,ci,pj,cj,h1,h2,h3,h4.mono hs,h5.mono hs,rfl⟩
section
variable (σ:PH) (gx db pb:Nat) (pc:Option Addr) (cc nc:Nat) (p:Pr) (inp:List Int) (L:Li) (gn:Int) (k:Nat)
theorem RN (g mb sb:Nat) (pi:Option Addr) (ci:Nat) (d:av) (s:eZ) (hG:Good d s) (hc:bV 4 tR σ (.slice pc (ak p).length cc) (ak p)) (hi:a7 σ (.slice pi inp.length ci) inp) (hg:s.gen<4611686018427387904) (h:fX p inp L k) (hk:k≤1000000) (hQ:dP d s=L.Q):
 ah Tryz.prog 156 #[ptr g] σ [aw g [ptr mb,.slice pc (ak p).length cc,.slice pi inp.length ci,ptr pb,i64 0,.bool false] 179,gJ mb sb db d s L.M,dp pb L.b.out L.b.wrong] (aA fun v aj al=>∃(d':av) (s':eZ),v=.bool (decide (L.b.m.st=0))∧s'.gen≤s.gen+1∧(zr (ak p) L.b.m≠true→s'.gen=s.gen)∧Good d' s'∧dP d' s'=(eg (ak p) inp L).Q∧σ.sub aj∧al=[aw g [ptr mb,.slice pc (ak p).length cc,.slice pi inp.length ci,ptr pb,i64 0,.bool false] 179,gJ mb sb db d' s' (eg (ak p) inp L).M,dp pb (eg (ak p) inp L).b.out (eg (ak p) inp L).b.wrong]):=by
 refine(Yb σ g mb sb db pb pc pi cc ci inp d s L.M L.b p k hc hi hg h.iJ hk).ret ?_;rintro v aj al ⟨d',s',rfl,h1,h2,h3,h4,h5,rfl⟩;obtain⟨-,e2,e3⟩:=Gi (ak p) inp L.b true;refine⟨d',s',rfl,h1,fun hx=>?_,?_,?_,h5,by rw[←e2,←e3];rfl⟩
 ·rcases h2 with ⟨rfl,rfl⟩|⟨-,-,h0,x,rC,ki⟩
  ·rfl
  ·exact absurd (by rw[yr h0 rC,aM ki]) hx
 ·rcases h2 with ⟨rfl,rfl⟩|⟨q,-⟩
  ·exact hG
  ·exact q
 ·by_cases hx:zr (ak p) L.b.m=true
  ·obtain⟨h0,x,rC,ki⟩:=kL hx;have:=(h4 (fun y hy=>by rw[rC] at hy;cases hy;exact ki) h0).2;rw[this];exact(aq hx).symm
  ·have e:(eg (ak p) inp L).Q=L.Q:=ag hx;rw[e];rcases h2 with ⟨rfl,rfl⟩|⟨-,-,h0,x,rC,ki⟩
   ·exact hQ
   ·exact absurd (by rw[yr h0 rC,aM ki]) hx
theorem Ye (n:Nat) (Γ:List HP) (hc:bV 4 tR σ (.slice pc (ak p).length cc) (ak p)) (hL:j6 σ gx db pb pc cc nc p inp L gn Γ) (h:fX p inp L k) (hk:k+n≤900000) (AL:gn≤k):
 ah Tryz.prog 113 #[ptr gx,i64 n] σ Γ (aA fun v aj al=>v=i64 ((jn (ak p) inp n L).2:Nat)∧σ.sub aj∧∃Gm:Int,Gm≤(k+(jn (ak p) inp n L).2:Nat)∧j6 aj gx db pb pc cc nc p inp (jn (ak p) inp n L).1 Gm al):=by
 have Ea:=hL;obtain⟨g,mb,sb,d,s,pi,ci,pj,cj,hQ,Ug,hG,hi,hj,rfl⟩:=hL;(refine cw Tryz.func113 ?_;refine dB ?_;refine XA.gen [(0,_),(1,_),(4,_),(6,_),(7,_)] iX fun δ=>?_);dsimp only[List.foldl];refine XA.loop [(4,5),(7,17)] (fun x:Nat×Li=>[(7,i64 x.1)]) (fun x aj al=>σ.sub aj∧x.1≤n∧fX p inp x.2 (k+x.1)∧jn (ak p) inp n L=((jn (ak p) inp (n-x.1) x.2).1,(jn (ak p) inp (n-x.1) x.2).2+x.1)∧∃KH:Int,KH≤(k+x.1:Nat)∧j6 aj gx db pb pc cc nc p inp x.2 KH al) (fun x=>n-x.1) (0,L) eb (Δ0:=_) ?_ (⟨.refl _,cg _,h,rfl,gn,AL,Ea⟩) ?_
 ·exact zE
 rintro⟨i,L1⟩ δ cO _ ⟨bz,j3,cR,cZ,KH,DK,kN⟩;dsimp only[dq,List.foldl];have j3:i≤n:=j3;simp only at cR cZ DK kN;obtain⟨g1,Gn,J5,d1,s1,J6,J7,Nb,Nc,VC,Uh,Yf,wM,wj,rfl⟩:=kN;have jg:=RN cO db pb pc cc p inp L1 (k+i) g1 Gn J5 J6 J7 d1 s1 Yf (hc.mono bz (fun _ _ h=>h)) wM ad cR ad VC;refine a8 ?_;refine XA.bE rfl (fun aV=>?_) (fun aV=>?_)
 ·refine dC ?_;obtain⟨f,hf⟩:∃f,n-i=f+1:=⟨n-i-1,ad⟩;by_cases h0:L1.b.m.st=0
  ·rw[aM h0] at jg;rw[hf,jn,aq h0] at cZ;refine zw rfl (ax.cE (jg) rfl) ?_;rintro _ cL _ ⟨_,⟨d2,s2,rfl,KI,J8,J9,Gp,bT,rfl⟩,rfl⟩;refine az.cl ?_;refine bm ?_;refine⟨bQ,(i+1,eg (ak p) inp L1),_,zM,?_,⟨bz.trans bT,by show i+1≤n;omega,cR.next ad,by rw[cZ,show n-(i+1)=f by omega];simp only[Prod.mk.injEq,true_and];omega,s2.gen,by show s2.gen≤((k+(i+1):Nat):Int);omega,g1,Gn,J5,d2,s2,J6,J7,Nb,Nc,Gp,rfl,J9,wM.mono bT,wj.mono bT,rfl⟩,gF⟩
   ·exact zE
  ·rw[aE h0] at jg;rw[hf,jn,ag h0] at cZ
   have rQ:eg (ak p) inp L1=L1:=by
    have gP:L1.M.ld 4=L1.b.m.st:=cR.iJ.st;(have hic:¬zr (ak p) L1.b.m=true:=fun q=>h0 (kL q).1);rw[eg,ag hic,bp,ag h0,mu,ag (by rw[gP];exact h0)]
   rw[rQ] at jg;refine zw rfl (ax.cE (jg) rfl) ?_;rintro _ cL _ ⟨_,⟨d2,s2,rfl,KI,J8,J9,Gp,bT,rfl⟩,rfl⟩;refine az.cl ?_;refine dC ?_;have hg3:=J8 (fun q=>h0 (kL q).1);rw[cZ];exact bC rfl rfl ⟨aZ,bz.trans bT,s2.gen,by simp only[Nat.zero_add];omega,⟨g1,Gn,J5,d2,s2,J6,J7,Nb,Nc,Gp,rfl,J9,wM.mono bT,wj.mono bT,rfl⟩⟩
 refine bm ?_;(obtain rfl:i=n:=by omega);rw[Nat.sub_self,jn] at cZ;rw[cZ];exact bC rfl rfl ⟨aZ,bz,KH,by simpa using DK,⟨g1,Gn,J5,d1,s1,J6,J7,Nb,Nc,VC,Uh,Yf,wM,wj,rfl⟩⟩
theorem Ui (kd:Int) (n:Nat) (K m:Int) (Γ:List HP) (hK0:0≤K) (Oq:K<9223372036854775808) (wm:0≤m) (wE:m<18446744073709551616) (hc:bV 4 tR σ (.slice pc (ak p).length cc) (ak p)) (hL:j6 σ gx db pb pc cc nc p inp L gn Γ) (h:fX p inp L k) (hk:k+n≤900000) (AL:gn≤k):
 ah Tryz.prog 114 #[ptr gx,.agg #[i64 kd,i64 n,i64 K,.int .u64 m]] σ Γ (aA fun v aj al=>v=i64 ((fe (ak p) inp K (cU m 0) n L).2:Nat)∧σ.sub aj∧∃Gm:Int,Gm≤(k+(fe (ak p) inp K (cU m 0) n L).2:Nat)∧j6 aj gx db pb pc cc nc p inp (fe (ak p) inp K (cU m 0) n L).1 Gm al):=by
 have Ea:=hL;obtain⟨g,mb,sb,d,s,pi,ci,pj,cj,hQ,Ug,hG,hi,hj,rfl⟩:=hL;(refine cw Tryz.func114 ?_;refine aU ?_;refine cP fun g3=>?_;refine bm ?_;refine XA.gen [(0,_),(3,_),(4,_),(7,_),(8,_)] iX fun δ=>?_);dsimp only[List.foldl];refine XA.loop [(4,5),(8,46)] (fun x:Nat×Li=>[(8,i64 x.1)]) (fun x aj al=>σ.sub aj∧x.1≤n∧fX p inp x.2 (k+x.1)∧fe (ak p) inp K (cU m 0) n L=((fe (ak p) inp K (cU m 0) (n-x.1) x.2).1,(fe (ak p) inp K (cU m 0) (n-x.1) x.2).2+x.1)∧∃KH:Int,KH≤(k+x.1:Nat)∧∃cr,j6 aj gx db pb pc cc nc p inp x.2 KH cr∧al=aw g3 [i64 kd,i64 n,i64 K,.int .u64 m] 82::cr) (fun x=>n-x.1) (0,L) eb (Δ0:=_) ?_ (⟨.refl _,cg _,h,rfl,gn,AL,_,Ea,rfl⟩) ?_
 ·exact zE
 rintro⟨i,L1⟩ δ cO _ ⟨bz,j3,cR,cZ,KH,DK,cr,kN,rfl⟩;dsimp only[dq,List.foldl];have j3:i≤n:=j3;simp only at cR cZ DK kN;obtain⟨g1,Gn,J5,d1,s1,J6,J7,Nb,Nc,VC,Uh,Yf,wM,wj,rfl⟩:=kN;have tz:=hc.mono bz (fun _ _ h=>h);have jg:=RN cO db pb pc cc p inp L1 (k+i) g1 Gn J5 J6 J7 d1 s1 Yf tz wM ad cR ad VC;have vy:=D9 cO g1 Gn J5 db pb pc cc (.slice J6 inp.length J7) 0 false d1 s1 L1.M L1.b inp p (k+i) tz cR.iJ ad;refine a8 ?_;refine XA.bE rfl (fun aV=>?_) (fun aV=>?_)
 ·obtain⟨f,hf⟩:∃f,n-i=f+1:=⟨n-i-1,ad⟩;refine dV ?_;by_cases yo:zr (ak p) L1.b.m=true
  ·rw[yo] at vy;rw[hf,fe,aq yo] at cZ;obtain⟨h0,x,rC,ki⟩:=kL yo;obtain⟨x',hx,-⟩:=cR.iJ.ok ad h0;(have jB:x'=x:=by have:=hx.at_;rw[rC] at this;exact(Option.some.inj this).symm);subst jB;by_cases hKz:K=0
   ·(have Ed:fj (ak p) inp K (cU m 0) L1=tZ (eg (ak p) inp L1):=by rw[fj,aq (.inl hKz)]);rw[Ed] at cZ;rw[aM h0] at jg;subst hKz;refine yC (vy) ?_;refine bY ?_;refine et 7 1728 [6] (ar.bB (R:=aw gx _ _) zL (ar.bB (R:=aw g3 _ _) zL (ar.nil _))) ?_;refine a8 ?_;refine aP.b7 rfl rfl Gd.free aC (ax.cE (M8 cO g1 Gn pb pc J6 _ cc _ J7 0 false 0) rfl) ?_;rintro _ _ _ ⟨_,⟨rfl,rfl,rfl⟩,rfl⟩;refine aP.cl ?_;refine bJ ?_;refine zw rfl (ax.cE (jg) rfl) ?_;rintro _ cL _ ⟨_,⟨d2,s2,rfl,KI,J8,J9,Gp,bT,rfl⟩,rfl⟩;refine az.cl ?_;refine cx ?_;refine et 7 1728 [6] (ar.bB (R:=aw gx _ _) zL (ar.bB (R:=aw g3 _ _) zL (ar.nil _))) ?_;refine a8 ?_;refine aP.b7 rfl rfl Gd.free aC (ax.cE (Iu cL Gn J5 db d2 s2 (eg (ak p) inp L1).M m wm wE) rfl) ?_;rintro _ _ _ ⟨_,⟨d3,rfl,rfl,RO,RP,rfl⟩,rfl⟩;refine aP.cl ?_;refine dc ?_;refine zw rfl (ax.cE (B8 cL gx db pb _ pc Nb (ak p).length cc Nc nc inp d3 s2 RO (wj.mono bT) cR.iJ.inl) rfl) ?_;rintro _ qf _ ⟨_,⟨g4,Uj,Uk,Ul,Um,rfl,jU,Un,rfl⟩,rfl⟩;refine az.cl ?_;refine dC ?_;rw[RP,Gp,cZ];exact bC rfl rfl ⟨congrArg i64 C7,(bz.trans bT).trans jU,s2.gen,gF,⟨g4,Uj,Uk,d3,s2,Ul,Um,Nb,Nc,RP.trans Gp,rfl,RO,Un,(wj.mono bT).mono jU,rfl⟩⟩
   ·(have hKp:0<K:=by omega);have e0:L1.M.ld 0=L1.b.m.next:=cR.iJ.sh.nx
    have hMC:(mu (ak p) inp L1.M).C=(L1.M.put 0 (L1.M.ld 0+1)).C:=by
     rw[mu,aq (by rw[cR.iJ.st];exact h0),Me.nU,e0,Int.toNat_natCast,rC];obtain⟨op,a1,a2,a3⟩:=x';simp only at ki;subst ki;rfl
    have Ed:fj (ak p) inp K (cU m 0) L1=⟨gS L1.b,⟨if K=1∧cU m 0=true then (L1.M.put 0 (L1.M.ld 0+1)).C else dP d1 s1,wu⟩,if K=1∧cU m 0=true then (L1.M.put 0 (L1.M.ld 0+1)).C else dP d1 s1⟩∨(K=1∧cU m 0=true∧fj (ak p) inp K (cU m 0) L1=tZ (eg (ak p) inp L1)):=by
     by_cases q:K=1∧cU m 0=true
     ·exact .inr ⟨q.1,q.2,by rw[fj,aq (.inr q)]⟩
     ·left;rw[fj,ag (by rintro(h|h);exact hKz h;exact q h),ag q,VC];rfl
    have RQ:(fj (ak p) inp K (cU m 0) L1).M=⟨if K=1∧cU m 0=true then (L1.M.put 0 (L1.M.ld 0+1)).C else dP d1 s1,wu⟩∧(fj (ak p) inp K (cU m 0) L1).Q=(if K=1∧cU m 0=true then (L1.M.put 0 (L1.M.ld 0+1)).C else dP d1 s1)∧(fj (ak p) inp K (cU m 0) L1).b.out=L1.b.out∧(fj (ak p) inp K (cU m 0) L1).b.wrong=L1.b.wrong:=by
     rcases Ed with q|⟨q1,q2,q3⟩
     ·rw[q];exact⟨rfl,rfl,rfl,rfl⟩
     ·rw[q3,aq ⟨q1,q2⟩];have eQ:(eg (ak p) inp L1).Q=(L1.M.put 0 (L1.M.ld 0+1)).C:=(aq yo).trans hMC
      have eB:(eg (ak p) inp L1).b={bump L1.b with kept:=(bump L1.b).m}:=by
       show bp (ak p) inp true L1.b=_;rw[bp,aq h0,qh rC ki];rfl
      refine⟨?_,eQ,?_,?_⟩
      ·show (⟨(eg (ak p) inp L1).Q,wu⟩:Me)=_;rw[eQ]
      ·show (gS (eg (ak p) inp L1).b).out=_;rw[eB];rfl
      ·show (gS (eg (ak p) inp L1).b).wrong=_;rw[eB];rfl
    obtain⟨LT,hLT⟩:∃LT,LT=fj (ak p) inp K (cU m 0) L1:=⟨_,rfl⟩;rw[←hLT] at RQ cZ;obtain⟨w1,w2,w3,w4⟩:=RQ;obtain⟨QT,hQT⟩:∃QT,QT=(if K=1∧cU m 0=true then (L1.M.put 0 (L1.M.ld 0+1)).C else dP d1 s1):=⟨_,rfl⟩;rw[←hQT] at w1 w2;(have KB:=fun σ=>Qh σ Gn J5 db d1 s1 (L1.M.put 0 (L1.M.ld 0+1)) K hKp m wm wE);rw[←hQT] at KB;refine yC (vy) ?_;refine bY ?_;refine et 7 1728 [6] (ar.bB (R:=aw gx _ _) zL (ar.bB (R:=aw g3 _ _) zL (ar.nil _))) ?_;refine a8 ?_;refine aP.b7 rfl rfl Gd.free aC (ax.cE (M8 cO g1 Gn pb pc J6 _ cc _ J7 0 false K) rfl) ?_;rintro _ _ _ ⟨_,⟨rfl,rfl,rfl⟩,rfl⟩;refine aP.cl ?_;refine bJ ?_;refine zw rfl (ax.cE (Qg cO g1 Gn J5 db pb pc J6 cc J7 (ak p) inp K false d1 s1 L1.M L1.b x' tz ad hKp Oq cR.iJ.sh hx ki) rfl) ?_;rintro _ cL _ ⟨_,⟨rfl,bT,rfl⟩,rfl⟩;refine az.cl ?_;refine cx ?_;refine et 7 1728 [6] (ar.bB (R:=aw gx _ _) zL (ar.bB (R:=aw g3 _ _) zL (ar.nil _))) ?_;refine a8 ?_;refine aP.b7 rfl rfl Gd.free aC (ax.cE (KB cL) rfl) ?_;rintro _ _ _ ⟨_,⟨d3,s3,rfl,rfl,RO,hg3,RP,rfl⟩,rfl⟩;refine aP.cl ?_;refine dc ?_;refine zw rfl (ax.cE (B8 cL gx db pb _ pc Nb (ak p).length cc Nc nc inp d3 s3 RO (wj.mono bT) cR.iJ.inl) rfl) ?_;rintro _ qf _ ⟨_,⟨g4,Uj,Uk,Ul,Um,rfl,jU,Un,rfl⟩,rfl⟩;refine az.cl ?_;refine dC ?_;rw[RP,cZ,←w1,←w3,←w4];exact bC rfl rfl ⟨congrArg i64 C7,(bz.trans bT).trans jU,s3.gen,gF,⟨g4,Uj,Uk,d3,s3,Ul,Um,Nb,Nc,RP.trans w2.symm,rfl,RO,Un,(wj.mono bT).mono jU,rfl⟩⟩
  ·(have Uo:zr (ak p) L1.b.m=false:=by revert yo;cases zr (ak p) L1.b.m<;>simp);rw[Uo] at vy;by_cases h0:L1.b.m.st=0
   ·rw[aM h0] at jg;rw[hf,fe,ag yo,aq h0] at cZ;refine yC (vy) ?_;refine cp ?_;refine zw rfl (ax.cE (jg) rfl) ?_;rintro _ cL _ ⟨_,⟨d2,s2,rfl,KI,J8,J9,Gp,bT,rfl⟩,rfl⟩;refine az.cl ?_;refine bm ?_;refine⟨bQ,(i+1,eg (ak p) inp L1),_,zM,?_,⟨bz.trans bT,by show i+1≤n;omega,cR.next ad,by rw[cZ,show n-(i+1)=f by omega];simp only[Prod.mk.injEq,true_and];omega,s2.gen,by show s2.gen≤((k+(i+1):Nat):Int);omega,_,⟨g1,Gn,J5,d2,s2,J6,J7,Nb,Nc,Gp,rfl,J9,wM.mono bT,wj.mono bT,rfl⟩,rfl⟩,gF⟩
    ·exact zE
   ·rw[aE h0] at jg;rw[hf,fe,ag yo,ag h0] at cZ
    have rQ:eg (ak p) inp L1=L1:=by
     have gP:L1.M.ld 4=L1.b.m.st:=cR.iJ.st;rw[eg,ag yo,bp,ag h0,mu,ag (by rw[gP];exact h0)]
    rw[rQ] at jg;refine yC (vy) ?_;refine cp ?_;refine zw rfl (ax.cE (jg) rfl) ?_;rintro _ cL _ ⟨_,⟨d2,s2,rfl,KI,J8,J9,Gp,bT,rfl⟩,rfl⟩;refine az.cl ?_;refine dC ?_;have hg3:=J8 yo;rw[cZ];exact bC rfl rfl ⟨aZ,bz.trans bT,s2.gen,by simp only[Nat.zero_add];omega,⟨g1,Gn,J5,d2,s2,J6,J7,Nb,Nc,Gp,rfl,J9,wM.mono bT,wj.mono bT,rfl⟩⟩
 refine dB ?_;(obtain rfl:i=n:=by omega);rw[Nat.sub_self,fe] at cZ;rw[cZ];exact bC rfl rfl ⟨aZ,bz,KH,by simpa using DK,⟨g1,Gn,J5,d1,s1,J6,J7,Nb,Nc,VC,Uh,Yf,wM,wj,rfl⟩⟩
end
end Go.Proofs.YtgeoiflbjcehcaaGreatDoor
