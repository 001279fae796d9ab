import Derived.Test.YtgeoiflbjcehcaaGreatDoorDj19
set_option maxHeartbeats 4000000
set_option maxRecDepth 2000
set_option linter.unusedVariables false
set_option linter.unusedSimpArgs false
namespace Go.Proofs.YtgeoiflbjcehcaaGreatDoor
open Go X
theorem yv {vs:List Va} {cells:List Int} {x:Ex} {f:Nat} {b:Bool} {k:Nat} (h:Lk vs cells x f=.ok (b,k)):k≤f:=by
 rw[Lk] at h
 cases e:b4 vs cells x f with
 |error q=>rw[e] at h;cases h
 |ok q=>
  obtain⟨n,k0⟩:=q;have:=(lT vs cells x f).ok _ e;rw[e] at h;simp only at h this
  cases k0 with
  |zero=>cases h
  |succ k0=>rw[GM] at h;cases h;omega
theorem Rt (σ:PH) (pr:Pr) (h1:∀x∈pr.vars,1≤x.size) (hz:∀x∈pr.vars,0≤x.size∧x.size≤1000) (kK:pr.vars.length≤1000):∀(g:Nat) (x:St),Oy g σ pr x:=by
 intro g
 induction g using Nat.strongRecOn with
 |_ g ih=>
 intro x;obtain⟨op,v,ex,fx,body,cG⟩:=x;intro cs b pv cv bs gc nc s vi po co r hp hx hV hF ri hr;obtain⟨pe,de,pf,df,pb,cb,pl,cl,rfl,-,-,iO,Aq,tK,vy⟩:=hx.BP;simp only[St.op,St.v,St.e,St.f,St.body,St.cG] at iO Aq tK vy⊢;clear hx;rw[A0] at hV;obtain⟨tY,hv,he,hf,-,-,ml,jE⟩:=hV
 cases g with
 |zero=>cases hr
 |succ g=>
 obtain⟨cells,inp,out,f⟩:=s;obtain⟨dY,gD,rj,Ll⟩:=hF;simp only at dY gD rj Ll ri⊢;by_cases q1:op=1
 ·subst q1;rw[fT,if_pos rfl] at hr;have rE:=hv rfl;obtain⟨vx,yq,WN,wR,xU,AI⟩:=jS h1 rE;have hE:=tc σ pr h1 hz kK ex _ b pv cv bs gc nc cells vi (.slice po out.length co) f hp iO (he rfl).1 dY gD (by omega);have rH:=lT pr.vars cells ex f
  cases e1:b4 pr.vars cells ex f with
  |error q=>
   obtain⟨c0,k⟩:=q;rw[show vY pr.vars v ex ⟨cells,inp,out,f⟩=.error (c0,⟨cells,inp,out,k⟩) by simp[vY,mE,e1]] at hr;cases hr;(refine bS Tryz.func154 ?_;refine aN ?_;refine cN fun g3=>?_;refine cr ?_;refine aO ?_;refine az.die rfl (hE.2 c0 k e1) rfl ?_);rintro _ _ _ ⟨rfl,rfl,rfl⟩;refine DA.cl ?_;(repeat (first|refine DA.ax ?_|refine DA.ay ?_));exact ao.panic zE ⟨rfl,rfl,vi,po,co,ri,rfl⟩
  |ok q=>
   obtain⟨n,k⟩:=q;have hk:=rH.ok _ e1;simp only at hk
   cases k with
   |zero=>
    rw[show vY pr.vars v ex ⟨cells,inp,out,f⟩=.error (13,⟨cells,inp,out,0⟩) by simp[vY,mE,e1,cx]] at hr;cases hr;(refine bS Tryz.func154 ?_;refine aN ?_;refine cN fun g3=>?_;refine cr ?_;refine aO ?_;refine zw rfl (aC.cE (hE.1 n 0 e1) rfl) ?_;rintro _ _ _ ⟨_,⟨rfl,rfl,rfl⟩,rfl⟩;refine az.cl ?_;refine aO ?_;refine az.die rfl (kn σ b _ _ _ _ _) rfl ?_);rintro _ _ _ ⟨rfl,rfl,rfl⟩;refine DA.cl ?_;(repeat (first|refine DA.ax ?_|refine DA.ay ?_));exact ao.panic zE ⟨rfl,rfl,vi,po,co,ri,rfl⟩
   |succ k=>
    rw[show vY pr.vars v ex ⟨cells,inp,out,f⟩=.ok ⟨cells.set (cellOf pr.vars v).toNat n,inp,out,k⟩ by simp[vY,mE,e1,cx]] at hr;cases hr;(have ey:(cellOf pr.vars v+0).toNat+Sz.size≤(ints cells).length:=by rw[show (ints cells).length=nc by simp[ints,dY]];show _+1≤_;omega);(have fR:aJ (ints cells) (cellOf pr.vars v+0).toNat [i64 n]=ints (cells.set (cellOf pr.vars v).toNat n):=by rw[Int.add_zero];exact qk _ _ (by omega));(refine bS Tryz.func154 ?_;refine aN ?_;refine cN fun g3=>?_;refine cr ?_;refine aO ?_;refine zw rfl (aC.cE (hE.1 n (k+1) e1) rfl) ?_;rintro _ _ _ ⟨_,⟨rfl,rfl,rfl⟩,rfl⟩;refine az.cl ?_;refine aO ?_);refine zw rfl (aC.cE (fP σ b _ _ _ _ _ k (by omega)) rfl) ?_;rintro _ _ _ ⟨_,⟨rfl,rfl,rfl⟩,rfl⟩;refine az.cl ?_;refine aN ?_;refine XA.draw (by kernel_rfl) _ _ [10] [(0,.pu),(1,.pu),(2,.pu),(3,.rd),(4,.pu),(5,.pu),(6,.rd),(8,.pu),(7,.wr),(9,.pu),(10,.wr)] (by kernel_rfl) (PH.sub.refl _) (aw.bP (R:=au b _ _) zL (aw.bP (R:=au g3 _ _) zL (aw.nil _))) ?_;refine bC ?_;refine aK.fL rfl rfl Gd.free (aC.cE (GK σ b pr _ cv bs _ _ _ _ v 0 hp hz kK rE (by decide) (by omega)) rfl) ?_;rintro _ _ _ ⟨_,⟨rfl,rfl,rfl⟩,rfl⟩;refine stays (aK.cl ?_);refine b3 ?_;refine aK.bj rfl rfl Gd.free (by kernel_rfl) (aC.st (ad rfl) rfl) ?_;rintro _ _ _ ⟨rfl,rfl,rfl⟩;refine aN ?_;exact fU rfl ⟨rfl,rfl,vi,po,co,ri,rfl⟩
 by_cases q2:op=2
 ·subst q2;rw[fT,if_neg (by decide),if_pos rfl] at hr;have rE:=hv rfl;obtain⟨vx,yq,WN,wR,xU,AI⟩:=jS h1 rE;have hE:=tc σ pr h1 hz kK ex _ b pv cv bs gc nc cells vi (.slice po out.length co) f hp iO (he rfl).1 dY gD (by omega);have rH:=lT pr.vars cells ex f
  cases e1:b4 pr.vars cells ex f with
  |error q=>
   obtain⟨c0,k⟩:=q;rw[show qh pr.vars v ex fx ⟨cells,inp,out,f⟩=.error (c0,⟨cells,inp,out,k⟩) by simp[qh,mE,e1]] at hr;cases hr;(refine bS Tryz.func154 ?_;refine aN ?_;refine cN fun g3=>?_;refine cr ?_;refine bt ?_;refine aN ?_);refine XA.draw (by kernel_rfl) _ _ [7] [(0,.pu),(1,.pu),(2,.rd),(4,.pu),(5,.pu),(6,.rd),(3,.wr),(7,.wr),(8,.pu),(9,.pu)] (by kernel_rfl) (PH.sub.refl _) (aw.bP (R:=au g3 _ _) zL (aw.nil _)) ?_;refine aO ?_;refine aK.die rfl rfl Gd.free (hE.2 c0 k e1) rfl ?_;rintro _ _ _ ⟨rfl,rfl,rfl⟩;refine DA.cl ?_;(repeat (first|refine DA.ax ?_|refine DA.ay ?_));exact ao.panic zE ⟨rfl,rfl,vi,po,co,ri,rfl⟩
  |ok q=>
   obtain⟨a,k⟩:=q;have hk:=rH.ok _ e1;simp only at hk;have Du:=tc σ pr h1 hz kK fx _ b pv cv bs gc nc cells vi (.slice po out.length co) k hp Aq (hf rfl).1 dY gD (by omega);have WQ:=lT pr.vars cells fx k
   cases e2:b4 pr.vars cells fx k with
   |error q=>
    obtain⟨c0,k2⟩:=q;rw[show qh pr.vars v ex fx ⟨cells,inp,out,f⟩=.error (c0,⟨cells,inp,out,k2⟩) by simp[qh,mE,e1,e2]] at hr;cases hr;(refine bS Tryz.func154 ?_;refine aN ?_;refine cN fun g3=>?_;refine cr ?_;refine bt ?_;refine aN ?_);refine XA.draw (by kernel_rfl) _ _ [7] [(0,.pu),(1,.pu),(2,.rd),(4,.pu),(5,.pu),(6,.rd),(3,.wr),(7,.wr),(8,.pu),(9,.pu)] (by kernel_rfl) (PH.sub.refl _) (aw.bP (R:=au g3 _ _) zL (aw.nil _)) ?_;refine aO ?_;refine aK.fL rfl rfl Gd.free (aC.cE (hE.1 a k e1) rfl) ?_;rintro _ _ _ ⟨_,⟨rfl,rfl,rfl⟩,rfl⟩;refine stays (aK.cl ?_);refine aK.die rfl rfl Gd.free (Du.2 c0 k2 e2) rfl ?_;rintro _ _ _ ⟨rfl,rfl,rfl⟩;refine DA.cl ?_;(repeat (first|refine DA.ax ?_|refine DA.ay ?_));exact ao.panic zE ⟨rfl,rfl,vi,po,co,ri,rfl⟩
   |ok q=>
    obtain⟨n,k2⟩:=q;have uq:=WQ.ok _ e2;simp only at uq
    cases k2 with
    |zero=>
     rw[show qh pr.vars v ex fx ⟨cells,inp,out,f⟩=.error (13,⟨cells,inp,out,0⟩) by simp[qh,mE,e1,e2,cx]] at hr;cases hr;(refine bS Tryz.func154 ?_;refine aN ?_;refine cN fun g3=>?_;refine cr ?_;refine bt ?_;refine aN ?_);refine XA.draw (by kernel_rfl) _ _ [7] [(0,.pu),(1,.pu),(2,.rd),(4,.pu),(5,.pu),(6,.rd),(3,.wr),(7,.wr),(8,.pu),(9,.pu)] (by kernel_rfl) (PH.sub.refl _) (aw.bP (R:=au g3 _ _) zL (aw.nil _)) ?_;refine aO ?_;refine aK.fL rfl rfl Gd.free (aC.cE (hE.1 a k e1) rfl) ?_;rintro _ _ _ ⟨_,⟨rfl,rfl,rfl⟩,rfl⟩;refine stays (aK.cl ?_);refine aK.bj rfl rfl Gd.free (by kernel_rfl) (aC.cE (Du.1 n 0 e2) rfl) ?_;rintro _ _ _ ⟨_,⟨rfl,rfl,rfl⟩,rfl⟩;refine aK.cl ?_;refine bt ?_;refine az.die rfl (kn σ b _ _ _ _ _) rfl ?_;rintro _ _ _ ⟨rfl,rfl,rfl⟩;refine DA.cl ?_;(repeat (first|refine DA.ax ?_|refine DA.ay ?_));exact ao.panic zE ⟨rfl,rfl,vi,po,co,ri,rfl⟩
    |succ k2=>
     by_cases E6:a<0∨fu pr.vars v≤a
     ·rw[show qh pr.vars v ex fx ⟨cells,inp,out,f⟩=.error (11,⟨cells,inp,out,k2⟩) by simp[qh,mE,e1,e2,cx,E6]] at hr;cases hr;(refine bS Tryz.func154 ?_;refine aN ?_;refine cN fun g3=>?_;refine cr ?_;refine bt ?_;refine aN ?_);refine XA.draw (by kernel_rfl) _ _ [7] [(0,.pu),(1,.pu),(2,.rd),(4,.pu),(5,.pu),(6,.rd),(3,.wr),(7,.wr),(8,.pu),(9,.pu)] (by kernel_rfl) (PH.sub.refl _) (aw.bP (R:=au g3 _ _) zL (aw.nil _)) ?_;refine aO ?_;refine aK.fL rfl rfl Gd.free (aC.cE (hE.1 a k e1) rfl) ?_;rintro _ _ _ ⟨_,⟨rfl,rfl,rfl⟩,rfl⟩;refine stays (aK.cl ?_);refine aK.bj rfl rfl Gd.free (by kernel_rfl) (aC.cE (Du.1 n (k2+1) e2) rfl) ?_;rintro _ _ _ ⟨_,⟨rfl,rfl,rfl⟩,rfl⟩;refine aK.cl ?_;refine bt ?_;refine zw rfl (aC.cE (fP σ b _ _ _ _ _ k2 (by omega)) rfl) ?_;rintro _ _ _ ⟨_,⟨rfl,rfl,rfl⟩,rfl⟩;refine az.cl ?_;refine aN ?_;refine XA.draw (by kernel_rfl) _ _ [11] [(0,.pu),(1,.pu),(2,.pu),(3,.rd),(4,.pu),(5,.pu),(6,.rd),(7,.pu),(9,.pu),(8,.wr),(10,.pu),(11,.wr)] (by kernel_rfl) (PH.sub.refl _) (aw.bP (R:=au b _ _) zL (aw.bP (R:=au g3 _ _) zL (aw.nil _))) ?_;refine a8 ?_;refine aK.die rfl rfl Gd.free (Vl σ b pr _ cv bs _ _ _ _ v a hp hz kK rE E6) rfl ?_;rintro _ _ _ ⟨rfl,rfl,rfl⟩;refine DA.cl ?_;(repeat (first|refine DA.ax ?_|refine DA.ay ?_));exact ao.panic zE ⟨rfl,rfl,vi,po,co,ri,rfl⟩
     ·(have xP:0≤a:=by omega);(have FL:a<fu pr.vars v:=by omega);rw[show qh pr.vars v ex fx ⟨cells,inp,out,f⟩=.ok ⟨cells.set (cellOf pr.vars v+a).toNat n,inp,out,k2⟩ by simp[qh,mE,e1,e2,cx,E6]] at hr;cases hr;(have ey:(cellOf pr.vars v+a).toNat+Sz.size≤(ints cells).length:=by rw[show (ints cells).length=nc by simp[ints,dY]];show _+1≤_;omega);have fR:aJ (ints cells) (cellOf pr.vars v+a).toNat [i64 n]=ints (cells.set (cellOf pr.vars v+a).toNat n):=qk _ _ (by omega);(refine bS Tryz.func154 ?_;refine aN ?_;refine cN fun g3=>?_;refine cr ?_;refine bt ?_;refine aN ?_);refine XA.draw (by kernel_rfl) _ _ [7] [(0,.pu),(1,.pu),(2,.rd),(4,.pu),(5,.pu),(6,.rd),(3,.wr),(7,.wr),(8,.pu),(9,.pu)] (by kernel_rfl) (PH.sub.refl _) (aw.bP (R:=au g3 _ _) zL (aw.nil _)) ?_;refine aO ?_;refine aK.fL rfl rfl Gd.free (aC.cE (hE.1 a k e1) rfl) ?_;rintro _ _ _ ⟨_,⟨rfl,rfl,rfl⟩,rfl⟩;refine stays (aK.cl ?_);refine aK.bj rfl rfl Gd.free (by kernel_rfl) (aC.cE (Du.1 n (k2+1) e2) rfl) ?_;rintro _ _ _ ⟨_,⟨rfl,rfl,rfl⟩,rfl⟩;refine aK.cl ?_;refine bt ?_;refine zw rfl (aC.cE (fP σ b _ _ _ _ _ k2 (by omega)) rfl) ?_;rintro _ _ _ ⟨_,⟨rfl,rfl,rfl⟩,rfl⟩;refine az.cl ?_;refine aN ?_;refine XA.draw (by kernel_rfl) _ _ [11] [(0,.pu),(1,.pu),(2,.pu),(3,.rd),(4,.pu),(5,.pu),(6,.rd),(7,.pu),(9,.pu),(8,.wr),(10,.pu),(11,.wr)] (by kernel_rfl) (PH.sub.refl _) (aw.bP (R:=au b _ _) zL (aw.bP (R:=au g3 _ _) zL (aw.nil _))) ?_;refine a8 ?_;refine aK.fL rfl rfl Gd.free (aC.cE (GK σ b pr _ cv bs _ _ _ _ v a hp hz kK rE xP FL) rfl) ?_;rintro _ _ _ ⟨_,⟨rfl,rfl,rfl⟩,rfl⟩;refine stays (aK.cl ?_);refine b3 ?_;refine aK.bj rfl rfl Gd.free (by kernel_rfl) (aC.st (ad rfl) rfl) ?_;rintro _ _ _ ⟨rfl,rfl,rfl⟩;refine aN ?_;exact fU rfl ⟨rfl,rfl,vi,po,co,ri,rfl⟩
 by_cases q3:op=3
 ·subst q3;rw[fT,if_neg (by decide),if_neg (by decide),if_pos rfl] at hr;have hE:=tc σ pr h1 hz kK ex _ b pv cv bs gc nc cells vi (.slice po out.length co) f hp iO (he rfl).1 dY gD (by omega);have rH:=lT pr.vars cells ex f
  cases e1:b4 pr.vars cells ex f with
  |error q=>
   obtain⟨c0,k⟩:=q;rw[show kV pr.vars ex ⟨cells,inp,out,f⟩=.error (c0,⟨cells,inp,out,k⟩) by simp[kV,mE,e1]] at hr;cases hr;(refine bS Tryz.func154 ?_;refine aN ?_;refine cN fun g3=>?_;refine cr ?_;refine bt ?_;refine bt ?_;refine aO ?_;refine az.die rfl (hE.2 c0 k e1) rfl ?_);rintro _ _ _ ⟨rfl,rfl,rfl⟩;refine DA.cl ?_;(repeat (first|refine DA.ax ?_|refine DA.ay ?_));exact ao.panic zE ⟨rfl,rfl,vi,po,co,ri,rfl⟩
  |ok q=>
   obtain⟨n,k⟩:=q;have hk:=rH.ok _ e1;simp only at hk
   cases k with
   |zero=>
    rw[show kV pr.vars ex ⟨cells,inp,out,f⟩=.error (13,⟨cells,inp,out,0⟩) by simp[kV,mE,e1,cx]] at hr;cases hr;(refine bS Tryz.func154 ?_;refine aN ?_;refine cN fun g3=>?_;refine cr ?_;refine bt ?_;refine bt ?_;refine aO ?_;refine zw rfl (aC.cE (hE.1 n 0 e1) rfl) ?_;rintro _ _ _ ⟨_,⟨rfl,rfl,rfl⟩,rfl⟩;refine az.cl ?_;refine aO ?_;refine az.die rfl (kn σ b _ _ _ _ _) rfl ?_);rintro _ _ _ ⟨rfl,rfl,rfl⟩;refine DA.cl ?_;(repeat (first|refine DA.ax ?_|refine DA.ay ?_));exact ao.panic zE ⟨rfl,rfl,vi,po,co,ri,rfl⟩
   |succ k=>
    rw[show kV pr.vars ex ⟨cells,inp,out,f⟩=.ok ⟨cells,inp,out++[n],k⟩ by simp[kV,mE,e1,cx]] at hr;cases hr;(have ho2:ints (out++[n])=ints out++[i64 n]:=by simp[ints]);(have Ib:(out++[n]).length=out.length+1:=by simp);(refine bS Tryz.func154 ?_;refine aN ?_;refine cN fun g3=>?_;refine cr ?_;refine bt ?_;refine bt ?_;refine aO ?_;refine zw rfl (aC.cE (hE.1 n (k+1) e1) rfl) ?_;rintro _ _ _ ⟨_,⟨rfl,rfl,rfl⟩,rfl⟩;refine az.cl ?_;refine aO ?_);refine zw rfl (aC.cE (fP σ b _ _ _ _ _ k (by omega)) rfl) ?_;rintro _ _ _ ⟨_,⟨rfl,rfl,rfl⟩,rfl⟩;refine az.cl ?_;refine a8 ?_;refine zw rfl (aC.qO (ad rfl) rfl (ad rfl)) ?_;rintro _ _ _ ⟨g65,rfl,rfl,rfl⟩;refine zw rfl (aC.tS (ad rfl) rfl (ad rfl) rfl rfl rfl) ?_;rintro _ _ _ ⟨YR,YS,rfl,rfl,rfl⟩;refine b9 ?_;refine ao.normal (ah:=[au b [.slice pv pr.vars.length cv,bs,.slice (some ⟨gc,0,none⟩) nc nc,vi,.slice YR (out++[n]).length YS,i64 k] 172,au gc (ints (cells)) 2,bn 2 1 (.slice YR (out++[n]).length YS) (out++[n]).length (ints (out++[n]))]) (aG.none rfl) ?_ ⟨rfl,rfl,vi,YR,YS,ri,rfl⟩;rw[ho2,Ib];exact zE
 by_cases q4:op=4
 ·subst q4;rw[fT,if_neg (by decide),if_neg (by decide),if_neg (by decide),if_pos rfl] at hr;have rE:=hv rfl;obtain⟨vx,yq,WN,wR,xU,AI⟩:=jS h1 rE
  cases f with
  |zero=>
   rw[show oO pr.vars v ⟨cells,inp,out,0⟩=.error (13,⟨cells,inp,out,0⟩) by simp[oO,cx]] at hr;cases hr;(refine bS Tryz.func154 ?_;refine aN ?_;refine cN fun g3=>?_;refine cr ?_;(iterate 3 (refine bt ?_));refine bM ?_;refine az.die rfl (kn σ b _ _ _ _ _) rfl ?_);rintro _ _ _ ⟨rfl,rfl,rfl⟩;refine DA.cl ?_;(repeat (first|refine DA.ax ?_|refine DA.ay ?_));exact ao.panic zE ⟨rfl,rfl,vi,po,co,ri,rfl⟩
  |succ k=>
   obtain⟨pi,ci,rfl,rf,B7⟩:=ri.shape;simp only[maxLen] at B7
   cases inp with
   |nil=>
    rw[show oO pr.vars v ⟨cells,[],out,k+1⟩=.error (12,⟨cells,[],out,k⟩) by simp[oO,cx]] at hr;cases hr;(refine bS Tryz.func154 ?_;refine aN ?_;refine cN fun g3=>?_;refine cr ?_;(iterate 3 (refine bt ?_));refine bM ?_);refine zw rfl (aC.cE (fP σ b _ _ _ _ _ k (by omega)) rfl) ?_;rintro _ _ _ ⟨_,⟨rfl,rfl,rfl⟩,rfl⟩;refine az.cl ?_;refine aW ?_;refine az.die rfl (v8 σ _ 12 (decide_eq_true rfl)) rfl ?_;rintro _ _ _ ⟨rfl,rfl,rfl⟩;refine DA.cl ?_;(repeat (first|refine DA.ax ?_|refine DA.ay ?_));exact ao.panic zE ⟨rfl,rfl,_,po,co,ri,rfl⟩
   |cons n rest=>
    rw[show oO pr.vars v ⟨cells,n::rest,out,k+1⟩=.ok ⟨cells.set (cellOf pr.vars v).toNat n,rest,out,k⟩ by simp[oO,cx]] at hr;cases hr;have iT:=ri.tail;obtain⟨gi,oi,rfl,hri⟩:=ri.at (show (n::rest)[0]? =some n from rfl);(have adG:cz σ gi oi [i64 n]:=by simpa using hri);simp only[List.length_cons] at rf B7 ri iT⊢;(have ey:(cellOf pr.vars v+0).toNat+Sz.size≤(ints cells).length:=by rw[show (ints cells).length=nc by simp[ints,dY]];show _+1≤_;omega);(have fR:aJ (ints cells) (cellOf pr.vars v+0).toNat [i64 n]=ints (cells.set (cellOf pr.vars v).toNat n):=by rw[Int.add_zero];exact qk _ _ (by omega));(refine bS Tryz.func154 ?_;refine aN ?_;refine cN fun g3=>?_;refine cr ?_;(iterate 3 (refine bt ?_));refine bM ?_);refine zw rfl (aC.cE (fP σ b _ _ _ _ _ k (by omega)) rfl) ?_;rintro _ _ _ ⟨_,⟨rfl,rfl,rfl⟩,rfl⟩;refine az.cl ?_;refine aW ?_;refine zw rfl (aC.cE (A8 σ _ 12 (decide_eq_false (by omega))) rfl) ?_;rintro _ _ _ ⟨_,⟨rfl,rfl,rfl⟩,rfl⟩;refine az.cl ?_;refine bq ?_;refine XA.draw (by kernel_rfl) _ _ [15] [(0,.pu),(1,.pu),(2,.pu),(3,.rd),(4,.pu),(5,.pu),(6,.rd),(8,.pu),(9,.pu),(10,.pu),(11,.rd),(12,.pu),(13,.rd),(7,.wr),(14,.pu),(15,.wr)] (by kernel_rfl) (PH.sub.refl _) (aw.bP (R:=au b _ _) zL (aw.bP (R:=au g3 _ _) zL (aw.nil _))) ?_;refine eP ?_;refine aK.fL rfl rfl Gd.free (aC.cE (GK σ b pr _ cv bs _ _ _ _ v 0 hp hz kK rE (by decide) (by omega)) rfl) ?_;rintro _ _ _ ⟨_,⟨rfl,rfl,rfl⟩,rfl⟩;refine stays (aK.cl ?_);refine b3 ?_;refine aK.bj rfl rfl Gd.free (by kernel_rfl) (aC.st (ad rfl) rfl) ?_;rintro _ _ _ ⟨rfl,rfl,rfl⟩;refine bC ?_;refine zO rfl (Rd.pM (ad rfl) rfl (ad rfl) rfl rfl rfl (by omega)) ?_;refine b9 ?_;exact fU rfl ⟨rfl,rfl,_,po,co,iT,rfl⟩
 by_cases q5:op=5
 ·subst q5;(refine bS Tryz.func154 ?_;refine aN ?_;refine cN fun g3=>?_;refine cr ?_;(iterate 4 (refine bt ?_));refine aN ?_;refine XA.gen [(0,_),(3,_)] jN fun δ=>?_);dsimp only[List.foldl];refine XA.loop [(0,0),(105,114)] (fun _:Nat=>[(0,ptr b)]) (fun g' ag ah=>σ=ag∧g'≤g+1∧∃(s':RS) (D3:Value) (D4:Option Addr) (D5:Nat),fT pr.vars g' (.mk 5 v ex fx body cG) s'=some r∧rI pr.vars nc s'∧aV σ D3 s'.inp∧ah=[au b [.slice pv pr.vars.length cv,bs,.slice (some ⟨gc,0,none⟩) nc nc,D3,.slice D4 (s'.out).length D5,i64 s'.left] 172,au gc (ints (s'.cells)) 2,bn 2 1 (.slice D4 (s'.out).length D5) (s'.out).length (ints (s'.out)),au g3 [i64 5,i64 v,i64 ex.op,i64 ex.v,i64 ex.n,.slice pe ex.l.length de,i64 fx.op,i64 fx.v,i64 fx.n,.slice pf fx.l.length df,.slice pb body.length cb,.slice pl cG.length cl] 140]) (fun g'=>g') (g+1) (by exact⟨rfl,trivial⟩) (Δ0:=_) ?_ (⟨rfl,Nat.le_refl _,⟨cells,inp,out,f⟩,vi,po,co,hr,⟨dY,gD,rj,Ll⟩,ri,rfl⟩) ?_
  ·exact zE
  rintro g' δ _ _ ⟨rfl,V7,s',D3,D4,D5,j4,WO,A9,rfl⟩;dsimp only[eb,List.foldl];obtain⟨td,Ru,GQ,f'⟩:=s';obtain⟨Rv,-,Rw,Vn⟩:=WO;simp only at Rv Rw Vn A9⊢
  cases g' with
  |zero=>cases j4
  |succ g'=>
  rw[oR,CK] at j4;have hI:=Vm σ pr h1 hz kK ex _ b pv cv bs gc nc td D3 (.slice D4 GQ.length D5) f' hp iO (he rfl).1 Rv gD (by omega)
  cases e1:Lk pr.vars td ex f' with
  |error q=>
   obtain⟨c0,k⟩:=q;rw[e1] at j4;cases j4;refine aO ?_;refine az.die rfl (hI.2 c0 k e1) rfl ?_;rintro _ _ _ ⟨rfl,rfl,rfl⟩;refine DA.cl ?_;(repeat (first|refine DA.ax ?_|refine DA.ay ?_));exact ao.panic zE ⟨rfl,rfl,D3,D4,D5,A9,rfl⟩
  |ok q=>
   obtain⟨bb,k⟩:=q;have hk:=yv e1;rw[e1] at j4;simp only at j4
   cases bb with
   |false=>
    cases j4;refine aO ?_;refine zw rfl (aC.cE (hI.1 false k e1) rfl) ?_;rintro _ _ _ ⟨_,⟨rfl,rfl,rfl⟩,rfl⟩;refine az.cl ?_;refine aN ?_;refine aO ?_;exact fU rfl ⟨rfl,rfl,D3,D4,D5,A9,rfl⟩
   |true=>
    simp only at j4;have Ax:rI pr.vars nc ⟨td,Ru,GQ,k⟩:=⟨Rv,gD,by show k<_;omega,by show GQ.length+k<_;omega⟩
    cases e2:dI (fT pr.vars g') body ⟨td,Ru,GQ,k⟩ with
    |none=>rw[e2] at j4;cases j4
    |some q=>
     have hL:=wa g' σ pr body (fun x _=>ih g' (by omega) x) _ b pv cv bs gc nc ⟨td,Ru,GQ,k⟩ D3 D4 D5 q hp tK ml Ax A9 e2;have hle:=gW (kq pr.vars g') _ _ _ e2;rw[e2] at j4;simp only at j4 hL
     cases q with
     |error q=>
      obtain⟨c0,s0⟩:=q;cases j4;refine aO ?_;refine zw rfl (aC.cE (hI.1 true k e1) rfl) ?_;rintro _ _ _ ⟨_,⟨rfl,rfl,rfl⟩,rfl⟩;refine az.cl ?_;refine aN ?_;refine a8 ?_;refine az.die rfl (lx.err hL) rfl ?_;rintro _ _ _ ⟨rfl,rfl,ql,qm,qn,iT,rfl⟩;refine DA.cl ?_;(repeat (first|refine DA.ax ?_|refine DA.ay ?_));exact ao.panic zE ⟨rfl,rfl,ql,qm,qn,iT,rfl⟩
     |ok s2=>
      have jQ:=Ax.less hle;obtain⟨jr,tf,qq,f2⟩:=s2;have Rx:f2<1000000:=jQ.left;simp only at j4
      cases f2 with
      |zero=>
       rw[show cx ⟨jr,tf,qq,0⟩=.error (13,⟨jr,tf,qq,0⟩) from rfl] at j4;cases j4;refine aO ?_;refine zw rfl (aC.cE (hI.1 true k e1) rfl) ?_;rintro _ _ _ ⟨_,⟨rfl,rfl,rfl⟩,rfl⟩;refine az.cl ?_;refine aN ?_;refine a8 ?_;refine zw rfl (aC.cE (lx.ok hL) rfl) ?_;rintro _ _ _ ⟨_,⟨rfl,rfl,ql,qm,qn,iT,rfl⟩,rfl⟩;refine az.cl ?_;refine bM ?_;refine az.die rfl (kn σ b _ _ _ _ _) rfl ?_;rintro _ _ _ ⟨rfl,rfl,rfl⟩;refine DA.cl ?_;(repeat (first|refine DA.ax ?_|refine DA.ay ?_));exact ao.panic zE ⟨rfl,rfl,ql,qm,qn,iT,rfl⟩
      |succ f2=>
       rw[show cx ⟨jr,tf,qq,f2+1⟩=.ok ⟨jr,tf,qq,f2⟩ by simp[cx]] at j4;simp only at j4;have FO:rI pr.vars nc ⟨jr,tf,qq,f2⟩:=⟨jQ.cl,jQ.sz,by show f2<_;omega,by have:qq.length+(f2+1)<2000000:=jQ.out;show qq.length+f2<_;omega⟩;refine aO ?_;refine zw rfl (aC.cE (hI.1 true k e1) rfl) ?_;rintro _ _ _ ⟨_,⟨rfl,rfl,rfl⟩,rfl⟩;refine az.cl ?_;refine aN ?_;refine a8 ?_;refine zw rfl (aC.cE (lx.ok hL) rfl) ?_;rintro _ _ _ ⟨_,⟨rfl,rfl,ql,qm,qn,iT,rfl⟩,rfl⟩;refine az.cl ?_;refine bM ?_;refine zw rfl (aC.cE (fP σ b _ _ _ _ _ f2 (by omega)) rfl) ?_;rintro _ _ _ ⟨_,⟨rfl,rfl,rfl⟩,rfl⟩;refine az.cl ?_;refine bq ?_;refine⟨cF,g',_,zM,?_,⟨rfl,by omega,⟨jr,tf,qq,f2⟩,ql,qm,qn,j4,FO,iT,rfl⟩,(by omega)⟩
       ·exact zE
 by_cases q6:op=6
 ·subst q6;rw[rh,CK] at hr;have hI:=Vm σ pr h1 hz kK ex _ b pv cv bs gc nc cells vi (.slice po out.length co) f hp iO (he rfl).1 dY gD (by omega)
  cases e1:Lk pr.vars cells ex f with
  |error q=>
   obtain⟨c0,k⟩:=q;rw[e1] at hr;cases hr;(refine bS Tryz.func154 ?_;refine aN ?_;refine cN fun g3=>?_;refine cr ?_;(iterate 6 (refine bt ?_));refine az.die rfl (hI.2 c0 k e1) rfl ?_);rintro _ _ _ ⟨rfl,rfl,rfl⟩;refine DA.cl ?_;(repeat (first|refine DA.ax ?_|refine DA.ay ?_));exact ao.panic zE ⟨rfl,rfl,vi,po,co,ri,rfl⟩
  |ok q=>
   obtain⟨bb,k⟩:=q;have hk:=yv e1;rw[e1] at hr;simp only at hr;have Ax:rI pr.vars nc ⟨cells,inp,out,k⟩:=⟨dY,gD,by show k<_;omega,by show out.length+k<_;omega⟩
   cases bb with
   |false=>
    simp only at hr;have hL:=wa g σ pr cG (fun x _=>ih g (by omega) x) _ b pv cv bs gc nc ⟨cells,inp,out,k⟩ vi po co r hp vy jE Ax ri hr;simp only at hL
    cases r with
    |error q=>
     obtain⟨c0,s0⟩:=q;(refine bS Tryz.func154 ?_;refine aN ?_;refine cN fun g3=>?_;refine cr ?_;(iterate 6 (refine bt ?_));refine zw rfl (aC.cE (hI.1 false k e1) rfl) ?_;rintro _ _ _ ⟨_,⟨rfl,rfl,rfl⟩,rfl⟩;refine az.cl ?_;refine aN ?_;refine bt ?_;refine az.die rfl (lx.err hL) rfl ?_);rintro _ _ _ ⟨rfl,rfl,ql,qm,qn,iT,rfl⟩;refine DA.cl ?_;(repeat (first|refine DA.ax ?_|refine DA.ay ?_));exact ao.panic zE ⟨rfl,rfl,ql,qm,qn,iT,rfl⟩
    |ok s2=>
     (refine bS Tryz.func154 ?_;refine aN ?_;refine cN fun g3=>?_;refine cr ?_;(iterate 6 (refine bt ?_));refine zw rfl (aC.cE (hI.1 false k e1) rfl) ?_;rintro _ _ _ ⟨_,⟨rfl,rfl,rfl⟩,rfl⟩;refine az.cl ?_;refine aN ?_;refine bt ?_;refine zw rfl (aC.cE (lx.ok hL) rfl) ?_);rintro _ _ _ ⟨_,⟨rfl,rfl,ql,qm,qn,iT,rfl⟩,rfl⟩;refine az.cl ?_;refine aN ?_;exact fU rfl ⟨rfl,rfl,ql,qm,qn,iT,rfl⟩
   |true=>
    simp only at hr
    cases e2:dI (fT pr.vars g) body ⟨cells,inp,out,k⟩ with
    |none=>rw[e2] at hr;cases hr
    |some q=>
     have hL:=wa g σ pr body (fun x _=>ih g (by omega) x) _ b pv cv bs gc nc ⟨cells,inp,out,k⟩ vi po co q hp tK ml Ax ri e2;have hle:=gW (kq pr.vars g) _ _ _ e2;rw[e2] at hr;simp only at hr hL
     cases q with
     |error q=>
      obtain⟨c0,s0⟩:=q;cases hr;(refine bS Tryz.func154 ?_;refine aN ?_;refine cN fun g3=>?_;refine cr ?_;(iterate 6 (refine bt ?_));refine zw rfl (aC.cE (hI.1 true k e1) rfl) ?_;rintro _ _ _ ⟨_,⟨rfl,rfl,rfl⟩,rfl⟩;refine az.cl ?_;refine aN ?_;refine aO ?_;refine az.die rfl (lx.err hL) rfl ?_);rintro _ _ _ ⟨rfl,rfl,ql,qm,qn,iT,rfl⟩;refine DA.cl ?_;(repeat (first|refine DA.ax ?_|refine DA.ay ?_));exact ao.panic zE ⟨rfl,rfl,ql,qm,qn,iT,rfl⟩
     |ok s2=>
      have jQ:=Ax.less hle;obtain⟨jr,tf,qq,f2⟩:=s2;have Rx:f2<1000000:=jQ.left;simp only at hr
      cases f2 with
      |zero=>
       rw[show cx ⟨jr,tf,qq,0⟩=.error (13,⟨jr,tf,qq,0⟩) from rfl] at hr;cases hr;(refine bS Tryz.func154 ?_;refine aN ?_;refine cN fun g3=>?_;refine cr ?_;(iterate 6 (refine bt ?_));refine zw rfl (aC.cE (hI.1 true k e1) rfl) ?_;rintro _ _ _ ⟨_,⟨rfl,rfl,rfl⟩,rfl⟩;refine az.cl ?_;refine aN ?_;refine aO ?_;refine zw rfl (aC.cE (lx.ok hL) rfl) ?_);rintro _ _ _ ⟨_,⟨rfl,rfl,ql,qm,qn,iT,rfl⟩,rfl⟩;refine az.cl ?_;refine b9 ?_;refine az.die rfl (kn σ b _ _ _ _ _) rfl ?_;rintro _ _ _ ⟨rfl,rfl,rfl⟩;refine DA.cl ?_;(repeat (first|refine DA.ax ?_|refine DA.ay ?_));exact ao.panic zE ⟨rfl,rfl,ql,qm,qn,iT,rfl⟩
      |succ f2=>
       rw[show cx ⟨jr,tf,qq,f2+1⟩=.ok ⟨jr,tf,qq,f2⟩ by simp[cx]] at hr;cases hr;(refine bS Tryz.func154 ?_;refine aN ?_;refine cN fun g3=>?_;refine cr ?_;(iterate 6 (refine bt ?_));refine zw rfl (aC.cE (hI.1 true k e1) rfl) ?_;rintro _ _ _ ⟨_,⟨rfl,rfl,rfl⟩,rfl⟩;refine az.cl ?_;refine aN ?_;refine aO ?_;refine zw rfl (aC.cE (lx.ok hL) rfl) ?_);rintro _ _ _ ⟨_,⟨rfl,rfl,ql,qm,qn,iT,rfl⟩,rfl⟩;refine az.cl ?_;refine b9 ?_;refine zw rfl (aC.cE (fP σ b _ _ _ _ _ f2 (by omega)) rfl) ?_;rintro _ _ _ ⟨_,⟨rfl,rfl,rfl⟩,rfl⟩;refine az.cl ?_;refine b9 ?_;exact N0 rfl ⟨rfl,rfl,ql,qm,qn,iT,rfl⟩
 (obtain rfl:op=7:=by omega);rw[fT,if_neg (by decide),if_neg (by decide),if_neg (by decide),if_neg (by decide),if_neg (by decide),if_neg (by decide),if_pos rfl] at hr
 cases f with
 |zero=>
  rw[show cx ⟨cells,inp,out,0⟩=.error (13,⟨cells,inp,out,0⟩) from rfl] at hr;cases hr;(refine bS Tryz.func154 ?_;refine aN ?_;refine cN fun g3=>?_;refine cr ?_;(iterate 6 (refine bt ?_));refine bq ?_;refine az.die rfl (kn σ b _ _ _ _ _) rfl ?_);rintro _ _ _ ⟨rfl,rfl,rfl⟩;refine DA.cl ?_;(repeat (first|refine DA.ax ?_|refine DA.ay ?_));exact ao.panic zE ⟨rfl,rfl,vi,po,co,ri,rfl⟩
 |succ k=>
  rw[show cx ⟨cells,inp,out,k+1⟩=.ok ⟨cells,inp,out,k⟩ by simp[cx]] at hr;cases hr;(refine bS Tryz.func154 ?_;refine aN ?_;refine cN fun g3=>?_;refine cr ?_;(iterate 6 (refine bt ?_));refine bq ?_);refine zw rfl (aC.cE (fP σ b _ _ _ _ _ k (by omega)) rfl) ?_;rintro _ _ _ ⟨_,⟨rfl,rfl,rfl⟩,rfl⟩;refine az.cl ?_;refine aN ?_;exact fU rfl ⟨rfl,rfl,vi,po,co,ri,rfl⟩
theorem kW {F F':St→RS→Option RR} (h:∀x s r,F x s=some r→F' x s=some r):∀(l:List St) (s:RS) (r:RR),dI F l s=some r→dI F' l s=some r
 |[],s,r,e=>e
 |x::l,s,r,e=>by
  rw[dI] at e⊢
  cases e1:F x s with
  |none=>rw[e1] at e;cases e
  |some q=>
   rw[e1] at e;rw[h _ _ _ e1]
   cases q with
   |error q=>exact e
   |ok s1=>exact kW h l s1 r e
theorem GR (vs:List Va):∀(g:Nat) (x:St) (s:RS) (r:RR),fT vs g x s=some r→fT vs (g+1) x s=some r:=by
 intro g
 induction g with
 |zero=>intro x s r h;cases h
 |succ g ih=>
  intro x s r h;obtain⟨op,v,e,f,body,cG⟩:=x;by_cases q1:op=1
  ·subst q1;rw[fT,if_pos rfl] at h⊢;exact h
  by_cases q2:op=2
  ·subst q2;rw[fT,if_neg (by decide),if_pos rfl] at h⊢;exact h
  by_cases q3:op=3
  ·subst q3;rw[fT,if_neg (by decide),if_neg (by decide),if_pos rfl] at h⊢;exact h
  by_cases q4:op=4
  ·subst q4;rw[fT,if_neg (by decide),if_neg (by decide),if_neg (by decide),if_pos rfl] at h⊢;exact h
  have hl:=kW ih;by_cases q5:op=5
  ·subst q5;rw[oR] at h⊢
   cases e1:tM vs e s with
   |error q=>rw[e1] at h;exact h
   |ok q=>
    obtain⟨bb,s1⟩:=q;rw[e1] at h
    cases bb with
    |false=>exact h
    |true=>
     simp only at h⊢
     cases e2:dI (fT vs g) body s1 with
     |none=>rw[e2] at h;cases h
     |some q=>
      rw[e2] at h;rw[hl _ _ _ e2]
      cases q with
      |error q=>exact h
      |ok s2=>
       simp only at h⊢
       cases e3:cx s2 with
       |error q=>rw[e3] at h;exact h
       |ok s3=>rw[e3] at h;exact ih _ _ _ h
  by_cases q6:op=6
  ·subst q6;rw[rh] at h⊢
   cases e1:tM vs e s with
   |error q=>rw[e1] at h;exact h
   |ok q=>
    obtain⟨bb,s1⟩:=q;rw[e1] at h
    cases bb with
    |false=>exact hl _ _ _ h
    |true=>
     simp only at h⊢
     cases e2:dI (fT vs g) body s1 with
     |none=>rw[e2] at h;cases h
     |some q=>rw[e2] at h;rw[hl _ _ _ e2];exact h
  rw[fT,if_neg q1,if_neg q2,if_neg q3,if_neg q4,if_neg q5,if_neg q6] at h⊢;exact h
theorem wb (vs:List Va) {g g':Nat} (hg:g≤g') {x:St} {s:RS} {r:RR} (h:fT vs g x s=some r):fT vs g' x s=some r:=by
 induction hg with
 |refl=>exact h
 |step _ ih=>exact GR vs _ _ _ _ ih
theorem GU {vs:List Va} {x:Ex} {s:RS} {b:Bool} {s':RS} (h:tM vs x s=.ok (b,s')):s'.left<s.left:=by
 rw[tM] at h;obtain⟨h1,-⟩:=oQ vs x s
 cases e:mE vs x s with
 |error q=>rw[e] at h;cases h
 |ok q=>
  obtain⟨n,s1⟩:=q;have a:=(h1 _ _ e).2.1;rw[e] at h;simp only at h
  cases e2:cx s1 with
  |error q=>rw[e2] at h;cases h
  |ok s2=>
   rw[e2] at h;cases h;have:=(fm.1 _ e2).2.1;omega
theorem lV {vs:List Va} {f:Nat} (hT:∀x s,s.left≤f→∃g r,fT vs g x s=some r):∀(l:List St) (s:RS),s.left≤f→∃g r,dI (fT vs g) l s=some r
 |[],s,_=>⟨0,_,rfl⟩
 |x::l,s,hs=>by
  obtain⟨g,r,e⟩:=hT x s hs
  cases r with
  |error q=>exact⟨g,.error q,by rw[dI,e]⟩
  |ok s1=>
   have hle:=kq _ _ _ _ _ e;obtain⟨g2,r2,e2⟩:=lV hT l s1 (Nat.le_trans hle.left hs);refine⟨max g g2,r2,?_⟩;rw[dI,wb vs (Nat.le_max_left g g2) e];exact kW (fun x s r h=>wb vs (Nat.le_max_right g g2) h) _ _ _ e2
theorem D6 (vs:List Va):∀(f:Nat) (x:St) (s:RS),s.left≤f→∃g r,fT vs g x s=some r:=by
 intro f
 induction f using Nat.strongRecOn with
 |_ f ih=>
 intro x s hs;(have hL:∀(l:List St) (s1:RS),s1.left<s.left→∃g r,dI (fT vs g) l s1=some r:=fun l s1 h1=>lV (fun x s2 h2=>ih s1.left (by omega) x s2 h2) l s1 (Nat.le_refl _));obtain⟨op,v,e,ff,body,cG⟩:=x;by_cases q1:op=1
 ·subst q1;exact⟨1,_,by rw[fT,if_pos rfl]⟩
 by_cases q2:op=2
 ·subst q2;exact⟨1,_,by rw[fT,if_neg (by decide),if_pos rfl]⟩
 by_cases q3:op=3
 ·subst q3;exact⟨1,_,by rw[fT,if_neg (by decide),if_neg (by decide),if_pos rfl]⟩
 by_cases q4:op=4
 ·subst q4;exact⟨1,_,by rw[fT,if_neg (by decide),if_neg (by decide),if_neg (by decide),if_pos rfl]⟩
 by_cases q5:op=5
 ·subst q5
  cases e1:tM vs e s with
  |error q=>exact⟨1,_,by rw[oR,e1]⟩
  |ok q=>
   obtain⟨bb,s1⟩:=q;have h1:=GU e1
   cases bb with
   |false=>exact⟨1,_,by rw[oR,e1]⟩
   |true=>
    obtain⟨g2,r2,e2⟩:=hL body s1 h1
    cases r2 with
    |error q=>exact⟨g2+1,.error q,by rw[oR,e1];simp only[e2]⟩
    |ok s2=>
     have hle:=gW (kq vs g2) _ _ _ e2
     cases e3:cx s2 with
     |error q=>exact⟨g2+1,.error q,by rw[oR,e1];simp only[e2,e3]⟩
     |ok s3=>
      have h3:=(fm.1 _ e3).2.1;have h2:s2.left≤s1.left:=hle.left;obtain⟨g4,r4,e4⟩:=ih s3.left (by omega) (.mk 5 v e ff body cG) s3 (Nat.le_refl _);refine⟨max g2 g4+1,r4,?_⟩;rw[oR,e1];simp only[kW (fun x s r h=>wb vs (Nat.le_max_left g2 g4) h) _ _ _ e2,e3];exact wb vs (Nat.le_max_right g2 g4) e4
 by_cases q6:op=6
 ·subst q6
  cases e1:tM vs e s with
  |error q=>exact⟨1,_,by rw[rh,e1]⟩
  |ok q=>
   obtain⟨bb,s1⟩:=q;have h1:=GU e1
   cases bb with
   |false=>
    obtain⟨g2,r2,e2⟩:=hL cG s1 h1;exact⟨g2+1,r2,by rw[rh,e1];exact e2⟩
   |true=>
    obtain⟨g2,r2,e2⟩:=hL body s1 h1
    cases r2 with
    |error q=>exact⟨g2+1,.error q,by rw[rh,e1];simp only[e2]⟩
    |ok s2=>exact⟨g2+1,cx s2,by rw[rh,e1];simp only[e2]⟩
 exact⟨1,if op=7 then cx s else .ok s,by rw[fT,if_neg q1,if_neg q2,if_neg q3,if_neg q4,if_neg q5,if_neg q6];split<;>rfl⟩
def D7:RR→RR
 |.ok s=>cx s
 |.error e=>.error e
def Lm:RR→Int×RS
 |.ok s=>(0,s)
 |.error e=>e
def start (p:Pr) (inp:List Int) (fuel:Nat):RS:=⟨List.replicate (sizes p.vars).toNat 0,inp,[],fuel⟩
def oS (p:Pr) (inp:List Int) (fuel:Nat) (c:Int) (s:RS):Prop:=∃g r,dI (fT p.vars g) p.body (start p inp fuel)=some r∧Lm (D7 r)=(c,s)
theorem D8 (p:Pr) (inp:List Int) (fuel:Nat):∃c s,oS p inp fuel c s:=by
 obtain⟨g,r,e⟩:=lV (D6 p.vars (start p inp fuel).left) p.body (start p inp fuel) (Nat.le_refl _);exact⟨_,_,g,r,e,rfl⟩
section
variable {P:Program} {ρ:Env} {h:Heap} {ty:TypeId} {σ:PH} {Γ:List HP}
theorem Wr.makeSlice {T e n m:Nat} {x y:Operand} {kx ky:IntKind} {r re:Ty} (hT:av P T=some r) (hk:r.k=.slice e) (hE:av P e=some re) (hx:ev ρ x=.int kx n) (hy:ev ρ y=.int ky n) (hn:h.size=m) (hz:re.zero.length=re.size) (hb:re.bytes*n≤16777216) (hs:n≤16777216) (h0:n*re.size≠0):
 Wr P ρ h (.makeSlice T x y) ty (fun v' h'=>v'=.slice (some ⟨m,0,none⟩) n n∧h'=h.push (.cells ((List.range (n*re.size)).map fun k=>re.zero.getD (k%re.size) undef).toArray e (0,0))) X.mI:=by
 subst hn;(refine Wr.run fun d pos af gd w hw=>?_);obtain⟨dd,i,z,e1,e2,-⟩:=aD hT;obtain⟨tO,i',z',rN,qI,jz,kA,z8,vk,zf⟩:=aD hE;rw[hk] at e2;(cases dd<;>simp[kindOf] at e2);rw[e2] at e1;clear e2;have vm:z'.cells.size=re.size:=by rw[←Array.length_toList,zf,hz]
 have hzero:(Array.range (n*re.size)).map (fun k=>z'.cells[k%z'.cells.size]!)=((List.range (n*re.size)).map fun k=>re.zero.getD (k%re.size) undef).toArray:=by
  apply Array.ext';simp only[Array.toList_map,Array.toList_range,vm];apply List.map_congr_left;intro k hk
  have aT:k%re.size<re.size:=Nat.mod_lt _ (by
   rcases Nat.eq_zero_or_pos re.size with h0|h0
   ·rw[h0,Nat.mul_zero] at hk;simp at hk
   ·exact h0)
  rw[←zf];(have Ff:k%re.size<z'.cells.size:=by rw[vm];exact aT);simp[getElem!_pos,Ff,List.getD_eq_getElem?_getD]
 have YT:IntKind.i64.wrap (n:Int)=n:=X.wrap64_in (by omega) (by omega);have n4:¬(n*re.bytes>roomBytes):=by rw[Nat.mul_comm];simp only[roomBytes];omega
 have hbi:¬((re.bytes:Int)*n>2^48):=by
  (have:((re.bytes*n:Nat):Int)≤16777216:=by omega);rw[Int.natCast_mul] at this;omega
 refine⟨_,w.alloc (.cells ((List.range (n*re.size)).map fun k=>re.zero.getD (k%re.size) undef).toArray e (0,0)),?_,⟨rfl,rfl,rfl⟩,rfl,by rw[←hw];rfl⟩;simp only[execOp,Instr.makeSlice,Sem.run_bind,run_underlying e1,Result.andThen_ok,sizeOf,typeInfo,run_program,jz,kA,z8,Sem.run_pure,zeroValue,vk,hx,hy,asInt,asIntOf,Result.andThen_ok,YT];rw[if_neg (by simp;omega)];simp only[askRoom,if_neg n4,Int.toNat_natCast,Sem.run_bind,Sem.run_pure,Result.andThen_ok,sizeOf,typeInfo,run_program,jz,kA,zeroValue,vk,if_neg h0];rw[hzero];simp[newRow,hw]
theorem X.aC.mkS {T e n:Nat} {x y:Operand} {kx ky:IntKind} {r re:Ty} {zs:List Value} (hT:av P T=some r) (hk:r.k=.slice e) (hE:av P e=some re) (hx:ev ρ x=.int kx n) (hy:ev ρ y=.int ky n) (hz:re.zero.length=re.size) (hb:re.bytes*n≤16777216) (hs:n≤16777216) (h0:n*re.size≠0)
 (vm:((List.range (n*re.size)).map fun k=>re.zero.getD (k%re.size) undef)=zs):aC P ρ σ Γ (.makeSlice T x y) ty (fun v' ag ah=>∃g,v'=.slice (some ⟨g,0,none⟩) n n∧σ=ag∧ah=au g zs e::Γ) fw:=
 Wr.H0 (Q:=fun h v h'=>v=.slice (some ⟨h.size,0,none⟩) n n∧h'=h.push (cellsOf zs e)) (fun _ _=>by subst vm;exact Wr.makeSlice hT hk hE hx hy rfl hz hb hs h0) fun f h v h' hh ⟨e1,e2⟩=>⟨σ,_,⟨h.size,e1,rfl,rfl⟩,e2▸hh.alloc _ _⟩
end
end Go.Proofs.YtgeoiflbjcehcaaGreatDoor
