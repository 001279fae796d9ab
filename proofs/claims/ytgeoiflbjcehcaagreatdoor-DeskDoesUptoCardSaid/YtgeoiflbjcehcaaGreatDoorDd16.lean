import Derived.Test.YtgeoiflbjcehcaaGreatDoorDd15
set_option maxHeartbeats 4000000
set_option maxRecDepth 2000
set_option linter.unusedVariables false
set_option linter.unusedSimpArgs false
namespace Go.Proofs.YtgeoiflbjcehcaaGreatDoor
open Go X
theorem tW (vs:List Va) (g:Nat) (v:Int) (e f:Ex) (body dn:List St) (s:RS):jA vs (g+1) (.mk 5 v e f body dn) s=match y7 vs e s with
 |.error e=>some (.error e)
 |.ok (false,s1)=>some (.ok s1)
 |.ok (true,s1)=>match fJ (jA vs g) body s1 with
  |none=>none
  |some (.error e)=>some (.error e)
  |some (.ok s2)=>match dQ s2 with
   |.error e=>some (.error e)
   |.ok s3=>jA vs g (.mk 5 v e f body dn) s3:=by rw[jA];rfl
theorem vM (vs:List Va) (g:Nat) (v:Int) (e f:Ex) (body dn:List St) (s:RS):jA vs (g+1) (.mk 6 v e f body dn) s=match y7 vs e s with
 |.error e=>some (.error e)
 |.ok (true,s1)=>match fJ (jA vs g) body s1 with
  |none=>none
  |some (.error e)=>some (.error e)
  |some (.ok s2)=>some (dQ s2)
 |.ok (false,s1)=>fJ (jA vs g) dn s1:=by rw[jA];rfl
theorem MD (vs:List Va) (x:Ex) (s:RS):(∀v s',y7 vs x s=.ok (v,s')→mL s s'∧s'={s with left:=s'.left})∧∀c s',y7 vs x s=.error (c,s')→mL s s':=by
 obtain⟨h1,h2⟩:=tV vs x s;rw[y7]
 cases e:qQ vs x s with
 |error q=>exact⟨fun v s' h=>(by cases h),fun c s' h=>by cases h;exact h2 _ _ e⟩
 |ok q=>
  obtain⟨n,s1⟩:=q;obtain⟨a1,a2,a3⟩:=h1 _ _ e;obtain⟨b1,b2⟩:=iU (s:=s1);simp only
  cases e2:dQ s1 with
  |error q=>obtain⟨c0,s0⟩:=q;refine⟨fun v s' h=>(by cases h),fun c s' h=>?_⟩;cases h;obtain⟨rfl,-,-⟩:=b2 _ _ e2;exact a1
  |ok s2=>
   obtain⟨c1,c2,c3⟩:=b1 _ e2;refine⟨fun v s' h=>?_,fun c s' h=>(by cases h)⟩;cases h;exact⟨a1.trans c1,by rw[a3] at c3;exact c3⟩
theorem kh {F:St→RS→Option RR} (hF:∀x s r,F x s=some r→mL s (wy r)):∀(l:List St) (s:RS) (r:RR),fJ F l s=some r→mL s (wy r)
 |[],s,r,h=>by cases h;exact mL.refl s
 |x::l,s,r,h=>by
  rw[fJ] at h
  cases e:F x s with
  |none=>rw[e] at h;cases h
  |some q=>
   rw[e] at h;have h1:=hF _ _ _ e
   cases q with
   |error q=>cases h;exact h1
   |ok s1=>exact mL.trans h1 (kh hF l s1 r h)
theorem ME {s s1:RS} (h:mL s s1):mL s (wy (dQ s1)):=by
 obtain⟨h1,h2⟩:=iU (s:=s1)
 cases e:dQ s1 with
 |error q=>obtain⟨c,s2⟩:=q;obtain⟨rfl,-,-⟩:=h2 _ _ e;exact h
 |ok s2=>exact h.trans (h1 _ e).1
theorem nT (vs:List Va):∀(g:Nat) (x:St) (s:RS) (r:RR),jA vs g x s=some r→mL s (wy r):=by
 intro g
 induction g with
 |zero=>intro x s r h;cases h
 |succ g ih=>
  intro x s r h;obtain⟨op,v,e,f,body,dn⟩:=x;obtain⟨x1,x2⟩:=tV vs e s;by_cases q1:op=1
  ·subst q1;rw[jA,aq rfl] at h;cases h;rw[BQ]
   cases e1:qQ vs e s with
   |error q=>exact x2 _ _ e1
   |ok q=>
    have a1:=(x1 _ _ e1).1;simp only;obtain⟨b1,b2⟩:=iU (s:=q.2)
    cases e2:dQ q.2 with
    |error q=>obtain⟨c0,s0⟩:=q;obtain⟨rfl,-,-⟩:=b2 _ _ e2;exact a1
    |ok s2=>have:=a1.trans (b1 _ e2).1;exact⟨by simp only[wy,List.length_set];exact this.cl,this.left,this.out⟩
  by_cases q2:op=2
  ·subst q2;rw[jA,ag au,aq rfl] at h;cases h;rw[u3]
   cases e1:qQ vs e s with
   |error q=>exact x2 _ _ e1
   |ok q=>
    have a1:=(x1 _ _ e1).1;simp only;obtain⟨y1,y2⟩:=tV vs f q.2
    cases e2:qQ vs f q.2 with
    |error q=>exact a1.trans (y2 _ _ e2)
    |ok q'=>
     have a2:=a1.trans (y1 _ _ e2).1;simp only;obtain⟨b1,b2⟩:=iU (s:=q'.2)
     cases e3:dQ q'.2 with
     |error q=>obtain⟨c0,s0⟩:=q;obtain⟨rfl,-,-⟩:=b2 _ _ e3;exact a2
     |ok s2=>
      have:=a2.trans (b1 _ e3).1;simp only;split
      ·exact this
      ·exact⟨by simp only[wy,List.length_set];exact this.cl,this.left,this.out⟩
  by_cases q3:op=3
  ·subst q3;rw[jA,ag au,ag au,aq rfl] at h;cases h;rw[oK]
   cases e1:qQ vs e s with
   |error q=>exact x2 _ _ e1
   |ok q=>
    have a1:=(x1 _ _ e1).1;simp only;obtain⟨b1,b2⟩:=iU (s:=q.2)
    cases e2:dQ q.2 with
    |error q=>obtain⟨c0,s0⟩:=q;obtain⟨rfl,-,-⟩:=b2 _ _ e2;exact a1
    |ok s2=>
     obtain⟨c1,c2,c3⟩:=b1 _ e2;have:=a1.trans c1;(have ho:s2.out=q.2.out:=by rw[c3]);have:=a1.out;refine⟨this |> fun _=>(a1.trans c1).cl,(a1.trans c1).left,?_⟩;simp only[wy,bq,dZ];rw[ho];omega
  by_cases q4:op=4
  ·subst q4;rw[jA,ag au,ag au,ag au,aq rfl] at h;cases h;rw[tN];obtain⟨b1,b2⟩:=iU (s:=s)
   cases e2:dQ s with
   |error q=>obtain⟨c0,s0⟩:=q;obtain⟨rfl,-,-⟩:=b2 _ _ e2;exact mL.refl _
   |ok s2=>
    have:=(b1 _ e2).1;simp only;split
    ·exact this
    ·exact⟨by simp only[wy,List.length_set];exact this.cl,this.left,this.out⟩
  have hl:=kh ih;obtain⟨i1,i2⟩:=MD vs e s;by_cases q5:op=5
  ·subst q5;rw[tW] at h
   cases e1:y7 vs e s with
   |error q=>rw[e1] at h;cases h;exact i2 _ _ e1
   |ok q=>
    obtain⟨bb,s1⟩:=q;have a1:=(i1 _ _ e1).1;rw[e1] at h
    cases bb with
    |false=>cases h;exact a1
    |true=>
     simp only at h
     cases e2:fJ (jA vs g) body s1 with
     |none=>rw[e2] at h;cases h
     |some q=>
      rw[e2] at h;have a2:=a1.trans (hl _ _ _ e2)
      cases q with
      |error q=>cases h;exact a2
      |ok s2=>
       simp only at h;have a3:=ME a2
       cases e3:dQ s2 with
       |error q=>simp only[wy] at a3;rw[e3] at h a3;cases h;exact a3
       |ok s3=>simp only[wy] at a3;rw[e3] at h a3;exact a3.trans (ih _ _ _ h)
  by_cases q6:op=6
  ·subst q6;rw[vM] at h
   cases e1:y7 vs e s with
   |error q=>rw[e1] at h;cases h;exact i2 _ _ e1
   |ok q=>
    obtain⟨bb,s1⟩:=q;have a1:=(i1 _ _ e1).1;rw[e1] at h
    cases bb with
    |false=>exact a1.trans (hl _ _ _ h)
    |true=>
     simp only at h
     cases e2:fJ (jA vs g) body s1 with
     |none=>rw[e2] at h;cases h
     |some q=>
      rw[e2] at h;have a2:=a1.trans (hl _ _ _ e2)
      cases q with
      |error q=>cases h;exact a2
      |ok s2=>cases h;exact ME a2
  rw[jA,ag q1,ag q2,ag q3,ag q4,ag q5,ag q6] at h;split at h
  ·cases h;exact ME (mL.refl s)
  ·cases h;exact mL.refl s
def RC (g:Nat) (σ:PH) (pr:Pr) (x:St):Prop:=∀(cs:List Value) (b:Nat) (pv:Option Addr) (cv:Nat) (bs:Value) (gc nc:Nat) (s:RS) (vi:Value) (po:Option Addr) (co:Nat) (r:RR),
 gT σ [.slice pv pr.vars.length cv,bs] pr→dF σ cs x→D1 pr.vars.length x→wx pr.vars nc s→a7 σ vi s.inp→jA pr.vars g x s=some r→
 ah Tryz.prog 154 #[ptr b,.agg cs.toArray] σ [aw b [.slice pv pr.vars.length cv,bs,.slice (some ⟨gc,0,none⟩) nc nc,vi,.slice po (s.out).length co,i64 s.left] 172,aw gc (ints (s.cells)) 2,aS 2 1 (.slice po (s.out).length co) (s.out).length (ints (s.out))] (pz σ (fun s vi po co=>[aw b [.slice pv pr.vars.length cv,bs,.slice (some ⟨gc,0,none⟩) nc nc,vi,.slice po (s.out).length co,i64 s.left] 172,aw gc (ints (s.cells)) 2,aS 2 1 (.slice po (s.out).length co) (s.out).length (ints (s.out))]) r)
theorem BT (g:Nat) (σ:PH) (pr:Pr) (l:List St) (ih:∀x∈l,RC g σ pr x) (sl:Value) (b:Nat) (pv:Option Addr) (cv:Nat) (bs:Value) (gc nc:Nat) (s:RS) (vi:Value) (po:Option Addr) (co:Nat) (r:RR)
 (hp:gT σ [.slice pv pr.vars.length cv,bs] pr) (hl:bV 12 dF σ sl l) (F8:tM pr.vars.length l) (hF:wx pr.vars nc s) (vN:a7 σ vi s.inp) (hr:fJ (jA pr.vars g) l s=some r):
 ah Tryz.prog 111 #[ptr b,sl] σ [aw b [.slice pv pr.vars.length cv,bs,.slice (some ⟨gc,0,none⟩) nc nc,vi,.slice po (s.out).length co,i64 s.left] 172,aw gc (ints (s.cells)) 2,aS 2 1 (.slice po (s.out).length co) (s.out).length (ints (s.out))] (pz σ (fun s vi po co=>[aw b [.slice pv pr.vars.length cv,bs,.slice (some ⟨gc,0,none⟩) nc nc,vi,.slice po (s.out).length co,i64 s.left] 172,aw gc (ints (s.cells)) 2,aS 2 1 (.slice po (s.out).length co) (s.out).length (ints (s.out))]) r):=by
 obtain⟨pl,cl,rfl,hle,Hd⟩:=hl.shape;simp only[maxLen] at Hd;(have hlen:l.length≤9223372036854775807:=by omega);(refine cw Tryz.func111 ?_;refine bJ ?_;refine XA.gen [(0,_),(6,_),(7,_),(8,_)] iX fun δ=>?_);dsimp only[List.foldl];refine XA.loop [(5,5),(8,15)] (fun i:Nat=>[(8,i64 i)]) (fun i aj al=>σ=aj∧i≤l.length∧∃(s':RS) (JO:Value) (JP:Option Addr) (JQ:Nat),fJ (jA pr.vars g) (l.drop i) s'=some r∧wx pr.vars nc s'∧a7 σ JO s'.inp∧al=[aw b [.slice pv pr.vars.length cv,bs,.slice (some ⟨gc,0,none⟩) nc nc,JO,.slice JP (s'.out).length JQ,i64 s'.left] 172,aw gc (ints (s'.cells)) 2,aS 2 1 (.slice JP (s'.out).length JQ) (s'.out).length (ints (s'.out))]) (fun i=>l.length-i) 0 eb (Δ0:=_) ?_ (⟨rfl,cg _,s,vi,po,co,hr,hF,vN,rfl⟩) ?_
 ·exact zE
 rintro i δ _ _ ⟨rfl,hi,s',JO,JP,JQ,ny,ZE,Ga,rfl⟩;dsimp only[dq,List.foldl];refine a8 ?_;refine XA.bE rfl (fun aV=>?_) (fun aV=>?_)
 ·(have aV:i<l.length:=by omega);obtain⟨x',lF⟩:∃x',l[i]? =some x':=⟨_,b9 aV⟩;obtain⟨gg,o,row,rfl,mJ,mZ,bG⟩:=hl.at lF;have tO:=fg lF;have jd:=mJ.dT;rw[eC lF,fJ] at ny
  cases e1:jA pr.vars g x' s' with
  |none=>rw[e1] at ny;cases ny
  |some q=>
   have hc:=ih x' tO row b pv cv bs gc nc s' JO JP JQ q hp mJ (F8.mem x' tO) ZE Ga e1;rw[e1] at ny
   cases q with
   |error q=>
    obtain⟨c0,s0⟩:=q;cases ny;refine bJ ?_;refine di (fun g5=>?_) (ae rfl);refine a8 ?_;refine az.die rfl (pz.err hc) rfl ?_;rintro _ _ _ ⟨rfl,rfl,u6,u7,u9,lA,rfl⟩;refine DA.cl ?_;refine fL ?_;exact ao.panic zE ⟨rfl,rfl,u6,u7,u9,lA,rfl⟩
   |ok s1=>
    have FI:wx pr.vars nc s1:=ZE.less (nT _ _ _ _ _ e1);refine bJ ?_;refine di (fun g5=>?_) (ae rfl);refine a8 ?_;refine zw rfl (ax.cE (pz.ok hc) rfl) ?_;rintro _ _ _ ⟨_,⟨rfl,rfl,u6,u7,u9,lA,rfl⟩,rfl⟩;refine az.cl ?_;refine bJ ?_;refine⟨bQ,i+1,_,zM,?_,⟨rfl,aV,s1,u6,u7,u9,ny,FI,lA,rfl⟩,ad⟩
    ·exact zE
 (have pB:i=l.length:=by omega);subst pB;rw[List.drop_length] at ny;cases ny;refine bY ?_;exact iN rfl ⟨rfl,rfl,JO,JP,JQ,Ga,rfl⟩
theorem D2 {vs:List Va} {cells:List Int} {x:Ex} {f:Nat} {b:Bool} {k:Nat} (h:PX vs cells x f=.ok (b,k)):k≤f:=by
 rw[PX] at h
 cases e:dx vs cells x f with
 |error q=>rw[e] at h;cases h
 |ok q=>
  obtain⟨n,k0⟩:=q;have:=(pY vs cells x f).ok _ e;rw[e] at h;simp only at h this
  cases k0 with
  |zero=>cases h
  |succ k0=>rw[MC] at h;cases h;omega
theorem TL (σ:PH) (pr:Pr) (h1:∀x∈pr.vars,1≤x.size) (hz:∀x∈pr.vars,0≤x.size∧x.size≤1000) (jx:pr.vars.length≤1000):∀(g:Nat) (x:St),RC g σ pr x:=by
 intro g
 induction g using Nat.strongRecOn with
 |_ g ih=>
 intro x;obtain⟨op,v,ex,fx,body,dn⟩:=x;intro cs b pv cv bs gc nc s vi po co r hp hx hV hF vN hr;obtain⟨pe,de,pf,df,pb,cb,pl,cl,rfl,-,-,jB,y0,sY,wc⟩:=hx.Ad;simp only[St.op,St.v,St.e,St.f,St.body,St.dn] at jB y0 sY wc⊢;clear hx;rw[D1] at hV;obtain⟨uF,hv,he,hf,-,-,o6,mG⟩:=hV
 cases g with
 |zero=>cases hr
 |succ g=>
 obtain⟨cells,inp,out,f⟩:=s;obtain⟨fG,gO,vO,PY⟩:=hF;simp only at fG gO vO PY vN⊢;by_cases q1:op=1
 ·subst q1;rw[jA,aq rfl] at hr;have tq:=hv rfl;obtain⟨vx,vL,ZD,BB,tz,DG⟩:=nk h1 tq;have hE:=yh σ pr h1 hz jx ex _ b pv cv bs gc nc cells vi (.slice po out.length co) f hp jB (he rfl).1 fG gO ad;have rC:=pY pr.vars cells ex f
  cases e1:dx pr.vars cells ex f with
  |error q=>
   obtain⟨c0,k⟩:=q;rw[show BQ pr.vars v ex ⟨cells,inp,out,f⟩=.error (c0,⟨cells,inp,out,k⟩) by simp[BQ,qQ,e1]] at hr;cases hr;(refine cw Tryz.func154 ?_;refine aU ?_;refine cP fun g3=>?_;refine ra ?_;refine az.die rfl (hE.2 c0 k e1) rfl ?_);rintro _ _ _ ⟨rfl,rfl,rfl⟩;refine DA.cl ?_;refine fL ?_;exact ao.panic zE ⟨rfl,rfl,vi,po,co,vN,rfl⟩
  |ok q=>
   obtain⟨n,k⟩:=q;have hk:=rC.ok _ e1;simp only at hk
   cases k with
   |zero=>
    rw[show BQ pr.vars v ex ⟨cells,inp,out,f⟩=.error (13,⟨cells,inp,out,0⟩) by simp[BQ,qQ,e1,dQ]] at hr;cases hr;(refine cw Tryz.func154 ?_;refine aU ?_;refine cP fun g3=>?_;refine ra ?_;refine yC (hE.1 n 0 e1) ?_;refine a8 ?_;refine az.die rfl (nS σ b _ _ _ _ _) rfl ?_);rintro _ _ _ ⟨rfl,rfl,rfl⟩;refine DA.cl ?_;refine fL ?_;exact ao.panic zE ⟨rfl,rfl,vi,po,co,vN,rfl⟩
   |succ k=>
    rw[show BQ pr.vars v ex ⟨cells,inp,out,f⟩=.ok ⟨cells.set (cellOf pr.vars v).toNat n,inp,out,k⟩ by simp[BQ,qQ,e1,dQ]] at hr;cases hr;(have gf:(cellOf pr.vars v+0).toNat+Sy.size≤(ints cells).length:=by rw[show (ints cells).length=nc by simp[ints,fG]];show _+1≤_;omega);(have iP:aQ (ints cells) (cellOf pr.vars v+0).toNat [i64 n]=ints (cells.set (cellOf pr.vars v).toNat n):=by rw[Int.add_zero];exact u5 _ _ ad);(refine cw Tryz.func154 ?_;refine aU ?_;refine cP fun g3=>?_;refine ra ?_;refine yC (hE.1 n (k+1) e1) ?_;refine a8 ?_);refine yC (jy σ b _ _ _ _ _ k ad) ?_;refine aU ?_;refine XA.draw aC _ _ [10] [(0,.pu),(1,.pu),(2,.pu),(3,.rd),(4,.pu),(5,.pu),(6,.rd),(8,.pu),(7,.wr),(9,.pu),(10,.wr)] aC (PH.sub.refl _) (ar.bB (R:=aw b _ _) zL (ar.bB (R:=aw g3 _ _) zL (ar.nil _))) ?_;refine bJ ?_;refine aP.fw rfl rfl Gd.free (ax.cE (MA σ b pr _ cv bs _ _ _ _ v 0 hp hz jx tq au ad) rfl) ?_;rintro _ _ _ ⟨_,⟨rfl,rfl,rfl⟩,rfl⟩;refine stays (aP.cl ?_);refine bS ?_;refine kS rfl (ax.st (ae rfl) rfl) ?_;refine aU ?_;exact iN rfl ⟨rfl,rfl,vi,po,co,vN,rfl⟩
 by_cases q2:op=2
 ·subst q2;rw[jA,ag au,aq rfl] at hr;have tq:=hv rfl;obtain⟨vx,vL,ZD,BB,tz,DG⟩:=nk h1 tq;have hE:=yh σ pr h1 hz jx ex _ b pv cv bs gc nc cells vi (.slice po out.length co) f hp jB (he rfl).1 fG gO ad;have rC:=pY pr.vars cells ex f
  cases e1:dx pr.vars cells ex f with
  |error q=>
   obtain⟨c0,k⟩:=q;rw[show u3 pr.vars v ex fx ⟨cells,inp,out,f⟩=.error (c0,⟨cells,inp,out,k⟩) by simp[u3,qQ,e1]] at hr;cases hr;(refine cw Tryz.func154 ?_;refine aU ?_;refine cP fun g3=>?_;refine rb ?_);refine XA.draw aC _ _ [7] [(0,.pu),(1,.pu),(2,.rd),(4,.pu),(5,.pu),(6,.rd),(3,.wr),(7,.wr),(8,.pu),(9,.pu)] aC (PH.sub.refl _) (ar.bB (R:=aw g3 _ _) zL (ar.nil _)) ?_;refine a8 ?_;refine aP.die rfl rfl Gd.free (hE.2 c0 k e1) rfl ?_;rintro _ _ _ ⟨rfl,rfl,rfl⟩;refine DA.cl ?_;refine fL ?_;exact ao.panic zE ⟨rfl,rfl,vi,po,co,vN,rfl⟩
  |ok q=>
   obtain⟨a,k⟩:=q;have hk:=rC.ok _ e1;simp only at hk;have xx:=yh σ pr h1 hz jx fx _ b pv cv bs gc nc cells vi (.slice po out.length co) k hp y0 (hf rfl).1 fG gO ad;have PZ:=pY pr.vars cells fx k
   cases e2:dx pr.vars cells fx k with
   |error q=>
    obtain⟨c0,k2⟩:=q;rw[show u3 pr.vars v ex fx ⟨cells,inp,out,f⟩=.error (c0,⟨cells,inp,out,k2⟩) by simp[u3,qQ,e1,e2]] at hr;cases hr;(refine cw Tryz.func154 ?_;refine aU ?_;refine cP fun g3=>?_;refine rb ?_);refine XA.draw aC _ _ [7] [(0,.pu),(1,.pu),(2,.rd),(4,.pu),(5,.pu),(6,.rd),(3,.wr),(7,.wr),(8,.pu),(9,.pu)] aC (PH.sub.refl _) (ar.bB (R:=aw g3 _ _) zL (ar.nil _)) ?_;refine a8 ?_;refine aP.fw rfl rfl Gd.free (ax.cE (hE.1 a k e1) rfl) ?_;rintro _ _ _ ⟨_,⟨rfl,rfl,rfl⟩,rfl⟩;refine stays (aP.cl ?_);refine aP.die rfl rfl Gd.free (xx.2 c0 k2 e2) rfl ?_;rintro _ _ _ ⟨rfl,rfl,rfl⟩;refine DA.cl ?_;refine fL ?_;exact ao.panic zE ⟨rfl,rfl,vi,po,co,vN,rfl⟩
   |ok q=>
    obtain⟨n,k2⟩:=q;have kP:=PZ.ok _ e2;simp only at kP
    cases k2 with
    |zero=>
     rw[show u3 pr.vars v ex fx ⟨cells,inp,out,f⟩=.error (13,⟨cells,inp,out,0⟩) by simp[u3,qQ,e1,e2,dQ]] at hr;cases hr;(refine cw Tryz.func154 ?_;refine aU ?_;refine cP fun g3=>?_;refine rb ?_);refine XA.draw aC _ _ [7] [(0,.pu),(1,.pu),(2,.rd),(4,.pu),(5,.pu),(6,.rd),(3,.wr),(7,.wr),(8,.pu),(9,.pu)] aC (PH.sub.refl _) (ar.bB (R:=aw g3 _ _) zL (ar.nil _)) ?_;refine a8 ?_;refine aP.fw rfl rfl Gd.free (ax.cE (hE.1 a k e1) rfl) ?_;rintro _ _ _ ⟨_,⟨rfl,rfl,rfl⟩,rfl⟩;refine stays (aP.cl ?_);refine aP.b7 rfl rfl Gd.free aC (ax.cE (xx.1 n 0 e2) rfl) ?_;rintro _ _ _ ⟨_,⟨rfl,rfl,rfl⟩,rfl⟩;refine aP.cl ?_;refine bg ?_;refine az.die rfl (nS σ b _ _ _ _ _) rfl ?_;rintro _ _ _ ⟨rfl,rfl,rfl⟩;refine DA.cl ?_;refine fL ?_;exact ao.panic zE ⟨rfl,rfl,vi,po,co,vN,rfl⟩
    |succ k2=>
     by_cases KM:a<0∨ir pr.vars v≤a
     ·rw[show u3 pr.vars v ex fx ⟨cells,inp,out,f⟩=.error (11,⟨cells,inp,out,k2⟩) by simp[u3,qQ,e1,e2,dQ,KM]] at hr;cases hr;(refine cw Tryz.func154 ?_;refine aU ?_;refine cP fun g3=>?_;refine rb ?_);refine XA.draw aC _ _ [7] [(0,.pu),(1,.pu),(2,.rd),(4,.pu),(5,.pu),(6,.rd),(3,.wr),(7,.wr),(8,.pu),(9,.pu)] aC (PH.sub.refl _) (ar.bB (R:=aw g3 _ _) zL (ar.nil _)) ?_;refine a8 ?_;refine aP.fw rfl rfl Gd.free (ax.cE (hE.1 a k e1) rfl) ?_;rintro _ _ _ ⟨_,⟨rfl,rfl,rfl⟩,rfl⟩;refine stays (aP.cl ?_);refine aP.b7 rfl rfl Gd.free aC (ax.cE (xx.1 n (k2+1) e2) rfl) ?_;rintro _ _ _ ⟨_,⟨rfl,rfl,rfl⟩,rfl⟩;refine aP.cl ?_;refine bg ?_;refine yC (jy σ b _ _ _ _ _ k2 ad) ?_;refine aU ?_;refine XA.draw aC _ _ [11] [(0,.pu),(1,.pu),(2,.pu),(3,.rd),(4,.pu),(5,.pu),(6,.rd),(7,.pu),(9,.pu),(8,.wr),(10,.pu),(11,.wr)] aC (PH.sub.refl _) (ar.bB (R:=aw b _ _) zL (ar.bB (R:=aw g3 _ _) zL (ar.nil _))) ?_;refine bt ?_;refine aP.die rfl rfl Gd.free (X0 σ b pr _ cv bs _ _ _ _ v a hp hz jx tq KM) rfl ?_;rintro _ _ _ ⟨rfl,rfl,rfl⟩;refine DA.cl ?_;refine fL ?_;exact ao.panic zE ⟨rfl,rfl,vi,po,co,vN,rfl⟩
     ·(have tl:0≤a:=by omega);(have uK:a<ir pr.vars v:=by omega);rw[show u3 pr.vars v ex fx ⟨cells,inp,out,f⟩=.ok ⟨cells.set (cellOf pr.vars v+a).toNat n,inp,out,k2⟩ by simp[u3,qQ,e1,e2,dQ,KM]] at hr;cases hr;(have gf:(cellOf pr.vars v+a).toNat+Sy.size≤(ints cells).length:=by rw[show (ints cells).length=nc by simp[ints,fG]];show _+1≤_;omega);have iP:aQ (ints cells) (cellOf pr.vars v+a).toNat [i64 n]=ints (cells.set (cellOf pr.vars v+a).toNat n):=u5 _ _ ad;(refine cw Tryz.func154 ?_;refine aU ?_;refine cP fun g3=>?_;refine rb ?_);refine XA.draw aC _ _ [7] [(0,.pu),(1,.pu),(2,.rd),(4,.pu),(5,.pu),(6,.rd),(3,.wr),(7,.wr),(8,.pu),(9,.pu)] aC (PH.sub.refl _) (ar.bB (R:=aw g3 _ _) zL (ar.nil _)) ?_;refine a8 ?_;refine aP.fw rfl rfl Gd.free (ax.cE (hE.1 a k e1) rfl) ?_;rintro _ _ _ ⟨_,⟨rfl,rfl,rfl⟩,rfl⟩;refine stays (aP.cl ?_);refine aP.b7 rfl rfl Gd.free aC (ax.cE (xx.1 n (k2+1) e2) rfl) ?_;rintro _ _ _ ⟨_,⟨rfl,rfl,rfl⟩,rfl⟩;refine aP.cl ?_;refine bg ?_;refine yC (jy σ b _ _ _ _ _ k2 ad) ?_;refine aU ?_;refine XA.draw aC _ _ [11] [(0,.pu),(1,.pu),(2,.pu),(3,.rd),(4,.pu),(5,.pu),(6,.rd),(7,.pu),(9,.pu),(8,.wr),(10,.pu),(11,.wr)] aC (PH.sub.refl _) (ar.bB (R:=aw b _ _) zL (ar.bB (R:=aw g3 _ _) zL (ar.nil _))) ?_;refine bt ?_;refine aP.fw rfl rfl Gd.free (ax.cE (MA σ b pr _ cv bs _ _ _ _ v a hp hz jx tq tl uK) rfl) ?_;rintro _ _ _ ⟨_,⟨rfl,rfl,rfl⟩,rfl⟩;refine stays (aP.cl ?_);refine bS ?_;refine kS rfl (ax.st (ae rfl) rfl) ?_;refine aU ?_;exact iN rfl ⟨rfl,rfl,vi,po,co,vN,rfl⟩
 by_cases q3:op=3
 ·subst q3;rw[jA,ag au,ag au,aq rfl] at hr;have hE:=yh σ pr h1 hz jx ex _ b pv cv bs gc nc cells vi (.slice po out.length co) f hp jB (he rfl).1 fG gO ad;have rC:=pY pr.vars cells ex f
  cases e1:dx pr.vars cells ex f with
  |error q=>
   obtain⟨c0,k⟩:=q;rw[show oK pr.vars ex ⟨cells,inp,out,f⟩=.error (c0,⟨cells,inp,out,k⟩) by simp[oK,qQ,e1]] at hr;cases hr;(refine cw Tryz.func154 ?_;refine aU ?_;refine cP fun g3=>?_;refine Lb ?_;refine az.die rfl (hE.2 c0 k e1) rfl ?_);rintro _ _ _ ⟨rfl,rfl,rfl⟩;refine DA.cl ?_;refine fL ?_;exact ao.panic zE ⟨rfl,rfl,vi,po,co,vN,rfl⟩
  |ok q=>
   obtain⟨n,k⟩:=q;have hk:=rC.ok _ e1;simp only at hk
   cases k with
   |zero=>
    rw[show oK pr.vars ex ⟨cells,inp,out,f⟩=.error (13,⟨cells,inp,out,0⟩) by simp[oK,qQ,e1,dQ]] at hr;cases hr;(refine cw Tryz.func154 ?_;refine aU ?_;refine cP fun g3=>?_;refine Lb ?_;refine yC (hE.1 n 0 e1) ?_;refine a8 ?_;refine az.die rfl (nS σ b _ _ _ _ _) rfl ?_);rintro _ _ _ ⟨rfl,rfl,rfl⟩;refine DA.cl ?_;refine fL ?_;exact ao.panic zE ⟨rfl,rfl,vi,po,co,vN,rfl⟩
   |succ k=>
    rw[show oK pr.vars ex ⟨cells,inp,out,f⟩=.ok ⟨cells,inp,out++[n],k⟩ by simp[oK,qQ,e1,dQ]] at hr;cases hr;(have ho2:ints (out++[n])=ints out++[i64 n]:=by simp[ints]);(have Gb:(out++[n]).length=out.length+1:=by simp);(refine cw Tryz.func154 ?_;refine aU ?_;refine cP fun g3=>?_;refine Lb ?_;refine yC (hE.1 n (k+1) e1) ?_;refine a8 ?_);refine yC (jy σ b _ _ _ _ _ k ad) ?_;refine bt ?_;refine zw rfl (ax.jY (ae rfl) rfl (ae rfl)) ?_;rintro _ _ _ ⟨g65,rfl,rfl,rfl⟩;refine zw rfl (ax.kM (ae rfl) rfl (ae rfl) rfl rfl rfl) ?_;rintro _ _ _ ⟨p66,c66,rfl,rfl,rfl⟩;refine dc ?_;refine ao.normal (al:=[aw b [.slice pv pr.vars.length cv,bs,.slice (some ⟨gc,0,none⟩) nc nc,vi,.slice p66 (out++[n]).length c66,i64 k] 172,aw gc (ints (cells)) 2,aS 2 1 (.slice p66 (out++[n]).length c66) (out++[n]).length (ints (out++[n]))]) (aB.none rfl) ?_ ⟨rfl,rfl,vi,p66,c66,vN,rfl⟩;rw[ho2,Gb];exact zE
 by_cases q4:op=4
 ·subst q4;rw[jA,ag au,ag au,ag au,aq rfl] at hr;have tq:=hv rfl;obtain⟨vx,vL,ZD,BB,tz,DG⟩:=nk h1 tq
  cases f with
  |zero=>
   rw[show tN pr.vars v ⟨cells,inp,out,0⟩=.error (13,⟨cells,inp,out,0⟩) by simp[tN,dQ]] at hr;cases hr;(refine cw Tryz.func154 ?_;refine aU ?_;refine cP fun g3=>?_;refine Jf ?_;refine az.die rfl (nS σ b _ _ _ _ _) rfl ?_);rintro _ _ _ ⟨rfl,rfl,rfl⟩;refine DA.cl ?_;refine fL ?_;exact ao.panic zE ⟨rfl,rfl,vi,po,co,vN,rfl⟩
  |succ k=>
   obtain⟨pi,ci,rfl,pB,CB⟩:=vN.shape;simp only[maxLen] at CB
   cases inp with
   |nil=>
    rw[show tN pr.vars v ⟨cells,[],out,k+1⟩=.error (12,⟨cells,[],out,k⟩) by simp[tN,dQ]] at hr;cases hr;(refine cw Tryz.func154 ?_;refine aU ?_;refine cP fun g3=>?_;refine Jf ?_);refine yC (jy σ b _ _ _ _ _ k ad) ?_;refine aR ?_;refine az.die rfl (BS σ _ 12 (aM rfl)) rfl ?_;rintro _ _ _ ⟨rfl,rfl,rfl⟩;refine DA.cl ?_;refine fL ?_;exact ao.panic zE ⟨rfl,rfl,_,po,co,vN,rfl⟩
   |cons n rest=>
    rw[show tN pr.vars v ⟨cells,n::rest,out,k+1⟩=.ok ⟨cells.set (cellOf pr.vars v).toNat n,rest,out,k⟩ by simp[tN,dQ]] at hr;cases hr;have lA:=vN.tail;obtain⟨gi,oi,rfl,ZF⟩:=vN.at (show (n::rest)[0]? =some n from rfl);(have ahf:cH σ gi oi [i64 n]:=by simpa using ZF);simp only[bF] at pB CB vN lA⊢;(have gf:(cellOf pr.vars v+0).toNat+Sy.size≤(ints cells).length:=by rw[show (ints cells).length=nc by simp[ints,fG]];show _+1≤_;omega);(have iP:aQ (ints cells) (cellOf pr.vars v+0).toNat [i64 n]=ints (cells.set (cellOf pr.vars v).toNat n):=by rw[Int.add_zero];exact u5 _ _ ad);(refine cw Tryz.func154 ?_;refine aU ?_;refine cP fun g3=>?_;refine Jf ?_);refine yC (jy σ b _ _ _ _ _ k ad) ?_;refine aR ?_;refine zw rfl (ax.cE (F9 σ _ 12 (aE ad)) rfl) ?_;rintro _ _ _ ⟨_,⟨rfl,rfl,rfl⟩,rfl⟩;refine az.cl ?_;refine cx ?_;refine XA.draw aC _ _ [15] [(0,.pu),(1,.pu),(2,.pu),(3,.rd),(4,.pu),(5,.pu),(6,.rd),(8,.pu),(9,.pu),(10,.pu),(11,.rd),(12,.pu),(13,.rd),(7,.wr),(14,.pu),(15,.wr)] aC (PH.sub.refl _) (ar.bB (R:=aw b _ _) zL (ar.bB (R:=aw g3 _ _) zL (ar.nil _))) ?_;refine dB ?_;refine aP.fw rfl rfl Gd.free (ax.cE (MA σ b pr _ cv bs _ _ _ _ v 0 hp hz jx tq au ad) rfl) ?_;rintro _ _ _ ⟨_,⟨rfl,rfl,rfl⟩,rfl⟩;refine stays (aP.cl ?_);refine bS ?_;refine kS rfl (ax.st (ae rfl) rfl) ?_;refine bJ ?_;refine zO rfl (Rd.uC (ae rfl) rfl (ae rfl) rfl rfl rfl ad) ?_;refine dc ?_;exact iN rfl ⟨rfl,rfl,_,po,co,lA,rfl⟩
 by_cases q5:op=5
 ·subst q5;(refine cw Tryz.func154 ?_;refine aU ?_;refine cP fun g3=>?_;refine aaD ?_;refine XA.gen [(0,_),(3,_)] iX fun δ=>?_);dsimp only[List.foldl];refine XA.loop [(0,0),(105,114)] (fun _:Nat=>[(0,ptr b)]) (fun g' aj al=>σ=aj∧g'≤g+1∧∃(s':RS) (JO:Value) (JP:Option Addr) (JQ:Nat),jA pr.vars g' (.mk 5 v ex fx body dn) s'=some r∧wx pr.vars nc s'∧a7 σ JO s'.inp∧al=[aw b [.slice pv pr.vars.length cv,bs,.slice (some ⟨gc,0,none⟩) nc nc,JO,.slice JP (s'.out).length JQ,i64 s'.left] 172,aw gc (ints (s'.cells)) 2,aS 2 1 (.slice JP (s'.out).length JQ) (s'.out).length (ints (s'.out)),aw g3 [i64 5,i64 v,i64 ex.op,i64 ex.v,i64 ex.n,.slice pe ex.l.length de,i64 fx.op,i64 fx.v,i64 fx.n,.slice pf fx.l.length df,.slice pb body.length cb,.slice pl dn.length cl] 140]) (fun g'=>g') (g+1) eb (Δ0:=_) ?_ (⟨rfl,bX _,⟨cells,inp,out,f⟩,vi,po,co,hr,⟨fG,gO,vO,PY⟩,vN,rfl⟩) ?_
  ·exact zE
  rintro g' δ _ _ ⟨rfl,VU,s',JO,JP,JQ,ny,ZE,Ga,rfl⟩;dsimp only[dq,List.foldl];obtain⟨yi,TM,MF,f'⟩:=s';obtain⟨TN,-,TO,X2⟩:=ZE;simp only at TN TO X2 Ga⊢
  cases g' with
  |zero=>cases ny
  |succ g'=>
  rw[tW,Ii] at ny;have hI:=X1 σ pr h1 hz jx ex _ b pv cv bs gc nc yi JO (.slice JP MF.length JQ) f' hp jB (he rfl).1 TN gO ad
  cases e1:PX pr.vars yi ex f' with
  |error q=>
   obtain⟨c0,k⟩:=q;rw[e1] at ny;cases ny;refine a8 ?_;refine az.die rfl (hI.2 c0 k e1) rfl ?_;rintro _ _ _ ⟨rfl,rfl,rfl⟩;refine DA.cl ?_;refine fL ?_;exact ao.panic zE ⟨rfl,rfl,JO,JP,JQ,Ga,rfl⟩
  |ok q=>
   obtain⟨bb,k⟩:=q;have hk:=D2 e1;rw[e1] at ny;simp only at ny
   cases bb with
   |false=>
    cases ny;refine a8 ?_;refine yC (hI.1 false k e1) ?_;refine bJ ?_;exact iN rfl ⟨rfl,rfl,JO,JP,JQ,Ga,rfl⟩
   |true=>
    simp only at ny;have FI:wx pr.vars nc ⟨yi,TM,MF,k⟩:=⟨TN,gO,by show k<_;omega,by show MF.length+k<_;omega⟩
    cases e2:fJ (jA pr.vars g') body ⟨yi,TM,MF,k⟩ with
    |none=>rw[e2] at ny;cases ny
    |some q=>
     have hL:=BT g' σ pr body (fun x _=>ih g' ad x) _ b pv cv bs gc nc ⟨yi,TM,MF,k⟩ JO JP JQ q hp sY o6 FI Ga e2;have hle:=kh (nT pr.vars g') _ _ _ e2;rw[e2] at ny;simp only at ny hL
     cases q with
     |error q=>
      obtain⟨c0,s0⟩:=q;cases ny;refine a8 ?_;refine yC (hI.1 true k e1) ?_;refine cp ?_;refine az.die rfl (pz.err hL) rfl ?_;rintro _ _ _ ⟨rfl,rfl,u6,u7,u9,lA,rfl⟩;refine DA.cl ?_;refine fL ?_;exact ao.panic zE ⟨rfl,rfl,u6,u7,u9,lA,rfl⟩
     |ok s2=>
      have ng:=FI.less hle;obtain⟨mq,yj,vd,f2⟩:=s2;have TP:f2<1000000:=ng.left;simp only at ny
      cases f2 with
      |zero=>
       rw[show dQ ⟨mq,yj,vd,0⟩=.error (13,⟨mq,yj,vd,0⟩) from rfl] at ny;cases ny;refine a8 ?_;refine yC (hI.1 true k e1) ?_;refine cp ?_;refine zw rfl (ax.cE (pz.ok hL) rfl) ?_;rintro _ _ _ ⟨_,⟨rfl,rfl,u6,u7,u9,lA,rfl⟩,rfl⟩;refine az.cl ?_;refine bY ?_;refine az.die rfl (nS σ b _ _ _ _ _) rfl ?_;rintro _ _ _ ⟨rfl,rfl,rfl⟩;refine DA.cl ?_;refine fL ?_;exact ao.panic zE ⟨rfl,rfl,u6,u7,u9,lA,rfl⟩
      |succ f2=>
       rw[show dQ ⟨mq,yj,vd,f2+1⟩=.ok ⟨mq,yj,vd,f2⟩ by simp[dQ]] at ny;simp only at ny;have LD:wx pr.vars nc ⟨mq,yj,vd,f2⟩:=⟨ng.cl,ng.sz,by show f2<_;omega,by have:vd.length+(f2+1)<2000000:=ng.out;show vd.length+f2<_;omega⟩;refine a8 ?_;refine yC (hI.1 true k e1) ?_;refine cp ?_;refine zw rfl (ax.cE (pz.ok hL) rfl) ?_;rintro _ _ _ ⟨_,⟨rfl,rfl,u6,u7,u9,lA,rfl⟩,rfl⟩;refine az.cl ?_;refine bY ?_;refine yC (jy σ b _ _ _ _ _ f2 ad) ?_;refine cx ?_;refine⟨bQ,g',_,zM,?_,⟨rfl,ad,⟨mq,yj,vd,f2⟩,u6,u7,u9,ny,LD,lA,rfl⟩,ad⟩
       ·exact zE
 by_cases q6:op=6
 ·subst q6;rw[vM,Ii] at hr;have hI:=X1 σ pr h1 hz jx ex _ b pv cv bs gc nc cells vi (.slice po out.length co) f hp jB (he rfl).1 fG gO ad
  cases e1:PX pr.vars cells ex f with
  |error q=>
   obtain⟨c0,k⟩:=q;rw[e1] at hr;cases hr;(refine cw Tryz.func154 ?_;refine aU ?_;refine cP fun g3=>?_;refine zj ?_;refine az.die rfl (hI.2 c0 k e1) rfl ?_);rintro _ _ _ ⟨rfl,rfl,rfl⟩;refine DA.cl ?_;refine fL ?_;exact ao.panic zE ⟨rfl,rfl,vi,po,co,vN,rfl⟩
  |ok q=>
   obtain⟨bb,k⟩:=q;have hk:=D2 e1;rw[e1] at hr;simp only at hr;have FI:wx pr.vars nc ⟨cells,inp,out,k⟩:=⟨fG,gO,by show k<_;omega,by show out.length+k<_;omega⟩
   cases bb with
   |false=>
    simp only at hr;have hL:=BT g σ pr dn (fun x _=>ih g ad x) _ b pv cv bs gc nc ⟨cells,inp,out,k⟩ vi po co r hp wc mG FI vN hr;simp only at hL
    cases r with
    |error q=>
     obtain⟨c0,s0⟩:=q;(refine cw Tryz.func154 ?_;refine aU ?_;refine cP fun g3=>?_;refine zj ?_;refine yC (hI.1 false k e1) ?_;refine bt ?_;refine az.die rfl (pz.err hL) rfl ?_);rintro _ _ _ ⟨rfl,rfl,u6,u7,u9,lA,rfl⟩;refine DA.cl ?_;refine fL ?_;exact ao.panic zE ⟨rfl,rfl,u6,u7,u9,lA,rfl⟩
    |ok s2=>
     (refine cw Tryz.func154 ?_;refine aU ?_;refine cP fun g3=>?_;refine zj ?_;refine yC (hI.1 false k e1) ?_;refine bt ?_;refine zw rfl (ax.cE (pz.ok hL) rfl) ?_);rintro _ _ _ ⟨_,⟨rfl,rfl,u6,u7,u9,lA,rfl⟩,rfl⟩;refine az.cl ?_;refine aU ?_;exact iN rfl ⟨rfl,rfl,u6,u7,u9,lA,rfl⟩
   |true=>
    simp only at hr
    cases e2:fJ (jA pr.vars g) body ⟨cells,inp,out,k⟩ with
    |none=>rw[e2] at hr;cases hr
    |some q=>
     have hL:=BT g σ pr body (fun x _=>ih g ad x) _ b pv cv bs gc nc ⟨cells,inp,out,k⟩ vi po co q hp sY o6 FI vN e2;have hle:=kh (nT pr.vars g) _ _ _ e2;rw[e2] at hr;simp only at hr hL
     cases q with
     |error q=>
      obtain⟨c0,s0⟩:=q;cases hr;(refine cw Tryz.func154 ?_;refine aU ?_;refine cP fun g3=>?_;refine zj ?_;refine yC (hI.1 true k e1) ?_;refine bJ ?_;refine az.die rfl (pz.err hL) rfl ?_);rintro _ _ _ ⟨rfl,rfl,u6,u7,u9,lA,rfl⟩;refine DA.cl ?_;refine fL ?_;exact ao.panic zE ⟨rfl,rfl,u6,u7,u9,lA,rfl⟩
     |ok s2=>
      have ng:=FI.less hle;obtain⟨mq,yj,vd,f2⟩:=s2;have TP:f2<1000000:=ng.left;simp only at hr
      cases f2 with
      |zero=>
       rw[show dQ ⟨mq,yj,vd,0⟩=.error (13,⟨mq,yj,vd,0⟩) from rfl] at hr;cases hr;(refine cw Tryz.func154 ?_;refine aU ?_;refine cP fun g3=>?_;refine zj ?_;refine yC (hI.1 true k e1) ?_;refine bJ ?_;refine zw rfl (ax.cE (pz.ok hL) rfl) ?_);rintro _ _ _ ⟨_,⟨rfl,rfl,u6,u7,u9,lA,rfl⟩,rfl⟩;refine az.cl ?_;refine dc ?_;refine az.die rfl (nS σ b _ _ _ _ _) rfl ?_;rintro _ _ _ ⟨rfl,rfl,rfl⟩;refine DA.cl ?_;refine fL ?_;exact ao.panic zE ⟨rfl,rfl,u6,u7,u9,lA,rfl⟩
      |succ f2=>
       rw[show dQ ⟨mq,yj,vd,f2+1⟩=.ok ⟨mq,yj,vd,f2⟩ by simp[dQ]] at hr;cases hr;(refine cw Tryz.func154 ?_;refine aU ?_;refine cP fun g3=>?_;refine zj ?_;refine yC (hI.1 true k e1) ?_;refine bJ ?_;refine zw rfl (ax.cE (pz.ok hL) rfl) ?_);rintro _ _ _ ⟨_,⟨rfl,rfl,u6,u7,u9,lA,rfl⟩,rfl⟩;refine az.cl ?_;refine dc ?_;refine yC (jy σ b _ _ _ _ _ f2 ad) ?_;refine dc ?_;exact On rfl ⟨rfl,rfl,u6,u7,u9,lA,rfl⟩
 (obtain rfl:op=7:=by omega);rw[jA,ag au,ag au,ag au,ag au,ag au,ag au,aq rfl] at hr
 cases f with
 |zero=>
  rw[show dQ ⟨cells,inp,out,0⟩=.error (13,⟨cells,inp,out,0⟩) from rfl] at hr;cases hr;(refine cw Tryz.func154 ?_;refine aU ?_;refine cP fun g3=>?_;refine W4 ?_;refine az.die rfl (nS σ b _ _ _ _ _) rfl ?_);rintro _ _ _ ⟨rfl,rfl,rfl⟩;refine DA.cl ?_;refine fL ?_;exact ao.panic zE ⟨rfl,rfl,vi,po,co,vN,rfl⟩
 |succ k=>
  rw[show dQ ⟨cells,inp,out,k+1⟩=.ok ⟨cells,inp,out,k⟩ by simp[dQ]] at hr;cases hr;(refine cw Tryz.func154 ?_;refine aU ?_;refine cP fun g3=>?_;refine W4 ?_);refine yC (jy σ b _ _ _ _ _ k ad) ?_;refine aU ?_;exact iN rfl ⟨rfl,rfl,vi,po,co,vN,rfl⟩
theorem oL {F F':St→RS→Option RR} (h:∀x s r,F x s=some r→F' x s=some r):∀(l:List St) (s:RS) (r:RR),fJ F l s=some r→fJ F' l s=some r
 |[],s,r,e=>e
 |x::l,s,r,e=>by
  rw[fJ] at e⊢
  cases e1:F x s with
  |none=>rw[e1] at e;cases e
  |some q=>
   rw[e1] at e;rw[h _ _ _ e1]
   cases q with
   |error q=>exact e
   |ok s1=>exact oL h l s1 r e
theorem MG (vs:List Va):∀(g:Nat) (x:St) (s:RS) (r:RR),jA vs g x s=some r→jA vs (g+1) x s=some r:=by
 intro g
 induction g with
 |zero=>intro x s r h;cases h
 |succ g ih=>
  intro x s r h;obtain⟨op,v,e,f,body,dn⟩:=x;by_cases q1:op=1
  ·subst q1;rw[jA,aq rfl] at h⊢;exact h
  by_cases q2:op=2
  ·subst q2;rw[jA,ag au,aq rfl] at h⊢;exact h
  by_cases q3:op=3
  ·subst q3;rw[jA,ag au,ag au,aq rfl] at h⊢;exact h
  by_cases q4:op=4
  ·subst q4;rw[jA,ag au,ag au,ag au,aq rfl] at h⊢;exact h
  have hl:=oL ih;by_cases q5:op=5
  ·subst q5;rw[tW] at h⊢
   cases e1:y7 vs e s with
   |error q=>rw[e1] at h;exact h
   |ok q=>
    obtain⟨bb,s1⟩:=q;rw[e1] at h
    cases bb with
    |false=>exact h
    |true=>
     simp only at h⊢
     cases e2:fJ (jA vs g) body s1 with
     |none=>rw[e2] at h;cases h
     |some q=>
      rw[e2] at h;rw[hl _ _ _ e2]
      cases q with
      |error q=>exact h
      |ok s2=>
       simp only at h⊢
       cases e3:dQ s2 with
       |error q=>rw[e3] at h;exact h
       |ok s3=>rw[e3] at h;exact ih _ _ _ h
  by_cases q6:op=6
  ·subst q6;rw[vM] at h⊢
   cases e1:y7 vs e s with
   |error q=>rw[e1] at h;exact h
   |ok q=>
    obtain⟨bb,s1⟩:=q;rw[e1] at h
    cases bb with
    |false=>exact hl _ _ _ h
    |true=>
     simp only at h⊢
     cases e2:fJ (jA vs g) body s1 with
     |none=>rw[e2] at h;cases h
     |some q=>rw[e2] at h;rw[hl _ _ _ e2];exact h
  rw[jA,ag q1,ag q2,ag q3,ag q4,ag q5,ag q6] at h⊢;exact h
theorem BU (vs:List Va) {g g':Nat} (hg:g≤g') {x:St} {s:RS} {r:RR} (h:jA vs g x s=some r):jA vs g' x s=some r:=by
 induction hg with
 |refl=>exact h
 |step _ ih=>exact MG vs _ _ _ _ ih
theorem MH {vs:List Va} {x:Ex} {s:RS} {b:Bool} {s':RS} (h:y7 vs x s=.ok (b,s')):s'.left<s.left:=by
 rw[y7] at h;obtain⟨h1,-⟩:=tV vs x s
 cases e:qQ vs x s with
 |error q=>rw[e] at h;cases h
 |ok q=>
  obtain⟨n,s1⟩:=q;have a:=(h1 _ _ e).2.1;rw[e] at h;simp only at h
  cases e2:dQ s1 with
  |error q=>rw[e2] at h;cases h
  |ok s2=>
   rw[e2] at h;cases h;have:=(iU.1 _ e2).2.1;omega
theorem pZ {vs:List Va} {f:Nat} (hT:∀x s,s.left≤f→∃g r,jA vs g x s=some r):∀(l:List St) (s:RS),s.left≤f→∃g r,fJ (jA vs g) l s=some r
 |[],s,_=>⟨0,_,rfl⟩
 |x::l,s,hs=>by
  obtain⟨g,r,e⟩:=hT x s hs
  cases r with
  |error q=>exact⟨g,.error q,by rw[fJ,e]⟩
  |ok s1=>
   have hle:=nT _ _ _ _ _ e;obtain⟨g2,r2,e2⟩:=pZ hT l s1 (Nat.le_trans hle.left hs);refine⟨max g g2,r2,?_⟩;rw[fJ,BU vs (Nat.le_max_left g g2) e];exact oL (fun x s r h=>BU vs (Nat.le_max_right g g2) h) _ _ _ e2
theorem JR (vs:List Va):∀(f:Nat) (x:St) (s:RS),s.left≤f→∃g r,jA vs g x s=some r:=by
 intro f
 induction f using Nat.strongRecOn with
 |_ f ih=>
 intro x s hs;(have hL:∀(l:List St) (s1:RS),s1.left<s.left→∃g r,fJ (jA vs g) l s1=some r:=fun l s1 h1=>pZ (fun x s2 h2=>ih s1.left ad x s2 h2) l s1 (bX _));obtain⟨op,v,e,ff,body,dn⟩:=x;by_cases q1:op=1
 ·subst q1;exact⟨1,_,by rw[jA,aq rfl]⟩
 by_cases q2:op=2
 ·subst q2;exact⟨1,_,by rw[jA,ag au,aq rfl]⟩
 by_cases q3:op=3
 ·subst q3;exact⟨1,_,by rw[jA,ag au,ag au,aq rfl]⟩
 by_cases q4:op=4
 ·subst q4;exact⟨1,_,by rw[jA,ag au,ag au,ag au,aq rfl]⟩
 by_cases q5:op=5
 ·subst q5
  cases e1:y7 vs e s with
  |error q=>exact⟨1,_,by rw[tW,e1]⟩
  |ok q=>
   obtain⟨bb,s1⟩:=q;have h1:=MH e1
   cases bb with
   |false=>exact⟨1,_,by rw[tW,e1]⟩
   |true=>
    obtain⟨g2,r2,e2⟩:=hL body s1 h1
    cases r2 with
    |error q=>exact⟨g2+1,.error q,by rw[tW,e1];simp only[e2]⟩
    |ok s2=>
     have hle:=kh (nT vs g2) _ _ _ e2
     cases e3:dQ s2 with
     |error q=>exact⟨g2+1,.error q,by rw[tW,e1];simp only[e2,e3]⟩
     |ok s3=>
      have h3:=(iU.1 _ e3).2.1;have h2:s2.left≤s1.left:=hle.left;obtain⟨g4,r4,e4⟩:=ih s3.left ad (.mk 5 v e ff body dn) s3 (bX _);refine⟨max g2 g4+1,r4,?_⟩;rw[tW,e1];simp only[oL (fun x s r h=>BU vs (Nat.le_max_left g2 g4) h) _ _ _ e2,e3];exact BU vs (Nat.le_max_right g2 g4) e4
 by_cases q6:op=6
 ·subst q6
  cases e1:y7 vs e s with
  |error q=>exact⟨1,_,by rw[vM,e1]⟩
  |ok q=>
   obtain⟨bb,s1⟩:=q;have h1:=MH e1
   cases bb with
   |false=>
    obtain⟨g2,r2,e2⟩:=hL dn s1 h1;exact⟨g2+1,r2,by rw[vM,e1];exact e2⟩
   |true=>
    obtain⟨g2,r2,e2⟩:=hL body s1 h1
    cases r2 with
    |error q=>exact⟨g2+1,.error q,by rw[vM,e1];simp only[e2]⟩
    |ok s2=>exact⟨g2+1,dQ s2,by rw[vM,e1];simp only[e2]⟩
 exact⟨1,if op=7 then dQ s else .ok s,by rw[jA,ag q1,ag q2,ag q3,ag q4,ag q5,ag q6];split<;>rfl⟩
def JS:RR→RR
 |.ok s=>dQ s
 |.error e=>.error e
def P0:RR→Int×RS
 |.ok s=>(0,s)
 |.error e=>e
def start (p:Pr) (inp:List Int) (fuel:Nat):RS:=⟨List.replicate (sizes p.vars).toNat 0,inp,[],fuel⟩
def tX (p:Pr) (inp:List Int) (fuel:Nat) (c:Int) (s:RS):Prop:=∃g r,fJ (jA p.vars g) p.body (start p inp fuel)=some r∧P0 (JS r)=(c,s)
theorem JT (p:Pr) (inp:List Int) (fuel:Nat):∃c s,tX p inp fuel c s:=by
 obtain⟨g,r,e⟩:=pZ (JR p.vars (start p inp fuel).left) p.body (start p inp fuel) (bX _);exact⟨_,_,g,r,e,rfl⟩
section
variable {P:Program} {ρ:Env} {h:Heap} {ty:TypeId} {σ:PH} {Γ:List HP}
theorem Wr.makeSlice {T e n m:Nat} {x y:Operand} {kx ky:IntKind} {r re:Ty} (hT:aX P T=some r) (hk:r.k=.slice e) (hE:aX P e=some re) (hx:ev ρ x=.int kx n) (hy:ev ρ y=.int ky n) (hn:h.size=m) (hz:re.zero.length=re.size) (hb:re.bytes*n≤16777216) (hs:n≤16777216) (h0:n*re.size≠0):
 Wr P ρ h (.makeSlice T x y) ty (fun v' h'=>v'=.slice (some ⟨m,0,none⟩) n n∧h'=h.push (.cells ((List.range (n*re.size)).map fun k=>re.zero.getD (k%re.size) undef).toArray e (0,0))) X.qY:=by
 subst hn;(refine Wr.run fun d pos af gd w hw=>?_);obtain⟨dd,i,z,e1,e2,-⟩:=aF hT;obtain⟨wW,i',z',sA,rI,mH,oa,Fo,Bh,E4⟩:=aF hE;rw[hk] at e2;(cases dd<;>simp[kindOf] at e2);rw[e2] at e1;clear e2;have za:z'.cells.size=re.size:=by rw[←Array.length_toList,E4,hz]
 have hzero:(Array.range (n*re.size)).map (fun k=>z'.cells[k%z'.cells.size]!)=((List.range (n*re.size)).map fun k=>re.zero.getD (k%re.size) undef).toArray:=by
  apply Array.ext';simp only[Array.toList_map,Array.toList_range,za];apply List.map_congr_left;intro k hk
  have aV:k%re.size<re.size:=Nat.mod_lt _ (by
   rcases Nat.eq_zero_or_pos re.size with h0|h0
   ·rw[h0,Nat.mul_zero] at hk;simp at hk
   ·exact h0)
  rw[←E4];(have sO:k%re.size<z'.cells.size:=by rw[za];exact aV);simp[getElem!_pos,sO,ey]
 have hwn:IntKind.i64.wrap (n:Int)=n:=X.wrap64_in ad ad;have sM:¬(n*re.bytes>roomBytes):=by rw[Nat.mul_comm];simp only[roomBytes];omega
 have hbi:¬((re.bytes:Int)*n>2^48):=by
  (have:((re.bytes*n:Nat):Int)≤16777216:=by omega);rw[Int.natCast_mul] at this;omega
 refine⟨_,w.alloc (.cells ((List.range (n*re.size)).map fun k=>re.zero.getD (k%re.size) undef).toArray e (0,0)),?_,⟨rfl,rfl,rfl⟩,rfl,by rw[←hw];rfl⟩;simp only[execOp,Instr.makeSlice,Sem.run_bind,run_underlying e1,Result.andThen_ok,sizeOf,typeInfo,run_program,mH,oa,Fo,Sem.run_pure,zeroValue,Bh,hx,hy,asInt,asIntOf,Result.andThen_ok,hwn];rw[ag sU];simp only[askRoom,ag sM,Int.toNat_natCast,Sem.run_bind,Sem.run_pure,Result.andThen_ok,sizeOf,typeInfo,run_program,mH,oa,zeroValue,Bh,ag h0];rw[hzero];simp[newRow,hw]
theorem X.ax.mkS {T e n:Nat} {x y:Operand} {kx ky:IntKind} {r re:Ty} {zs:List Value} (hT:aX P T=some r) (hk:r.k=.slice e) (hE:aX P e=some re) (hx:ev ρ x=.int kx n) (hy:ev ρ y=.int ky n) (hz:re.zero.length=re.size) (hb:re.bytes*n≤16777216) (hs:n≤16777216) (h0:n*re.size≠0)
 (za:((List.range (n*re.size)).map fun k=>re.zero.getD (k%re.size) undef)=zs):ax P ρ σ Γ (.makeSlice T x y) ty (fun v' aj al=>∃g,v'=.slice (some ⟨g,0,none⟩) n n∧σ=aj∧al=aw g zs e::Γ) ig:=
 Wr.Ok (Q:=fun h v h'=>v=.slice (some ⟨h.size,0,none⟩) n n∧h'=h.push (cellsOf zs e)) (fun _ _=>by subst za;exact Wr.makeSlice hT hk hE hx hy rfl hz hb hs h0) fun f h v h' hh ⟨e1,e2⟩=>⟨σ,_,⟨h.size,e1,rfl,rfl⟩,e2▸hh.alloc _ _⟩
end
section
variable {P:Program} {ρ:Env} {h:Heap} {ty:TypeId} {σ:PH} {Γ:List HP}
theorem Wr.MI {T e m:Nat} {x y:Operand} {kx ky:IntKind} {r re:Ty} (hT:aX P T=some r) (hk:r.k=.slice e) (hE:aX P e=some re) (hx:ev ρ x=.int kx 0) (hy:ev ρ y=.int ky 0) (hn:h.size=m):
 Wr P ρ h (.makeSlice T x y) ty (fun v' h'=>v'=.slice (some ⟨m,0,none⟩) 0 0∧h'=h.push (.cells ([]:List Value).toArray e (0,0))) X.qY:=by
 subst hn;(refine Wr.run fun d pos af gd w hw=>?_);obtain⟨dd,i,z,e1,e2,-⟩:=aF hT;obtain⟨wW,i',z',sA,rI,mH,oa,Fo,Bh,E4⟩:=aF hE;rw[hk] at e2;(cases dd<;>simp[kindOf] at e2);rw[e2] at e1;clear e2;have hwn:IntKind.i64.wrap 0=0:=rfl;(have sM:¬(0*re.bytes>roomBytes):=by simp);refine⟨_,w.alloc (.cells ([]:List Value).toArray e (0,0)),?_,⟨rfl,rfl,rfl⟩,rfl,by rw[←hw];rfl⟩;simp only[execOp,Instr.makeSlice,Sem.run_bind,run_underlying e1,Result.andThen_ok,sizeOf,typeInfo,run_program,mH,oa,Fo,Sem.run_pure,zeroValue,Bh,hx,hy,asInt,asIntOf,Result.andThen_ok,hwn];rw[ag aZ];simp[askRoom,newRow,hw,sizeOf,typeInfo,mH];congr 2;apply Array.ext';simp
theorem X.ax.ZG {T e n:Nat} {x y:Operand} {kx ky:IntKind} {r re:Ty} {zs:List Value} (hT:aX P T=some r) (hk:r.k=.slice e) (hE:aX P e=some re) (hx:ev ρ x=.int kx n) (hy:ev ρ y=.int ky n) (hz:re.zero.length=re.size) (bz:re.size=1) (hb:re.bytes*n≤16777216) (hs:n≤16777216)
 (za:((List.range (n*re.size)).map fun k=>re.zero.getD (k%re.size) undef)=zs):ax P ρ σ Γ (.makeSlice T x y) ty (fun v' aj al=>∃g,v'=.slice (some ⟨g,0,none⟩) n n∧σ=aj∧al=aw g zs e::Γ) ig:=by
 cases n with
 |zero=>
  (have Bt:zs=[]:=by rw[←za];simp);subst Bt;exact Wr.Ok (Q:=fun h v h'=>v=.slice (some ⟨h.size,0,none⟩) 0 0∧h'=h.push (cellsOf ([]:List Value) e)) (fun _ _=>Wr.MI hT hk hE hx hy rfl) fun f h v h' hh ⟨e1,e2⟩=>⟨σ,_,⟨h.size,e1,rfl,rfl⟩,e2▸hh.alloc _ _⟩
 |succ n=>exact X.ax.mkS hT hk hE hx hy hz hb hs (by rw[bz];omega) za
end
theorem oM (n:Nat) {z:List Value} (hz:z=[i64 0]):((List.range (n*1)).map fun k=>z.getD (k%1) undef)=ints (List.replicate n 0):=by
 subst hz;rw[ints,Nat.mul_one]
 induction n with
 |zero=>rfl
 |succ n ih=>rw[List.range_succ,List.map_append,ih,List.replicate_succ'];simp[Nat.mod_one]
theorem JU:(Tryz.prog.info? 173).bind (·.zero)=some (.int .i64 0):=by kernel_rfl
theorem MJ:∃ms,Tryz.prog.underlying 20=some (.interface ms):=⟨#[],aC⟩
section
variable (σ:PH) (g10 g5 g6 g7 gr gc nc:Nat) (v0 v1 vi:Value) (po:Option Addr) (no co fuel left:Nat) (hf:fuel≤3000) (hs:left≤fuel) (r0 r1:List Value) (Dx:r0.length=3) (E5:r1.length=1)
include hf hs Dx E5
theorem P1:
 dk Tryz.prog 110 #[ptr g10,ptr g5,ptr g6,ptr g7] .returning σ [aw g10 [ptr gr] 170,aw g5 [i64 fuel] 3,aw g6 r0 75,aw g7 r1 3,aw gr [v0,v1,.slice (some ⟨gc,0,none⟩) nc nc,vi,.slice po no co,i64 left] 172]
  (fun u' aj al=>settle u'=.returning∧σ=aj∧al=[aw g6 [i64 0,.slice po no co,.slice (some ⟨gc,0,none⟩) nc nc] 75,aw g7 [i64 ((fuel:Int)-left)] 3]):=by
 obtain⟨ms,hms⟩:=MJ;refine dk.Aj Tryz.func110 rfl rfl rfl rfl ?_;dsimp only[recv];have iP:aQ r0 0 [i64 0,.slice po no co,.slice (some ⟨gc,0,none⟩) nc nc]=[i64 0,.slice po no co,.slice (some ⟨gc,0,none⟩) nc nc]:=iB Dx;have sR:aQ r1 0 [i64 ((fuel:Int)-left)]=[i64 ((fuel:Int)-left)]:=iB E5;(have gf:0+Ft.size≤r0.length:=by rw[Dx];exact bX _);(have pH:∀_:Unit,0+OW.size≤r1.length:=fun _=>by rw[E5];exact bX _);refine cx ?_;refine zO rfl (Rd.FG (ae rfl) rfl JU rfl) ?_;refine cp ?_;refine zO rfl (Rd.uI hms rfl) ?_;refine bt ?_;refine et 18 349399821 [16,17] (ar.bB (R:=aw g10 _ _) zL (ar.bB (R:=aw g5 _ _) zL (ar.bB (R:=aw gr _ _) zL (ar.nil _)))) ?_;refine dC ?_;refine kS rfl (ax.st (ae rfl) rfl) ?_;refine kS rfl (ax.st (ae rfl) rfl) ?_;refine bS ?_;exact iN rfl ⟨rfl,rfl,rfl⟩
theorem Ij (c:Int):
 dk Tryz.prog 110 #[ptr g10,ptr g5,ptr g6,ptr g7] (.panicking (tU c)) σ [aw g10 [ptr gr] 170,aw g5 [i64 fuel] 3,aw g6 r0 75,aw g7 r1 3,aw gr [v0,v1,.slice (some ⟨gc,0,none⟩) nc nc,vi,.slice po no co,i64 left] 172]
  (fun u' aj al=>settle u'=.returning∧σ=aj∧al=[aw g6 [i64 c,.slice po no co,.slice (some ⟨gc,0,none⟩) nc nc] 75,aw g7 [i64 ((fuel:Int)-left)] 3]):=by
 obtain⟨ms,hms⟩:=MJ;refine dk.Aj Tryz.func110 rfl rfl rfl rfl ?_;dsimp only[recv,tU];have iP:aQ r0 0 [i64 c,.slice po no co,.slice (some ⟨gc,0,none⟩) nc nc]=[i64 c,.slice po no co,.slice (some ⟨gc,0,none⟩) nc nc]:=iB Dx;have sR:aQ r1 0 [i64 ((fuel:Int)-left)]=[i64 ((fuel:Int)-left)]:=iB E5;(have gf:0+Ft.size≤r0.length:=by rw[Dx];exact bX _);(have pH:∀_:Unit,0+OW.size≤r1.length:=fun _=>by rw[E5];exact bX _);refine cx ?_;refine zO rfl (Rd.Pk (ae rfl) rfl rfl) ?_;refine cp ?_;refine zO rfl (Rd.uH hms rfl) ?_;refine bt ?_;refine et 18 349399821 [16,17] (ar.bB (R:=aw g10 _ _) zL (ar.bB (R:=aw g5 _ _) zL (ar.bB (R:=aw gr _ _) zL (ar.nil _)))) ?_;refine dC ?_;refine kS rfl (ax.st (ae rfl) rfl) ?_;refine kS rfl (ax.st (ae rfl) rfl) ?_;refine bS ?_;exact iN rfl ⟨rfl,rfl,rfl⟩
end
theorem aB.X3 {P:Program} {ρ:Env} {σ:PH} {Γ:List HP} {fn:Func} {t1 t2 t3:Tmp} {T1 T2:TypeId} {g1 o1 g2 o2:Nat} {v1 v2 v3:Value} (hf:fn.results=#[.cell t1 T1,.cell t2 T2,.tmp t3]) (h1:ρ t1=.pointer (some ⟨g1,o1,none⟩)) (h2:ρ t2=.pointer (some ⟨g2,o2,none⟩)) (h3:ρ t3=v3)
 (l1:∀h,Ho σ Γ h→Ld P h T1 g1 o1 v1) (l2:∀h,Ho σ Γ h→Ld P h T2 g2 o2 v2):aB P fn ρ σ Γ (.tuple #[v1,v2,v3]):=fun h hh w a hw he=>by
 have e1:=he.get t1;rw[h1] at e1;simp at e1;have e2:=he.get t2;rw[h2] at e2;simp at e2;have e3:=he.get t3;rw[h3] at e3;simp at e3;simp[results,hf,e1,e2,e3,asAddr,l1 h hh w hw,l2 h hh w hw]
def Ik (σ:PH) (p:Pr) (inp:List Int) (fuel:Int):Value→PH→List HP→Prop:=fun v aj al=>σ.sub aj∧al=[]∧if bZ p≠0 then v=.tuple #[.agg #[i64 0,.slice none 0 0,.slice none 0 0],i64 0,i64 (bZ p)]
 else if 40<inp.length∨fuel<0∨3000<fuel then v=.tuple #[.agg #[i64 0,.slice none 0 0,.slice none 0 0],i64 0,i64 1]
 else ∃(c:Int) (s:RS) (vo vc:Value),tX p inp fuel.toNat c s∧v=.tuple #[.agg #[i64 c,vo,vc],i64 (fuel-s.left),i64 0]∧a7 aj vo s.out∧a7 aj vc s.cells∧s.left≤fuel.toNat
theorem dk.conv {P:Program} {f:FuncId} {vs:Array Value} {u:FrameMode} {σ:PH} {Γ b6 Δ:List HP} {R R':FrameMode→PH→List HP→Prop} (hc:dk P f vs u σ b6 R) (he:ar Γ (b6++Δ))
 (k:∀u' aj al fr h,R u' aj al→Holds aj (al++Δ) fr h→∃cL mY,R' u' cL mY∧Holds cL mY fr h):dk P f vs u σ Γ R':=fun fr h hh w hw=>by
 obtain⟨f',a,b⟩:=(hh.eX he).aside;refine(hc f' h a w hw).mono ?_;rintro e u' w' ⟨h1,h2,aj,al,h3,h4⟩;obtain⟨cL,mY,h5,h6⟩:=k u' aj al fr w'.heap h3 (b _ _ _ h4);exact⟨h1,h2,cL,mY,h5,h6⟩
theorem BV (σ da:PH) (p:Pr) (inp:List Int) (fn:Func) (SB:fn.results=#[.cell 6 75,.cell 7 3,.tmp 8]) (ρ:Env) (Γ:List HP) (g10 g5 g6 g7 gr gc nc:Nat) (v0 v1 vi:Value) (po:Option Addr) (co fuel left:Nat) (cells out OA:List Int) (c:Int) (u:FrameMode) (r0 r1:List Value)
 (I3:da.sub σ) (h6:ρ 6=ptr g6) (h7:ρ 7=ptr g7) (h8:ρ 8=i64 0) (BB:bZ p=0) (hi:inp.length≤40) (hf:fuel≤3000) (hl:left≤fuel) (fG:cells.length=nc) (Bu:nc≤48) (cZ:tX p inp fuel c ⟨cells,OA,out,left⟩)
 (nG:dk Tryz.prog 110 #[ptr g10,ptr g5,ptr g6,ptr g7] u σ [aw g10 [ptr gr] 170,aw g5 [i64 fuel] 3,aw g6 r0 75,aw g7 r1 3,aw gr [v0,v1,.slice (some ⟨gc,0,none⟩) nc nc,vi,.slice po out.length co,i64 left] 172]
  (fun u' aj al=>settle u'=.returning∧σ=aj∧al=[aw g6 [i64 c,.slice po out.length co,.slice (some ⟨gc,0,none⟩) nc nc] 75,aw g7 [i64 ((fuel:Int)-left)] 3]))
 (hΓ:ar Γ ([aw g10 [ptr gr] 170,aw g5 [i64 fuel] 3,aw g6 r0 75,aw g7 r1 3,aw gr [v0,v1,.slice (some ⟨gc,0,none⟩) nc nc,vi,.slice po out.length co,i64 left] 172]++[aw gc (ints cells) 2,aS 2 1 (.slice po out.length co) out.length (ints out)])):
 dk Tryz.prog 110 #[ptr g10,ptr g5,ptr g6,ptr g7] u σ Γ (fun u' aj al=>settle u'=.returning∧∃v,aB Tryz.prog fn ρ aj al v∧∃Δ,ar al Δ∧aA (Ik da p inp fuel) (.returned v) aj Δ):=by
 (refine dk.conv nG hΓ ?_);rintro u' aj al fr h ⟨hu,rfl,rfl⟩ hh;simp only[List.cons_append,List.nil_append] at hh;obtain⟨cL,⟨⟩,hz,bT,hh2⟩:=fl (R:=aw gc (ints cells) 2) hh zL Bp oh;obtain⟨fZ,⟨⟩,hy,cQ,hh3⟩:=fl (R:=aS 2 1 (.slice po out.length co) _ _) hh2 zL cm aH;refine⟨fZ,_,⟨hu,_,aB.X3 SB h6 h7 h8 (Ld.bn (ae rfl) rfl zL rfl cK cJ) (Ld.Vm (ae rfl) rfl C6),[],ar.nil _,(I3.trans bT).trans cQ,rfl,?_⟩,hh3⟩;rw[ag (fun h=>h BB),ag ad];refine⟨c,⟨cells,OA,out,left⟩,_,_,cZ,rfl,⟨po,co,rfl,hy.1,hy.2.1,?_⟩,⟨some ⟨gc,0,none⟩,nc,by simp[fG],by simp[fG],kB,fun _=>⟨gc,0,rfl,hz.mono cQ⟩⟩,hl⟩;intro h0;exact hy.2.2.2 h0
theorem RD (σ:PH) (cs:List Value) (p:Pr) (iv:Value) (inp:List Int) (fuel:Int) (hp:gT σ cs p) (hi:a7 σ iv inp):
 ah Tryz.prog 68 #[.agg cs.toArray,iv,i64 fuel] σ [] (aA (Ik σ p inp fuel)):=by
 have lG:=hp;obtain⟨vs,bs,rfl,hv,hb⟩:=hp;obtain⟨pv,cv,rfl,jx,Hf⟩:=hv.shape;obtain⟨pi,ci,rfl,pB,CB⟩:=hi.shape;simp only[maxLen] at CB;have iP:aQ Ft.zero 0 [i64 0,.slice none 0 0,.slice none 0 0]=[i64 0,.slice none 0 0,.slice none 0 0]:=rfl;have gf:0+Ft.size≤Ft.zero.length:=bX _;by_cases hc:bZ p≠0
 ·refine s8 Tryz.func68 rfl rfl rfl ?_;(refine sE.seq ?_;refine bS ?_;refine cP fun g3=>?_;refine cP fun g5=>?_);refine di (fun g6=>?_) (ae rfl);refine di (fun g7=>?_) (ae rfl);refine cx ?_;refine sE.seq ?_;refine cx ?_;refine yC (oz σ _ p lG) ?_;refine bt ?_;refine XA.aY rfl (aM hc) ?_;refine cp ?_;exact ao.ret (aB.X3 rfl rfl rfl rfl (Ld.bn (ae rfl) rfl zL rfl cK cJ) (Ld.Vm (ae rfl) rfl C6)) (ar.nil _) ⟨.refl _,rfl,by rw[aq hc]⟩
 ·by_cases a1:40<inp.length
  ·refine s8 Tryz.func68 rfl rfl rfl ?_;(refine sE.seq ?_;refine bS ?_;refine cP fun g3=>?_;refine cP fun g5=>?_);refine di (fun g6=>?_) (ae rfl);refine di (fun g7=>?_) (ae rfl);refine cx ?_;refine sE.seq ?_;refine cx ?_;refine yC (oz σ _ p lG) ?_;refine bt ?_;refine XA.aI rfl (aE hc) ?_;refine aU ?_;refine sE.seq ?_;refine dh ?_;refine iQ ?_;refine aR ?_;exact ao.ret (aB.X3 rfl rfl rfl rfl (Ld.bn (ae rfl) rfl zL rfl cK cJ) (Ld.Vm (ae rfl) rfl C6)) (ar.nil _) ⟨.refl _,rfl,by rw[ag hc,aq ad]⟩
  by_cases a2:fuel<0
  ·refine s8 Tryz.func68 rfl rfl rfl ?_;(refine sE.seq ?_;refine bS ?_;refine cP fun g3=>?_;refine cP fun g5=>?_);refine di (fun g6=>?_) (ae rfl);refine di (fun g7=>?_) (ae rfl);refine cx ?_;refine sE.seq ?_;refine cx ?_;refine yC (oz σ _ p lG) ?_;refine bt ?_;refine XA.aI rfl (aE hc) ?_;refine aU ?_;refine sE.seq ?_;refine dh ?_;refine iQ ?_;refine aR ?_;exact ao.ret (aB.X3 rfl rfl rfl rfl (Ld.bn (ae rfl) rfl zL rfl cK cJ) (Ld.Vm (ae rfl) rfl C6)) (ar.nil _) ⟨.refl _,rfl,by rw[ag hc,aq ad]⟩
  by_cases a3:3000<fuel
  ·refine s8 Tryz.func68 rfl rfl rfl ?_;(refine sE.seq ?_;refine bS ?_;refine cP fun g3=>?_;refine cP fun g5=>?_);refine di (fun g6=>?_) (ae rfl);refine di (fun g7=>?_) (ae rfl);refine cx ?_;refine sE.seq ?_;refine cx ?_;refine yC (oz σ _ p lG) ?_;refine bt ?_;refine XA.aI rfl (aE hc) ?_;refine aU ?_;refine sE.seq ?_;refine dh ?_;refine iQ ?_;refine aR ?_;exact ao.ret (aB.X3 rfl rfl rfl rfl (Ld.bn (ae rfl) rfl zL rfl cK cJ) (Ld.Vm (ae rfl) rfl C6)) (ar.nil _) ⟨.refl _,rfl,by rw[ag hc,aq ad]⟩
  (have BB:bZ p=0:=by omega);obtain⟨f,rfl⟩:∃f:Nat,fuel=f:=⟨fuel.toNat,ad⟩;obtain⟨hz,L6⟩:=kK BB;obtain⟨hV,-,h1,y5⟩:=dw BB;have gO:=ef h1;obtain⟨nc,CV⟩:∃nc:Nat,sizes p.vars=(nc:Int):=⟨(sizes p.vars).toNat,ad⟩;have cB:=Hg σ _ p lG hz L6;rw[CV] at cB;obtain⟨c,s,cZ⟩:=JT p inp f;(refine s8 Tryz.func68 rfl rfl rfl ?_;refine sE.seq ?_;refine bS ?_;refine cP fun g3=>?_;refine cP fun g5=>?_);refine di (fun g6=>?_) (ae rfl);refine di (fun g7=>?_) (ae rfl);refine cx ?_;refine sE.seq ?_;refine cx ?_;refine yC (oz σ _ p lG) ?_;refine bt ?_;refine XA.aI rfl (aE hc) ?_;refine aU ?_;refine sE.seq ?_;refine dh ?_;refine ik ?_;refine aU ?_;refine sE.seq ?_;refine XA.join [(10,10),(29,36)] (fun x:Nat×(Nat×Nat)=>[(10,ptr x.1)]) (fun x aj al=>σ=aj∧al=[aw x.1 [ptr x.2.1] 170,aw x.2.1 [.slice pv p.vars.length cv,bs,.slice (some ⟨x.2.2,0,none⟩) nc nc,.slice pi inp.length ci,.slice none 0 0,i64 f] 172,aw x.2.2 (ints (List.replicate nc 0)) 2,aw g3 [.slice pv p.vars.length cv,bs] 69,aw g5 [i64 f] 3,aw g6 Ft.zero 75,aw g7 OW.zero 3]) ?_ ?_
  ·skip;refine XA.mM aC _ _ [6,9] 10 #[false,false,false,false,false,false,false,false,false,false] rfl rfl aC (PH.sub.refl _) (ar.bB (R:=aw g3 _ _) zL (ar.bB (R:=aw g5 _ _) zL (ar.nil _))) ?_;refine qr 0 #[tT,fF,fF,fF,fF,fF,fF,fF,fF,fF] rfl (Rd.Bl rfl) ?_;refine qr 1 #[tT,tT,fF,fF,fF,fF,fF,fF,fF,fF] rfl (Rd.Bl rfl) ?_;refine qp 4 #[tT,tT,fF,fF,tT,fF,fF,fF,fF,fF] rfl Rd.mv ?_;refine qr 5 #[tT,tT,fF,fF,tT,tT,fF,fF,fF,fF] rfl (Rd.yZ rfl (ae rfl) rfl) ?_;refine cX.w2 (i:=2) (j:=8) aC ?_ ?_
   ·refine qw #[tT,tT,tT,fF,tT,tT,fF,fF,fF,fF] rfl (ax.cE cB rfl) ?_;rintro _ _ _ ⟨_,⟨rfl,rfl,rfl⟩,rfl⟩;refine⟨⟨zX,zE⟩,cX.re zC ?_⟩;refine cX.w2 (i:=3) (j:=8) aC ?_ ?_
    ·refine qw #[tT,tT,tT,tT,tT,tT,fF,fF,fF,fF] rfl (X.ax.ZG (n:=nc) (zs:=ints (List.replicate nc 0)) (ae rfl) rfl (ae rfl) rfl rfl rfl rfl (by show 8*nc≤_;omega) ad (oM nc rfl)) ?_;rintro _ _ _ ⟨CG,rfl,rfl,rfl⟩;refine⟨⟨zX,zE⟩,cX.re zC ?_⟩;refine qp 6 #[tT,tT,tT,tT,tT,tT,tT,fF,fF,fF] rfl (Rd.bl (fun _ _=>ae) rfl rfl rfl) ?_;refine cX.w2 (i:=7) (j:=8) aC ?_ ?_
     ·refine qw #[tT,tT,tT,tT,tT,tT,tT,tT,fF,fF] rfl ax.bx ?_;rintro _ _ _ ⟨CA,rfl,rfl,rfl⟩;refine⟨⟨zX,zE⟩,cX.re zC ?_⟩;refine qa 8 ?_;refine qw #[tT,tT,tT,tT,tT,tT,tT,tT,tT,fF] rfl (ax.alloc (ae rfl)) ?_;rintro _ _ _ ⟨g10,rfl,rfl,rfl⟩;refine⟨⟨zX,zE⟩,cX.re zC ?_⟩;refine qa 9 ?_;refine ji.b7 (bc:=#[tT,tT,tT,tT,tT,tT,tT,tT,tT,tT]) rfl rfl Gd.free aC rfl aC (ax.st (ae rfl) rfl) ?_;rintro _ _ _ ⟨rfl,rfl,rfl⟩;refine cX.re zC ?_;refine cX.nil rfl ?_;refine DA.bI ⟨zK,(g10,(CA,CG)),_,zM,?_,rfl,rfl⟩;exact zE
     ·refine qw #[tT,tT,tT,tT,tT,tT,tT,fF,tT,fF] rfl (ax.alloc (ae rfl)) ?_;rintro _ _ _ ⟨g10,rfl,rfl,rfl⟩;refine⟨⟨zX,zE⟩,cX.re zC ?_⟩;refine qa 7 ?_;refine qw #[tT,tT,tT,tT,tT,tT,tT,tT,tT,fF] rfl ax.bx ?_;rintro _ _ _ ⟨CA,rfl,rfl,rfl⟩;refine⟨⟨zX,zE⟩,cX.re zC ?_⟩;refine qa 9 ?_;refine ji.b7 (bc:=#[tT,tT,tT,tT,tT,tT,tT,tT,tT,tT]) rfl rfl Gd.free aC rfl aC (ax.st (ae rfl) rfl) ?_;rintro _ _ _ ⟨rfl,rfl,rfl⟩;refine cX.re zC ?_;refine cX.nil rfl ?_;refine DA.bI ⟨zK,(g10,(CA,CG)),_,zM,?_,rfl,rfl⟩;exact zE
    ·refine qw #[tT,tT,tT,fF,tT,tT,fF,fF,tT,fF] rfl (ax.alloc (ae rfl)) ?_;rintro _ _ _ ⟨g10,rfl,rfl,rfl⟩;refine⟨⟨zX,zE⟩,cX.re zC ?_⟩;refine qa 3 ?_;refine qw #[tT,tT,tT,tT,tT,tT,fF,fF,tT,fF] rfl (X.ax.ZG (n:=nc) (zs:=ints (List.replicate nc 0)) (ae rfl) rfl (ae rfl) rfl rfl rfl rfl (by show 8*nc≤_;omega) ad (oM nc rfl)) ?_;rintro _ _ _ ⟨CG,rfl,rfl,rfl⟩;refine⟨⟨zX,zE⟩,cX.re zC ?_⟩;refine qp 6 #[tT,tT,tT,tT,tT,tT,tT,fF,tT,fF] rfl (Rd.bl (fun _ _=>ae) rfl rfl rfl) ?_;refine qa 7 ?_;refine qw #[tT,tT,tT,tT,tT,tT,tT,tT,tT,fF] rfl ax.bx ?_;rintro _ _ _ ⟨CA,rfl,rfl,rfl⟩;refine⟨⟨zX,zE⟩,cX.re zC ?_⟩;refine qa 9 ?_;refine ji.b7 (bc:=#[tT,tT,tT,tT,tT,tT,tT,tT,tT,tT]) rfl rfl Gd.free aC rfl aC (ax.st (ae rfl) rfl) ?_;rintro _ _ _ ⟨rfl,rfl,rfl⟩;refine cX.re zC ?_;refine cX.nil rfl ?_;refine DA.bI ⟨zK,(g10,(CA,CG)),_,zM,?_,rfl,rfl⟩;exact zE
   ·refine qw #[tT,tT,fF,fF,tT,tT,fF,fF,tT,fF] rfl (ax.alloc (ae rfl)) ?_;rintro _ _ _ ⟨g10,rfl,rfl,rfl⟩;refine⟨⟨zX,zE⟩,cX.re zC ?_⟩;refine qa 2 ?_;refine qw #[tT,tT,tT,fF,tT,tT,fF,fF,tT,fF] rfl (ax.cE cB rfl) ?_;rintro _ _ _ ⟨_,⟨rfl,rfl,rfl⟩,rfl⟩;refine⟨⟨zX,zE⟩,cX.re zC ?_⟩;refine qa 3 ?_;refine qw #[tT,tT,tT,tT,tT,tT,fF,fF,tT,fF] rfl (X.ax.ZG (n:=nc) (zs:=ints (List.replicate nc 0)) (ae rfl) rfl (ae rfl) rfl rfl rfl rfl (by show 8*nc≤_;omega) ad (oM nc rfl)) ?_;rintro _ _ _ ⟨CG,rfl,rfl,rfl⟩;refine⟨⟨zX,zE⟩,cX.re zC ?_⟩;refine qp 6 #[tT,tT,tT,tT,tT,tT,tT,fF,tT,fF] rfl (Rd.bl (fun _ _=>ae) rfl rfl rfl) ?_;refine qa 7 ?_;refine qw #[tT,tT,tT,tT,tT,tT,tT,tT,tT,fF] rfl ax.bx ?_;rintro _ _ _ ⟨CA,rfl,rfl,rfl⟩;refine⟨⟨zX,zE⟩,cX.re zC ?_⟩;refine qa 9 ?_;refine ji.b7 (bc:=#[tT,tT,tT,tT,tT,tT,tT,tT,tT,tT]) rfl rfl Gd.free aC rfl aC (ax.st (ae rfl) rfl) ?_;rintro _ _ _ ⟨rfl,rfl,rfl⟩;refine cX.re zC ?_;refine cX.nil rfl ?_;refine DA.bI ⟨zK,(g10,(CA,CG)),_,zM,?_,rfl,rfl⟩;exact zE
  rintro⟨g10,CA,CG⟩ δ _ _ ⟨rfl,rfl⟩;dsimp only[dq,List.foldl];refine bS ?_;refine sE.defer (caps:=#[ptr g10,ptr g5,ptr g6,ptr g7]) (enters Tryz.func110 rfl rfl) rfl (by simp only[List.map_toArray,List.map_cons,List.map_nil]) ?_;refine sD.seq ?_;refine sD.region ?_;refine jH.rd rfl (Rd.yZ rfl (ae rfl) rfl) ?_;refine jH.rd rfl (Rd.fA rfl) ?_;refine jH.rd rfl (Rd.yZ rfl (ae rfl) rfl) ?_;obtain⟨g,r,hl,he⟩:=cZ;(have abN:(sizes p.vars).toNat=nc:=by omega);(have gP:start p inp f=⟨List.replicate nc 0,inp,[],f⟩:=by rw[start,abN]);rw[gP] at hl;have hF:wx p.vars nc ⟨List.replicate nc 0,inp,[],f⟩:=⟨aZ,CV.symm,by show f<_;omega,by show 0+f<_;omega⟩;have hL:=BT g σ p p.body (fun x _=>TL σ p h1 hz L6 g x) bs CA pv cv bs CG nc _ (.slice pi inp.length ci) none 0 r lG hb hV hF hi hl;have hle:=kh (nT p.vars g) _ _ _ hl;simp only[List.length_nil,show ints []=[] from rfl] at hL
  cases r with
  |error q=>
   obtain⟨c0,s0⟩:=q;obtain⟨cells,OA,out,left⟩:=s0;have Jk:left≤f:=hle.left;(have P2:cells.length=nc:=by have:=hle.cl;simpa[wy] using this);refine jH.die rfl (pz.err hL) rfl zD ?_;rintro _ _ _ ⟨rfl,rfl,u6,u7,u9,lA,rfl⟩;have xC:tX p inp f c0 ⟨cells,OA,out,left⟩:=⟨g,_,by rw[gP];exact hl,rfl⟩
   exact BV σ σ p inp _ rfl _ _ g10 g5 g6 g7 CA CG nc _ _ u6 u7 u9 f left cells out OA c0 _ _ _ (.refl _) rfl rfl rfl BB ad ad Jk P2 ad xC
    (Ij σ g10 g5 g6 g7 CA CG nc _ _ u6 u7 _ u9 f left ad Jk _ _ rfl rfl c0) zE
  |ok s1=>
   obtain⟨cells,OA,out,left⟩:=s1;have Jk:left≤f:=hle.left;(have P2:cells.length=nc:=by have:=hle.cl;simpa[wy] using this);refine jH.call rfl (pz.ok hL) rfl zD ?_;rintro _ _ _ ⟨rfl,rfl,u6,u7,u9,lA,rfl⟩;simp only[List.cons_append,List.nil_append];refine jH.nil ?_;show sD _ _ _ _ _ _ _;refine sD.seq ?_;refine sD.region ?_;refine jH.rd rfl (Rd.yZ rfl (ae rfl) rfl) ?_
   cases left with
   |zero=>
    have xC:tX p inp f 13 ⟨cells,OA,out,0⟩:=⟨g,_,by rw[gP];exact hl,rfl⟩;refine jH.die rfl (nS σ CA _ _ _ _ _) rfl zD ?_;rintro _ _ _ ⟨rfl,rfl,rfl⟩
    exact BV σ σ p inp _ rfl _ _ g10 g5 g6 g7 CA CG nc _ _ u6 u7 u9 f 0 cells out OA 13 _ _ _ (.refl _) rfl rfl rfl BB ad ad Jk P2 ad xC
     (Ij σ g10 g5 g6 g7 CA CG nc _ _ u6 u7 _ u9 f 0 ad Jk _ _ rfl rfl 13) zE
   |succ left=>
    have xC:tX p inp f 0 ⟨cells,OA,out,left⟩:=⟨g,_,by rw[gP];exact hl,by simp[JS,dQ,P0]⟩;refine jH.call rfl (jy σ CA _ _ _ _ _ left ad) rfl zD ?_;rintro _ _ _ ⟨rfl,rfl,rfl⟩;refine jH.nil ?_;show sD _ _ _ _ _ _ _;refine sD.ret ?_
    exact BV σ σ p inp _ rfl _ _ g10 g5 g6 g7 CA CG nc _ _ u6 u7 u9 f left cells out OA 0 _ _ _ (.refl _) rfl rfl rfl BB ad ad ad P2 ad xC
     (P1 σ g10 g5 g6 g7 CA CG nc _ _ u6 u7 _ u9 f left ad ad _ _ rfl rfl) zE
section
variable {P:Program} {ρ:Env} {σ:PH} {Γ:List HP}
theorem X.ax.D3 {T e:TypeId} {x y:Operand} {ty:TypeId} {r re:Ty} {n m c c' k:Nat} {p q:Option Addr} {xs news:List Value} {al:List HP} (hT:aX P T=some r) (hk:r.k=.slice e) (hE:aX P e=some re) (hz:re.zero.length=re.size)
 (hs:ev ρ x=.slice p n c) (s:dm Γ (aS e re.size (.slice p n c) n xs) al) (hy:ev ρ y=.slice q m c') (hf:m≤c'∧c'≤maxLen∧news.length=k∧(0<m→∃g o,q=some ⟨g,o,none⟩∧cH σ g o news)) (hl:k=m*re.size) (h1:dT news) (ze:n+m≤maxLen) (hb:(n+m)*re.bytes≤140737488355328) {n':Nat} {zs:List Value} (OQ:n'=n+m) (za:zs=xs++news):
 ax P ρ σ Γ (.call {callee:=.builtin .append,args:=#[x,y],argTypes:=#[T,T]}) ty (fun v' aj Δ=>∃p c,v'=.slice p n' c∧σ=aj∧Δ=aS e re.size (.slice p n' c) n' zs::al) ig:=by
 subst OQ za;obtain⟨Bw,n9,sG,TQ⟩:=hf;by_cases hm:m=0
 ·subst hm;have o5:news=[]:=List.eq_nil_of_length_eq_zero (by rw[sG,hl];omega);subst o5;refine⟨fun f h hh=>⟨fun d pos af gd a w next Q' he hw hn hp=>?_⟩⟩;have hc:=oe hh s (q:=n≤c) (fun m hm=>(G5 m hm).1);refine((Rd.O4 (σ:=σ) (Γ:=Γ) (Rd.om hT hk hE hs hy hc)).out f h hh).out d pos af gd a w next Q' he hw (fun v' w' sm q=>?_) (fun _ _ _ q=>by obtain⟨_,_,q,_⟩:=q;exact q.elim);obtain⟨aj,zg,⟨rfl,rfl,rfl⟩,kR⟩:=q;refine hn _ w' sm ⟨σ,_,⟨p,c,rfl,rfl,rfl⟩,?_⟩;rw[Nat.add_zero,List.append_nil];exact kR.eX (ar.imp s (fun _ h=>h) (ar.refl _))
 ·obtain⟨g,o,rfl,hr⟩:=TQ ad;exact ax.append hT hk hE hz hs s hy (At.Fu hr) (by rw[sG,hl]) h1 ad ze hb
end
end Go.Proofs.YtgeoiflbjcehcaaGreatDoor
