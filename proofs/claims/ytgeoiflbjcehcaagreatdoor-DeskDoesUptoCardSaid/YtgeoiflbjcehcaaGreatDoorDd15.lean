import Derived.Test.YtgeoiflbjcehcaaGreatDoorDd14
set_option maxHeartbeats 4000000
set_option maxRecDepth 2000
set_option linter.unusedVariables false
set_option linter.unusedSimpArgs false
namespace Go.Proofs.YtgeoiflbjcehcaaGreatDoor
open Go X
def dN (l:List In):List Value:=(l.map Oy).flatten
theorem fP (l:List In) (x:In):dN (l++[x])=dN l++Oy x:=by simp[dN]
theorem jm (l m:List In):dN (l++m)=dN l++dN m:=by simp[dN]
theorem mn (l:List In):(dN l).length=l.length*4:=by
 induction l with
 |nil=>rfl
 |cons x l ih=>simp only[dN,List.map_cons,List.flatten_cons,bq,bF] at ih⊢;rw[ih];simp only[Oy,bF,List.length_nil];omega
theorem nQ (σ:PH) (b:Nat) (vs bs:Value) (p:Option Addr) (c:Nat) (L:List In) (x:In) (hn:L.length≤100000):
 ah Tryz.prog 147 #[ptr b,.agg (Oy x).toArray] σ [aw b [vs,bs,.slice p L.length c] 217,aS 219 4 (.slice p L.length c) L.length (dN L)]
  (aA fun v aj al=>∃p' c',v=i64 L.length∧σ=aj∧al=[aw b [vs,bs,.slice p' (L++[x]).length c'] 217,aS 219 4 (.slice p' (L++[x]).length c') (L++[x]).length (dN (L++[x]))]):=by
 simp only[fP,bq,dZ];unfold Oy;(refine cw Tryz.func147 ?_;refine aU ?_;refine cP fun g3=>?_;refine bY ?_;refine et 11 124254 [7,10] (ar.bB (R:=aw b _ _) zL (ar.bB (R:=aw g3 _ _) zL (ar.nil _))) ?_;refine a8 ?_;refine aP.fw rfl rfl Gd.free (ax.jY (ae rfl) rfl (ae rfl)) ?_);rintro _ _ _ ⟨g11,rfl,rfl,rfl⟩;refine stays ?_;refine aP.b7 rfl rfl Gd.free aC (ax.kM (ae rfl) rfl (ae rfl) rfl rfl rfl) ?_;rintro _ _ _ ⟨Vz,c12,rfl,rfl,rfl⟩;refine aU ?_;refine kS rfl (ax.st (ae rfl) rfl) ?_;refine eA ?_;refine bC rfl rfl ⟨_,_,by show i64 (((L.length+1:Nat):Int)-1)=i64 L.length;congr 1;omega,rfl,rfl⟩
theorem yd (σ:PH) (b:Nat) (vs bs sl:Value) (pr:Pr) (v:Int) (hp:gT σ [vs,bs] pr) (hz:∀x∈pr.vars,0≤x.size∧x.size≤1000) (hl:pr.vars.length≤1000):
 ah Tryz.prog 214 #[ptr b,i64 v] σ [aw b [vs,bs,sl] 217] (aA fun r aj al=>r=i64 (cellOf pr.vars v)∧σ=aj∧al=[aw b [vs,bs,sl] 217]):=by
 refine cw Tryz.func214 ?_;refine bm ?_;refine yC (FF σ [vs,bs] pr v hp hz hl) ?_;refine bY ?_;exact bC rfl rfl ⟨rfl,rfl,rfl⟩
theorem ye:∀{l:List Ex} {x:Ex},x∈l→uD x≤lV l
 |y::l,x,h=>by
  rw[lV];rcases List.mem_cons.1 h with rfl|h
  ·omega
  ·have:=ye h;omega
def Ry (σ:PH) (pr:Pr) (x:Ex):Prop:=∀(cs:List Value) (b:Nat) (pv:Option Addr) (cv:Nat) (bs:Value) (p:Option Addr) (c:Nat) (L:List In),
 gT σ [.slice pv pr.vars.length cv,bs] pr→dL σ cs x→uo pr.vars.length x→L.length+uD x≤100000→
 ah Tryz.prog 213 #[ptr b,.agg cs.toArray] σ [aw b [.slice pv pr.vars.length cv,bs,.slice p L.length c] 217,aS 219 4 (.slice p L.length c) L.length (dN L)]
  (aA fun v aj al=>∃p' c',v=.tuple #[]∧σ=aj∧al=[aw b [.slice pv pr.vars.length cv,bs,.slice p' (L++ay pr.vars x).length c'] 217,aS 219 4 (.slice p' (L++ay pr.vars x).length c') (L++ay pr.vars x).length (dN (L++ay pr.vars x))])
theorem u4 (σ:PH) (pr:Pr) (hz:∀x∈pr.vars,0≤x.size∧x.size≤1000) (jx:pr.vars.length≤1000) (x:Ex):Ry σ pr x:=by
 refine Ex.ind (P:=Ry σ pr) ?_ x;intro op v k l ih cs b pv cv bs p c L hp hx hV hN;obtain⟨pl,cl,rfl,ho,hv,hk,hl⟩:=hx.inv;simp only[Ex.op,Ex.v,Ex.n,Ex.l] at ho hv hk hl⊢;clear hx;rw[uo] at hV;obtain⟨uF,Rz,VA,-,F8⟩:=hV;rw[uD] at hN;(have hlen:l.length≤100000:=by have:=xm l;omega);(refine cw Tryz.func213 ?_;refine aU ?_;refine cP fun g3=>?_;refine bm ?_;refine XA.gen [(0,_),(3,_),(8,_),(9,_),(10,_)] iX fun δ=>?_);dsimp only[List.foldl];refine XA.loop [(5,5),(10,17)] (fun i:Nat=>[(10,i64 i)]) (fun i aj al=>σ=aj∧i≤l.length∧∃(p':Option Addr) (c':Nat) (M:List In),M=L++bO pr.vars (l.take i)∧al=[aw b [.slice pv pr.vars.length cv,bs,.slice p' M.length c'] 217,aS 219 4 (.slice p' M.length c') M.length (dN M),aw g3 [i64 op,i64 v,i64 k,.slice pl l.length cl] 138]) (fun i=>l.length-i) 0 eb (Δ0:=_) ?_ (⟨rfl,cg _,p,c,L,by simp[bO],rfl⟩) ?_
 ·exact zE
 rintro i δ _ _ ⟨rfl,hi,p',c',M,hM,rfl⟩;dsimp only[dq,List.foldl]
 have Oz:M.length+lV (l.drop i)+1≤100000:=by
  have h2:=sX (l.take i) (l.drop i);rw[List.take_append_drop] at h2;rw[hM,bq,vK];omega
 refine a8 ?_;refine XA.bE rfl (fun aV=>?_) (fun aV=>?_)
 ·(have aV:i<l.length:=by omega);obtain⟨x',lF⟩:∃x',l[i]? =some x':=⟨_,b9 aV⟩;obtain⟨g,o,row,rfl,mJ,mZ,bG⟩:=hl.at lF;have tO:=fg lF;have jd:=mJ.dT;have Tz:l.drop i=x'::l.drop (i+1):=eC lF;have hNx:uD x'≤lV (l.drop i):=ye (by rw[Tz];simp);refine bJ ?_;refine di (fun g5=>?_) (ae rfl);refine a8 ?_;refine zw rfl (ax.cE (ih x' tO row b pv cv bs p' c' M hp mJ (F8.mem x' tO) ad) rfl) ?_;rintro _ _ _ ⟨_,⟨p2,c2,rfl,rfl,rfl⟩,rfl⟩;refine az.cl ?_;refine bJ ?_;refine⟨bQ,i+1,_,zM,?_,⟨rfl,aV,p2,c2,M++ay pr.vars x',by rw[hM,tK _ lF,List.append_assoc],rfl⟩,ad⟩
  ·exact zE
 (have pB:i=l.length:=by omega);subst pB;rw[List.take_length] at hM;refine bm ?_;refine di (fun g6=>?_) (ae rfl);refine dV ?_;(have ag8:M.length≤99999:=by omega);(have gG:L++ay pr.vars (.mk op v k l)=M++[ly pr.vars op v k]:=by rw[hM,ay,List.append_assoc]);rw[gG];by_cases h2:op=2
 ·subst h2;have TA:ly pr.vars 2 v k=⟨2,cellOf pr.vars v,0,k⟩:=rfl;rw[TA];refine dc ?_;refine yC (yd σ b _ _ _ pr v hp hz jx) ?_;refine bJ ?_;refine zw rfl (ax.cE (nQ σ b _ _ _ _ M ⟨2,cellOf pr.vars v,0,k⟩ ad) rfl) ?_;rintro _ _ _ ⟨_,⟨p7,c7,rfl,rfl,rfl⟩,rfl⟩;refine az.cl ?_;refine bS ?_;exact iN rfl ⟨p7,c7,rfl,rfl,rfl⟩
 ·by_cases h3:op=3
  ·subst h3;obtain⟨XS,mK⟩:=VA (.inr rfl);obtain⟨vx,vL⟩:∃vx,pr.vars[v.toNat]? =some vx:=⟨_,b9 ad⟩;(have TB:ly pr.vars 3 v k=⟨3,cellOf pr.vars v,vx.size,k⟩:=by rw[ly,ir,vL];rfl);rw[TB];have lG:=hp;obtain⟨Vn,XU,heq,Mt,XV⟩:=hp;simp only[List.cons.injEq,and_true] at heq;obtain⟨rfl,rfl⟩:=heq;obtain⟨gg,oo,JM,rfl,⟨rfl,⟨Bt,Cu⟩,Bu⟩,mZ,bG⟩:=Mt.at vL;have r1:cH σ gg (oo+v.toNat*2+1) [i64 vx.size]:=bG.sub (j:=1) rfl;refine XA.aI rfl au ?_;refine bg ?_;refine XA.draw aC _ _ [17] [(0,.pu),(1,.pu),(2,.rd),(4,.pu),(5,.pu),(6,.pu),(7,.pu),(8,.rd),(9,.pu),(10,.rd),(11,.pu),(12,.pu),(13,.rd),(3,.wr),(14,.pu),(15,.wr),(16,.pu),(17,.wr)] aC (PH.sub.refl _) (ar.bB (R:=aw b _ _) zL (ar.bB (R:=aw g3 _ _) zL (ar.nil _))) ?_;refine dB ?_;refine aP.fw rfl rfl Gd.free (ax.cE (yd σ b _ _ _ pr v lG hz jx) rfl) ?_;rintro _ _ _ ⟨_,⟨rfl,rfl,rfl⟩,rfl⟩;refine stays (aP.cl ?_);refine bS ?_;refine aP.fw rfl rfl Gd.free (ax.st (ae rfl) rfl) ?_;rintro _ _ _ ⟨rfl,rfl,rfl⟩;refine stays ?_;refine bS ?_;refine kS rfl (ax.st (ae rfl) rfl) ?_;refine a8 ?_;refine zw rfl (ax.cE (nQ σ b _ _ _ _ M ⟨3,cellOf pr.vars v,vx.size,k⟩ ad) rfl) ?_;rintro _ _ _ ⟨_,⟨p7,c7,rfl,rfl,rfl⟩,rfl⟩;refine az.cl ?_;refine bS ?_;exact iN rfl ⟨p7,c7,rfl,rfl,rfl⟩
  ·(have TC:ly pr.vars op v k=⟨op,0,0,k⟩:=by rw[ly,ag ad,ag h3]);rw[TC];refine XA.aI rfl (aE h2) ?_;refine a8 ?_;refine XA.aI rfl (aE h3) ?_;refine a8 ?_;refine zw rfl (ax.cE (nQ σ b _ _ _ _ M ⟨op,0,0,k⟩ ad) rfl) ?_;rintro _ _ _ ⟨_,⟨p7,c7,rfl,rfl,rfl⟩,rfl⟩;refine az.cl ?_;refine bS ?_;exact iN rfl ⟨p7,c7,rfl,rfl,rfl⟩
theorem cI {e size n c:Nat} {p:Option Addr} {xs:List Value} (hn:0<n):∀m,aS e size (.slice p n c) n xs m→∃x:Nat×List Value,(p=some ⟨x.1,0,none⟩∧n≤c∧c≤maxLen∧xs.length=n*size∧c*size≤(xs++x.2).length)∧Sat [aw x.1 (xs++x.2) e] m:=by
 rintro m ⟨h1,⟨h2,rfl⟩|⟨g,cap,h2,cur,h3,h4,h5,h6,h7⟩⟩
 ·exact absurd hn (Nat.lt_irrefl _)
 ·simp only[Value.slice.injEq] at h2;obtain⟨rfl,-,rfl⟩:=h2;refine⟨(g,cur.drop (n*size)),⟨rfl,h4,h5,h1,?_⟩,m,PH.none,?_,trivial,PH.ez m,.refl m,PH.gL m⟩
  ·rw[←h7,List.take_append_drop];exact h6
  ·rw[←h7,List.take_append_drop];exact h3
theorem iT {e size n c g:Nat} {xs rest:List Value} (hl:xs.length=n*size) (hn:n≤c) (hm:c≤maxLen) (hc:c*size≤(xs++rest).length):∀m,Sat [aw g (xs++rest) e] m→aS e size (.slice (some ⟨g,0,none⟩) n c) n xs m:=fun m h=>
 ⟨hl,.inr ⟨g,c,rfl,xs++rest,lk jF h,hn,hm,hc,by rw[←hl];simp⟩⟩
theorem sa (A Z:List In) (x:In) (v:Int) (rest:List Value):aQ (dN (A++x::Z)++rest) (A.length*4+1) [i64 v]=dN (A++{x with a:=v}::Z)++rest:=by
 (have e1:dN (A++x::Z)++rest=(dN A++[i64 x.op])++i64 x.a::([i64 x.b,i64 x.n]++dN Z++rest):=by simp[dN,Oy]);(have e2:dN (A++{x with a:=v}::Z)++rest=(dN A++[i64 x.op])++i64 v::([i64 x.b,i64 x.n]++dN Z++rest):=by simp[dN,Oy]);(have e3:(dN A++[i64 x.op]).length=A.length*4+1:=by rw[bq,mn];rfl);rw[e1,e2,aQ,←e3,List.take_left,List.append_assoc];congr 1;rw[dZ,List.drop_length_add_append];rfl
theorem tQ (vs:List Va) (v:Int) (e f:Ex) (body dn:List St) (k:Nat):bj vs (.mk 5 v e f body dn) k=ay vs e++[⟨13,(k+(ay vs e).length+1+(aK vs body (k+(ay vs e).length+1)).length+1:Nat),0,0⟩]++aK vs body (k+(ay vs e).length+1)++[⟨14,(k:Nat),0,0⟩]:=by rw[bj];rfl
theorem yf (vs:List Va) (v:Int) (e f:Ex) (body dn:List St) (k:Nat):bj vs (.mk 6 v e f body dn) k=ay vs e++[⟨13,(k+(ay vs e).length+1+(aK vs body (k+(ay vs e).length+1)).length+1:Nat),0,0⟩]++aK vs body (k+(ay vs e).length+1)++[⟨14,(k+(ay vs e).length+1+(aK vs body (k+(ay vs e).length+1)).length+1+(aK vs dn (k+(ay vs e).length+1+(aK vs body (k+(ay vs e).length+1)).length+1)).length:Nat),0,0⟩]++aK vs dn (k+(ay vs e).length+1+(aK vs body (k+(ay vs e).length+1)).length+1):=by rw[bj];rfl
def Mu (σ:PH) (pr:Pr) (x:St):Prop:=∀(cs:List Value) (b:Nat) (pv:Option Addr) (cv:Nat) (bs:Value) (p:Option Addr) (c:Nat) (L:List In),
 gT σ [.slice pv pr.vars.length cv,bs] pr→dF σ cs x→D1 pr.vars.length x→L.length+Bq x≤100000→
 ah Tryz.prog 181 #[ptr b,.agg cs.toArray] σ [aw b [.slice pv pr.vars.length cv,bs,.slice p (L).length c] 217,aS 219 4 (.slice p (L).length c) (L).length (dN (L))]
  (aA fun v aj al=>∃p' c',v=.tuple #[]∧σ=aj∧al=[aw b [.slice pv pr.vars.length cv,bs,.slice p' (L++bj pr.vars x L.length).length c'] 217,aS 219 4 (.slice p' (L++bj pr.vars x L.length).length c') (L++bj pr.vars x L.length).length (dN (L++bj pr.vars x L.length))])
theorem yg:∀{l:List St} {x:St},x∈l→Bq x≤fh l
 |y::l,x,h=>by
  rw[fh];rcases List.mem_cons.1 h with rfl|h
  ·omega
  ·have:=yg h;omega
theorem BR (σ:PH) (pr:Pr) (l:List St) (ih:∀x∈l,Mu σ pr x) (sl:Value) (b:Nat) (pv:Option Addr) (cv:Nat) (bs:Value) (p:Option Addr) (c:Nat) (L:List In)
 (hp:gT σ [.slice pv pr.vars.length cv,bs] pr) (hl:bV 12 dF σ sl l) (F8:tM pr.vars.length l) (hN:L.length+fh l≤100000):
 ah Tryz.prog 146 #[ptr b,sl] σ [aw b [.slice pv pr.vars.length cv,bs,.slice p (L).length c] 217,aS 219 4 (.slice p (L).length c) (L).length (dN (L))]
  (aA fun v aj al=>∃p' c',v=.tuple #[]∧σ=aj∧al=[aw b [.slice pv pr.vars.length cv,bs,.slice p' (L++aK pr.vars l L.length).length c'] 217,aS 219 4 (.slice p' (L++aK pr.vars l L.length).length c') (L++aK pr.vars l L.length).length (dN (L++aK pr.vars l L.length))]):=by
 obtain⟨pl,cl,rfl,hle,Hd⟩:=hl.shape;(have hlen:l.length≤100000:=by have:=xp l;omega);(refine cw Tryz.func146 ?_;refine bJ ?_;refine XA.gen [(0,_),(6,_),(7,_),(8,_)] iX fun δ=>?_);dsimp only[List.foldl];refine XA.loop [(5,5),(8,15)] (fun i:Nat=>[(8,i64 i)]) (fun i aj al=>σ=aj∧i≤l.length∧∃(p':Option Addr) (c':Nat) (M:List In),M=L++aK pr.vars (l.take i) L.length∧al=[aw b [.slice pv pr.vars.length cv,bs,.slice p' (M).length c'] 217,aS 219 4 (.slice p' (M).length c') (M).length (dN (M))]) (fun i=>l.length-i) 0 eb (Δ0:=_) ?_ (⟨rfl,cg _,p,c,L,by simp[aK],rfl⟩) ?_
 ·exact zE
 rintro i δ _ _ ⟨rfl,hi,p',c',M,hM,rfl⟩;dsimp only[dq,List.foldl]
 have Oz:M.length+fh (l.drop i)≤100000:=by
  have h2:=pI (l.take i) (l.drop i);rw[List.take_append_drop] at h2;have h3:=eO pr.vars (l.take i) L.length;rw[hM,bq];omega
 refine a8 ?_;refine XA.bE rfl (fun aV=>?_) (fun aV=>?_)
 ·(have aV:i<l.length:=by omega);obtain⟨x',lF⟩:∃x',l[i]? =some x':=⟨_,b9 aV⟩;obtain⟨g,o,row,rfl,mJ,mZ,bG⟩:=hl.at lF;have tO:=fg lF;have jd:=mJ.dT;have Tz:l.drop i=x'::l.drop (i+1):=eC lF;have hNx:Bq x'≤fh (l.drop i):=yg (by rw[Tz];simp);refine bJ ?_;refine di (fun g5=>?_) (ae rfl);refine a8 ?_;refine zw rfl (ax.cE (ih x' tO row b pv cv bs p' c' M hp mJ (F8.mem x' tO) ad) rfl) ?_;rintro _ _ _ ⟨_,⟨p2,c2,rfl,rfl,rfl⟩,rfl⟩;refine az.cl ?_;refine bJ ?_;refine⟨bQ,i+1,_,zM,?_,⟨rfl,aV,p2,c2,M++bj pr.vars x' M.length,by rw[hM,tL _ lF,List.append_assoc,bq],rfl⟩,ad⟩
  ·exact zE
 (have pB:i=l.length:=by omega);subst pB;rw[List.take_length] at hM;rw[←hM];refine bY ?_;exact iN rfl ⟨p',c',rfl,rfl,rfl⟩
theorem TD (σ:PH) (pr:Pr) (hz:∀x∈pr.vars,0≤x.size∧x.size≤1000) (jx:pr.vars.length≤1000) (x:St):Mu σ pr x:=by
 refine St.ind (P:=Mu σ pr) ?_ x;intro op v ex fx body dn ih jh cs b pv cv bs p c L hp hx hV hN;obtain⟨pe,de,pf,df,pb,cb,pl,cl,rfl,-,-,jB,y0,sY,wc⟩:=hx.Ad;simp only[St.op,St.v,St.e,St.f,St.body,St.dn] at jB y0 sY wc⊢;clear hx;rw[D1] at hV;obtain⟨uF,hv,he,hf,-,-,o6,mG⟩:=hV;rw[Bq] at hN;have TE:=iI pr.vars ex;have hlF:=iI pr.vars fx;have e1:=lj ex;have e2:=lj fx;(have Mv:op=1∨op=2∨op=3∨op=4∨op=7∨op=5∨op=6:=by omega);rcases Mv with rfl|rfl|rfl|rfl|rfl|XM
 ·(have hc:bj pr.vars (.mk 1 v ex fx body dn) L.length=ay pr.vars ex++[⟨9,cellOf pr.vars v,0,0⟩]:=by rw[bj];rfl);rw[hc,←List.append_assoc];(refine cw Tryz.func181 ?_;refine aU ?_;refine cP fun g3=>?_;refine dV ?_;refine yC (jt σ 1) ?_;refine rM ?_);refine zw rfl (ax.cE (u4 σ pr hz jx ex _ b pv cv bs p c (L) hp jB (he rfl).1 nD) rfl) ?_;rintro _ _ _ ⟨_,⟨p2,c2,rfl,rfl,rfl⟩,rfl⟩;refine az.cl ?_;refine ra ?_;refine yC (yd σ b _ _ _ pr v hp hz jx) ?_;refine bS ?_;refine zw rfl (ax.cE (nQ σ b _ _ _ _ (L++ay pr.vars ex) ⟨9,cellOf pr.vars v,0,0⟩ nD) rfl) ?_;rintro _ _ _ ⟨_,⟨p7,c7,rfl,rfl,rfl⟩,rfl⟩;refine az.cl ?_;refine aU ?_;exact iN rfl ⟨p7,c7,rfl,rfl,rfl⟩
 ·obtain⟨XS,mK⟩:=hv rfl;obtain⟨vx,vL⟩:∃vx,pr.vars[v.toNat]? =some vx:=⟨_,b9 ad⟩;(have hc:bj pr.vars (.mk 2 v ex fx body dn) L.length=ay pr.vars ex++ay pr.vars fx++[⟨10,cellOf pr.vars v,vx.size,0⟩]:=by rw[bj,ir,vL];rfl);rw[hc,←List.append_assoc,←List.append_assoc];have lG:=hp;obtain⟨Vn,XU,heq,Mt,XV⟩:=lG;simp only[List.cons.injEq,and_true] at heq;obtain⟨rfl,rfl⟩:=heq;obtain⟨gg,oo,JM,rfl,⟨rfl,⟨Bt,Cu⟩,Bu⟩,mZ,bG⟩:=Mt.at vL;have r1:cH σ gg (oo+v.toNat*2+1) [i64 vx.size]:=bG.sub (j:=1) rfl;(refine cw Tryz.func181 ?_;refine aU ?_;refine cP fun g3=>?_;refine dV ?_;refine yC (jt σ 2) ?_;refine rM ?_);refine zw rfl (ax.cE (u4 σ pr hz jx ex _ b _ cv bs p c (L) hp jB (he rfl).1 nD) rfl) ?_;rintro _ _ _ ⟨_,⟨p2,c2,rfl,rfl,rfl⟩,rfl⟩;refine az.cl ?_;refine nC ?_;refine zw rfl (ax.cE (u4 σ pr hz jx fx _ b _ cv bs p2 c2 (L++ay pr.vars ex) hp y0 (hf rfl).1 nD) rfl) ?_;rintro _ _ _ ⟨_,⟨p3,c3,rfl,rfl,rfl⟩,rfl⟩;refine az.cl ?_;refine aU ?_;refine XA.draw aC _ _ [16] [(0,.pu),(1,.pu),(2,.pu),(3,.rd),(5,.pu),(6,.pu),(7,.pu),(8,.pu),(9,.rd),(10,.pu),(11,.rd),(12,.pu),(13,.pu),(14,.rd),(4,.wr),(15,.pu),(16,.wr)] aC (PH.sub.refl _) (ar.bB (R:=aw b _ _) zL (ar.bB (R:=aw g3 _ _) zL (ar.nil _))) ?_;refine eA ?_;refine aP.fw rfl rfl Gd.free (ax.cE (yd σ b _ _ _ pr v hp hz jx) rfl) ?_;rintro _ _ _ ⟨_,⟨rfl,rfl,rfl⟩,rfl⟩;refine stays (aP.cl ?_);refine bS ?_;refine aP.b7 rfl rfl Gd.free aC (ax.cE (nQ σ b _ _ _ _ (L++ay pr.vars ex++ay pr.vars fx) ⟨10,cellOf pr.vars v,vx.size,0⟩ nD) rfl) ?_;rintro _ _ _ ⟨_,⟨p7,c7,rfl,rfl,rfl⟩,rfl⟩;refine aP.cl ?_;refine aU ?_;exact iN rfl ⟨p7,c7,rfl,rfl,rfl⟩
 ·(have hc:bj pr.vars (.mk 3 v ex fx body dn) L.length=ay pr.vars ex++[⟨11,0,0,0⟩]:=by rw[bj];rfl);rw[hc,←List.append_assoc];(refine cw Tryz.func181 ?_;refine aU ?_;refine cP fun g3=>?_;refine dV ?_;refine yC (jt σ 3) ?_;refine rM ?_);refine zw rfl (ax.cE (u4 σ pr hz jx ex _ b pv cv bs p c (L) hp jB (he rfl).1 nD) rfl) ?_;rintro _ _ _ ⟨_,⟨p2,c2,rfl,rfl,rfl⟩,rfl⟩;refine az.cl ?_;refine Je ?_;refine zw rfl (ax.cE (nQ σ b _ _ _ _ (L++ay pr.vars ex) ⟨11,0,0,0⟩ nD) rfl) ?_;rintro _ _ _ ⟨_,⟨p7,c7,rfl,rfl,rfl⟩,rfl⟩;refine az.cl ?_;refine aU ?_;exact iN rfl ⟨p7,c7,rfl,rfl,rfl⟩
 ·(have hc:bj pr.vars (.mk 4 v ex fx body dn) L.length=[⟨12,cellOf pr.vars v,0,0⟩]:=by rw[bj];rfl);rw[hc];(refine cw Tryz.func181 ?_;refine aU ?_;refine cP fun g3=>?_;refine dV ?_;refine yC (jt σ 4) ?_;refine aaH ?_;refine a8 ?_;refine yC (yd σ b _ _ _ pr v hp hz jx) ?_;refine bS ?_);refine zw rfl (ax.cE (nQ σ b _ _ _ _ (L) ⟨12,cellOf pr.vars v,0,0⟩ nD) rfl) ?_;rintro _ _ _ ⟨_,⟨p7,c7,rfl,rfl,rfl⟩,rfl⟩;refine az.cl ?_;refine aU ?_;exact iN rfl ⟨p7,c7,rfl,rfl,rfl⟩
 ·(have hc:bj pr.vars (.mk 7 v ex fx body dn) L.length=[⟨15,0,0,0⟩]:=by rw[bj];rfl);rw[hc];(refine cw Tryz.func181 ?_;refine aU ?_;refine cP fun g3=>?_;refine dV ?_;refine yC (jt σ 7) ?_;refine lR ?_;refine dC ?_;(iterate 3 (refine bg ?_));refine bJ ?_;refine a8 ?_;refine bg ?_;refine bY ?_);refine zw rfl (ax.cE (nQ σ b _ _ _ _ (L) ⟨15,0,0,0⟩ nD) rfl) ?_;rintro _ _ _ ⟨_,⟨p7,c7,rfl,rfl,rfl⟩,rfl⟩;refine az.cl ?_;refine aU ?_;exact iN rfl ⟨p7,c7,rfl,rfl,rfl⟩
 ·rcases XM with rfl|rfl
  ·obtain⟨L1,kN⟩:∃L1,L1=L++ay pr.vars ex:=⟨_,rfl⟩;(have Mw:L1.length=L.length+uD ex:=by rw[kN,bq,TE]);obtain⟨B,hB⟩:∃B,B=aK pr.vars body (L1++[(⟨13,0,0,0⟩:In)]).length:=⟨_,rfl⟩;(have hBl:B.length≤fh body:=by rw[hB];exact eO _ _ _);(have mP:aK pr.vars body (L.length+(ay pr.vars ex).length+1)=B:=by rw[hB];congr 1;rw[bq,Mw,TE];rfl);obtain⟨O,hO⟩:∃O,O=L1++[(⟨13,0,0,0⟩:In)]++B:=⟨_,rfl⟩;(have hOl:O.length=L1.length+B.length+1:=by rw[hO];simp only[bq,dZ];omega);obtain⟨M,hM⟩:∃M,M=O++[(⟨14,L.length,0,0⟩:In)]:=⟨_,rfl⟩;(have Oz:M.length=L1.length+B.length+2:=by rw[hM,hO];simp only[bq,dZ];omega);obtain⟨M',JF⟩:∃M',M'=L1++[(⟨13,M.length,0,0⟩:In)]++B++[⟨14,L.length,0,0⟩]:=⟨_,rfl⟩;have JN:M'.length=M.length:=by rw[Oz,JF];simp only[bq,dZ];omega
   have Mx:∀rest:List Value,aQ (dN M++rest) (L1.length*4+1) [i64 M.length]=dN M'++rest:=fun rest=>by
    have:=sa L1 (B++[⟨14,L.length,0,0⟩]) ⟨13,0,0,0⟩ M.length rest;rw[JF,hM,hO];simp only[List.append_assoc,List.singleton_append,List.cons_append,List.nil_append] at this⊢;rw[hM,hO] at this;simpa only[List.append_assoc,List.singleton_append,List.cons_append,List.nil_append] using this
   have hc:L++bj pr.vars (.mk 5 v ex fx body dn) L.length=M':=by
    rw[tQ,mP,JF,Oz,Mw,kN,TE];simp only[List.append_assoc];rw[show L.length+uD ex+1+B.length+1=L.length+uD ex+B.length+2 by omega]
   rw[hc];(refine cw Tryz.func181 ?_;refine aU ?_;refine cP fun g3=>?_;refine dV ?_;refine yC (jt σ 5) ?_;refine lR ?_;refine dc ?_);refine zw rfl (ax.cE (u4 σ pr hz jx ex _ b pv cv bs p c (L) hp jB (he rfl).1 nD) rfl) ?_;rintro _ _ _ ⟨_,⟨p2,c2,rfl,rfl,rfl⟩,rfl⟩;refine az.cl ?_;refine dh ?_;rw[←kN];(iterate 3 (refine bg ?_));refine bJ ?_;refine cx ?_;refine dc ?_;refine zw rfl (ax.cE (nQ σ b _ _ _ _ L1 ⟨13,0,0,0⟩ ad) rfl) ?_;rintro _ _ _ ⟨_,⟨p3,c3,rfl,rfl,rfl⟩,rfl⟩;refine az.cl ?_;refine bJ ?_;refine zw rfl (ax.cE (BR σ pr body ih _ b pv cv bs p3 c3 (L1++[⟨13,0,0,0⟩]) hp sY o6 nD) rfl) ?_;rintro _ _ _ ⟨_,⟨p4,c4,rfl,rfl,rfl⟩,rfl⟩;refine az.cl ?_;rw[←hB,←hO];refine bg ?_;refine zw rfl (ax.cE (nQ σ b _ _ _ _ O ⟨14,L.length,0,0⟩ ad) rfl) ?_;rintro _ _ _ ⟨_,⟨p5,c5,rfl,rfl,rfl⟩,rfl⟩;refine az.cl ?_;rw[←hM];(first|refine XA.aW (R:=aS 219 4 (.slice p5 M.length c5) _ _) zL (cI ad) ?_|refine az.aW (R:=aS 219 4 (.slice p5 M.length c5) _ _) zL (cI ad) ?_|refine DA.aW (R:=aS 219 4 (.slice p5 M.length c5) _ _) zL (cI ad) ?_);rintro⟨g5,nR⟩ ⟨rfl,Vv,hm5,hx5,TF⟩;refine gX ?_;have iP:=Mx nR;have pB:=mn M;(have TG:(dN M').length=M.length*4:=by rw[mn,JN]);have TF:c5*4≤(dN M++nR).length:=TF;(have gf:L1.length*4+1+OW.size≤(dN M++nR).length:=by rw[bq,pB];show L1.length*4+1+1≤_;omega);(have fG:c5*4≤(dN M'++nR).length:=by rw[bq] at TF⊢;omega);refine bY ?_;refine et 13 1069470 [12] (ar.bB (R:=aw b _ _) zL (ar.nil _)) ?_;refine bm ?_;refine kS rfl (ax.st (ae rfl) rfl) ?_;refine bt ?_;refine cx ?_;refine DA.eX (ar.eT (Θ:=[aw g5 (dN M'++nR) 219]) zD (iT (n:=M.length) (c:=c5) (rest:=nR) TG Vv hm5 fG) (ar.refl _)) ?_;rw[JN];exact iN rfl ⟨some ⟨g5,0,none⟩,c5,rfl,rfl,rfl⟩
  ·obtain⟨L1,kN⟩:∃L1,L1=L++ay pr.vars ex:=⟨_,rfl⟩;(have Mw:L1.length=L.length+uD ex:=by rw[kN,bq,TE]);obtain⟨B,hB⟩:∃B,B=aK pr.vars body (L1++[(⟨13,0,0,0⟩:In)]).length:=⟨_,rfl⟩;(have hBl:B.length≤fh body:=by rw[hB];exact eO _ _ _);(have mP:aK pr.vars body (L.length+(ay pr.vars ex).length+1)=B:=by rw[hB];congr 1;rw[bq,Mw,TE];rfl);obtain⟨O,hO⟩:∃O,O=L1++[(⟨13,0,0,0⟩:In)]++B:=⟨_,rfl⟩;(have hOl:O.length=L1.length+B.length+1:=by rw[hO];simp only[bq,dZ];omega);obtain⟨M,hM⟩:∃M,M=O++[(⟨14,L.length,0,0⟩:In)]:=⟨_,rfl⟩;(have Oz:M.length=L1.length+B.length+2:=by rw[hM,hO];simp only[bq,dZ];omega);obtain⟨M',JF⟩:∃M',M'=L1++[(⟨13,M.length,0,0⟩:In)]++B++[⟨14,L.length,0,0⟩]:=⟨_,rfl⟩;have JN:M'.length=M.length:=by rw[Oz,JF];simp only[bq,dZ];omega
   have Mx:∀rest:List Value,aQ (dN M++rest) (L1.length*4+1) [i64 M.length]=dN M'++rest:=fun rest=>by
    have:=sa L1 (B++[⟨14,L.length,0,0⟩]) ⟨13,0,0,0⟩ M.length rest;rw[JF,hM,hO];simp only[List.append_assoc,List.singleton_append,List.cons_append,List.nil_append] at this⊢;rw[hM,hO] at this;simpa only[List.append_assoc,List.singleton_append,List.cons_append,List.nil_append] using this
   obtain⟨Eb,TH⟩:∃Eb,Eb=aK pr.vars dn M.length:=⟨_,rfl⟩;(have hEl:Eb.length≤fh dn:=by rw[TH];exact eO _ _ _);obtain⟨M2,hM2⟩:∃M2,M2=M'++Eb:=⟨_,rfl⟩;(have XW:M2.length=M.length+Eb.length:=by rw[hM2,bq,JN]);obtain⟨M3,hM3⟩:∃M3,M3=L1++[(⟨13,M.length,0,0⟩:In)]++B++[⟨14,M2.length,0,0⟩]++Eb:=⟨_,rfl⟩;have XX:M3.length=M2.length:=by rw[XW,Oz,hM3];simp only[bq,dZ];omega
   have XY:∀rest:List Value,aQ (dN M2++rest) (O.length*4+1) [i64 M2.length]=dN M3++rest:=fun rest=>by
    have:=sa (L1++[(⟨13,M.length,0,0⟩:In)]++B) Eb ⟨14,L.length,0,0⟩ M2.length rest;(have e:(L1++[(⟨13,M.length,0,0⟩:In)]++B).length=O.length:=by rw[hOl];simp only[bq,dZ];omega);rw[e] at this;rw[hM3];(have e2:dN M2=dN (L1++[(⟨13,M.length,0,0⟩:In)]++B++⟨14,L.length,0,0⟩::Eb):=by rw[hM2,JF];simp only[List.append_assoc,List.singleton_append,List.cons_append,List.nil_append]);rw[e2,this];simp only[List.append_assoc,List.singleton_append,List.cons_append,List.nil_append]
   have hc:L++bj pr.vars (.mk 6 v ex fx body dn) L.length=M3:=by
    (have e1:L.length+(ay pr.vars ex).length+1+B.length+1=M.length:=by rw[Oz,Mw,TE];omega);rw[yf,mP,e1,←TH,hM3,kN,XW];simp only[List.append_assoc]
   rw[hc];(have RA:=fun p c=>BR σ pr dn jh (.slice pl dn.length cl) b pv cv bs p c M' hp wc mG ad);rw[JN,←TH,←hM2] at RA;(refine cw Tryz.func181 ?_;refine aU ?_;refine cP fun g3=>?_;refine dV ?_;refine yC (jt σ 6) ?_;refine lR ?_;refine dc ?_);refine zw rfl (ax.cE (u4 σ pr hz jx ex _ b pv cv bs p c (L) hp jB (he rfl).1 nD) rfl) ?_;rintro _ _ _ ⟨_,⟨p2,c2,rfl,rfl,rfl⟩,rfl⟩;refine az.cl ?_;refine dh ?_;rw[←kN];(iterate 3 (refine bg ?_));refine bJ ?_;refine a8 ?_;refine dc ?_;refine zw rfl (ax.cE (nQ σ b _ _ _ _ L1 ⟨13,0,0,0⟩ ad) rfl) ?_;rintro _ _ _ ⟨_,⟨p3,c3,rfl,rfl,rfl⟩,rfl⟩;refine az.cl ?_;refine bJ ?_;refine zw rfl (ax.cE (BR σ pr body ih _ b pv cv bs p3 c3 (L1++[⟨13,0,0,0⟩]) hp sY o6 nD) rfl) ?_;rintro _ _ _ ⟨_,⟨p4,c4,rfl,rfl,rfl⟩,rfl⟩;refine az.cl ?_;rw[←hB,←hO];refine bg ?_;refine zw rfl (ax.cE (nQ σ b _ _ _ _ O ⟨14,L.length,0,0⟩ ad) rfl) ?_;rintro _ _ _ ⟨_,⟨p5,c5,rfl,rfl,rfl⟩,rfl⟩;refine az.cl ?_;rw[←hM];(first|refine XA.aW (R:=aS 219 4 (.slice p5 M.length c5) _ _) zL (cI ad) ?_|refine az.aW (R:=aS 219 4 (.slice p5 M.length c5) _ _) zL (cI ad) ?_|refine DA.aW (R:=aS 219 4 (.slice p5 M.length c5) _ _) zL (cI ad) ?_);rintro⟨g5,nR⟩ ⟨rfl,Vv,hm5,hx5,TF⟩;refine gX ?_;have iP:=Mx nR;have pB:=mn M;(have TG:(dN M').length=M.length*4:=by rw[mn,JN]);have TF:c5*4≤(dN M++nR).length:=TF;(have gf:L1.length*4+1+OW.size≤(dN M++nR).length:=by rw[bq,pB];show L1.length*4+1+1≤_;omega);(have fG:c5*4≤(dN M'++nR).length:=by rw[bq] at TF⊢;omega);refine bY ?_;refine et 13 1069470 [12] (ar.bB (R:=aw b _ _) zL (ar.nil _)) ?_;refine bm ?_;refine kS rfl (ax.st (ae rfl) rfl) ?_;refine bt ?_;refine a8 ?_;refine az.eX (ar.eT (Θ:=[aw g5 (dN M'++nR) 219]) zD (iT (n:=M.length) (c:=c5) (rest:=nR) TG Vv hm5 fG) (ar.refl _)) ?_;clear iP gf;refine zw rfl (ax.cE (RA _ _) rfl) ?_;rintro _ _ _ ⟨_,⟨p6,c6,rfl,rfl,rfl⟩,rfl⟩;refine az.cl ?_;(first|refine XA.aW (R:=aS 219 4 (.slice p6 M2.length c6) _ _) zL (cI ad) ?_|refine az.aW (R:=aS 219 4 (.slice p6 M2.length c6) _ _) zL (cI ad) ?_|refine DA.aW (R:=aS 219 4 (.slice p6 M2.length c6) _ _) zL (cI ad) ?_);rintro⟨g6,AI⟩ ⟨rfl,hc6,hm6,hx6,hr6⟩;refine gX ?_;have iP:=XY AI;have XZ:=mn M2;(have abF:(dN M3).length=M2.length*4:=by rw[mn,XX]);have hr6:c6*4≤(dN M2++AI).length:=hr6;(have gf:O.length*4+1+OW.size≤(dN M2++AI).length:=by rw[bq,XZ];show O.length*4+1+1≤_;omega);(have abG:c6*4≤(dN M3++AI).length:=by rw[bq] at hr6⊢;omega);refine aU ?_;refine et 13 1069470 [12] (ar.bB (R:=aw b _ _) zL (ar.nil _)) ?_;refine bm ?_;refine kS rfl (ax.st (ae rfl) rfl) ?_;refine aU ?_;refine DA.eX (ar.eT (Θ:=[aw g6 (dN M3++AI) 219]) zD (iT (n:=M2.length) (c:=c6) (rest:=AI) abF hc6 hm6 abG) (ar.refl _)) ?_;rw[XX];exact iN rfl ⟨some ⟨g6,0,none⟩,c6,rfl,rfl,rfl⟩
def tR:RT In:=fun _ cs i=>cs=Oy i
theorem size_le:∀{l:List Va},(∀x∈l,1≤x.size)→∀x∈l,x.size≤sizes l
 |y::l,h,x,hx=>by
  have h1:=h y aZ;have h2:=ef (l:=l) (fun z hz=>h z (by simp[hz]));rw[ot];rcases List.mem_cons.1 hx with rfl|hx
  ·omega
  ·have:=size_le (l:=l) (fun z hz=>h z (by simp[hz])) x hx;omega
theorem kK {p:Pr} (h:bZ p=0):(∀x∈p.vars,0≤x.size∧x.size≤1000)∧p.vars.length≤1000:=by
 obtain⟨-,h1,h2,h3⟩:=dw h;exact⟨fun x hx=>by have a:=h2 x hx;have b:=size_le h2 x hx;omega,ad⟩
theorem Ic (σ:PH) (l:List In):cN 4 tR σ (l.map Oy) l:=
 ⟨aZ,fun r hr=>by obtain⟨i,-,rfl⟩:=List.mem_map.1 hr;rfl,fun k r x hr hx=>by rw[List.getElem?_map,hx] at hr;simpa[tR] using hr.symm⟩
theorem sf (p:Pr):(ak p).length≤fh p.body+1:=by rw[ak,bq];have:=eO p.vars p.body 0;simp;omega
theorem My (σ:PH) (cs:List Value) (p:Pr) (hp:gT σ cs p) (hN:fh p.body≤10000):
 ah Tryz.prog 104 #[.agg cs.toArray] σ [] (aA fun v aj al=>∃sl,v=.tuple #[sl,i64 (bZ p)]∧bV 4 tR aj sl (if bZ p=0 then ak p else [])∧σ.sub aj∧al=[]):=by
 have lG:=hp;obtain⟨vs,bs,rfl,hv,hb⟩:=hp;obtain⟨pv,cv,rfl,jx,Hf⟩:=hv.shape;refine cM Tryz.func104 ?_;refine aU ?_;refine cP fun g1=>?_;refine bJ ?_;refine yC (oz σ _ p lG) ?_;refine bt ?_;refine XA.bE rfl (fun hc=>?_) (fun hc=>?_)
 ·refine bt ?_;rw[ag hc];exact ao.ret (aB.two rfl rfl rfl) (ar.nil _) ⟨_,rfl,bV.nil _ _ _,.refl _,rfl⟩
 (have hc:bZ p=0:=by omega);obtain⟨hz,hl⟩:=kK hc;obtain⟨hV,-,-,-⟩:=dw hc;(refine a8 ?_;refine cP fun g13=>?_;refine bJ ?_);(have RA:=fun b=>BR σ p p.body (fun x _=>TD σ p hz hl x) bs b pv cv bs none 0 [] lG hb hV (by simp only[List.length_nil];omega));simp only[List.nil_append,List.length_nil,show dN []=[] from rfl] at RA;refine zw rfl (ax.cE (RA _) rfl) ?_;rintro _ _ _ ⟨_,⟨p7,c7,rfl,rfl,rfl⟩,rfl⟩;refine az.cl ?_;have Kt:=eO p.vars p.body 0;refine a8 ?_;refine zw rfl (ax.cE (nQ σ _ _ _ _ _ (aK p.vars p.body 0) ⟨16,0,0,0⟩ ad) rfl) ?_;rintro _ _ _ ⟨_,⟨p8,c8,rfl,rfl,rfl⟩,rfl⟩;refine az.cl ?_;refine dB ?_;refine DA.mX (R:=aS 219 4 _ _ _) zL cm aH ?_;rintro fZ ⟨⟩ hf cQ;rw[aq hc,hc];exact ao.ret (aB.two rfl rfl rfl) (ar.nil _) ⟨_,rfl,(Ic fZ (ak p)).Cx rfl hf,cQ,rfl⟩
def tU (c:Int):List PanicEntry:=[{v:=.iface 173 (i64 c),recovered:=false}]
theorem BS (σ:PH) (is:Bool) (c:Int) (h:is=true):ah Tryz.prog 155 #[.bool is,i64 c] σ [] (na fun ch aj al=>ch=tU c∧σ=aj∧al=[]):=by
 subst h;refine cw Tryz.func155 ?_;refine bJ ?_;refine zO rfl (Rd.mkI (ae rfl) rfl rfl) ?_;refine az.throw rfl rfl ?_;refine fL ?_;exact ao.panic zE ⟨rfl,rfl,rfl⟩
theorem F9 (σ:PH) (is:Bool) (c:Int) (h:is=false):ah Tryz.prog 155 #[.bool is,i64 c] σ [] (aA fun v aj al=>v=.tuple #[]∧σ=aj∧al=[]):=by
 subst h;refine cw Tryz.func155 ?_;refine bg ?_;exact iN rfl ⟨rfl,rfl,rfl⟩
theorem nS (σ:PH) (b:Nat) (v0 v1 v2 v3 v4:Value):
 ah Tryz.prog 112 #[ptr b] σ [aw b [v0,v1,v2,v3,v4,i64 0] 172] (na fun ch aj al=>ch=tU 13∧σ=aj∧al=[aw b [v0,v1,v2,v3,v4,i64 0] 172]):=by
 refine cM Tryz.func112 ?_;refine bg ?_;refine az.die rfl (BS σ _ 13 (aM rfl)) rfl ?_;rintro _ _ _ ⟨rfl,rfl,rfl⟩;refine DA.cl ?_;refine fL ?_;exact ao.panic zE ⟨rfl,rfl,rfl⟩
theorem jy (σ:PH) (b:Nat) (v0 v1 v2 v3 v4:Value) (f:Nat) (h1:f<1000000):
 ah Tryz.prog 112 #[ptr b] σ [aw b [v0,v1,v2,v3,v4,i64 ((f+1:Nat):Int)] 172] (aA fun v aj al=>v=.tuple #[]∧σ=aj∧al=[aw b [v0,v1,v2,v3,v4,i64 f] 172]):=by
 (have e:(f:Int)=((f+1:Nat):Int)-1:=by omega);rw[e];refine cM Tryz.func112 ?_;refine bg ?_;refine zw rfl (ax.cE (F9 σ _ 13 (aE ad)) rfl) ?_;rintro _ _ _ ⟨_,⟨rfl,rfl,rfl⟩,rfl⟩;refine az.cl ?_;refine bm ?_;exact iN rfl ⟨rfl,rfl,rfl⟩
theorem Mz (σ:PH) (b:Bool):ah Tryz.prog 222 #[.bool b] σ [] (aA fun v aj al=>v=i64 (if b then 1 else 0)∧σ=aj∧al=[]):=by
 cases b with
 |true=>
  refine cM Tryz.func222 ?_;refine iA ?_;exact bC rfl rfl ⟨rfl,rfl,rfl⟩
 |false=>
  refine cM Tryz.func222 ?_;refine mI ?_;exact bC rfl rfl ⟨rfl,rfl,rfl⟩
theorem X0 (σ:PH) (b:Nat) (pr:Pr) (pv:Option Addr) (cv:Nat) (bs v2 v3 v4 v5:Value) (v k:Int) (hp:gT σ [.slice pv pr.vars.length cv,bs] pr) (hz:∀x∈pr.vars,0≤x.size∧x.size≤1000) (jx:pr.vars.length≤1000) (hv:0≤v∧v<pr.vars.length) (hk:k<0∨ir pr.vars v≤k):ah Tryz.prog 189 #[ptr b,i64 v,i64 k] σ [aw b [.slice pv pr.vars.length cv,bs,v2,v3,v4,v5] 172] (na fun ch aj al=>ch=tU 11∧σ=aj∧al=[aw b [.slice pv pr.vars.length cv,bs,v2,v3,v4,v5] 172]):=by
 obtain⟨vx,vL⟩:∃vx,pr.vars[v.toNat]? =some vx:=⟨_,b9 ad⟩;rw[nP vL] at hk;obtain⟨Vn,XU,heq,Mt,XV⟩:=hp;simp only[List.cons.injEq,and_true] at heq;obtain⟨rfl,rfl⟩:=heq;obtain⟨gg,oo,JM,rfl,⟨rfl,⟨Bt,Cu⟩,Bu⟩,mZ,bG⟩:=Mt.at vL;have r1:cH σ gg (oo+v.toNat*2+1) [i64 vx.size]:=bG.sub (j:=1) rfl;obtain⟨XS,mK⟩:=hv;by_cases h0:k<0
 ·refine lS Tryz.func189 ?_;refine px ?_;refine az.die rfl (BS σ _ 11 rfl) rfl ?_;rintro _ _ _ ⟨rfl,rfl,rfl⟩;refine DA.cl ?_;refine fL ?_;exact ao.panic zE ⟨rfl,rfl,rfl⟩
 ·refine lS Tryz.func189 ?_;refine px ?_;refine az.die rfl (BS σ _ 11 (aM ad)) rfl ?_;rintro _ _ _ ⟨rfl,rfl,rfl⟩;refine DA.cl ?_;refine fL ?_;exact ao.panic zE ⟨rfl,rfl,rfl⟩
theorem MA (σ:PH) (b:Nat) (pr:Pr) (pv:Option Addr) (cv:Nat) (bs v2 v3 v4 v5:Value) (v k:Int) (hp:gT σ [.slice pv pr.vars.length cv,bs] pr) (hz:∀x∈pr.vars,0≤x.size∧x.size≤1000) (jx:pr.vars.length≤1000) (hv:0≤v∧v<pr.vars.length) (h0:0≤k) (hk:k<ir pr.vars v):ah Tryz.prog 189 #[ptr b,i64 v,i64 k] σ [aw b [.slice pv pr.vars.length cv,bs,v2,v3,v4,v5] 172] (aA fun r aj al=>r=i64 (cellOf pr.vars v+k)∧σ=aj∧al=[aw b [.slice pv pr.vars.length cv,bs,v2,v3,v4,v5] 172]):=by
 have lG:=hp;obtain⟨vx,vL⟩:∃vx,pr.vars[v.toNat]? =some vx:=⟨_,b9 ad⟩;have ZC:=hz vx (fg vL);rw[nP vL] at hk;obtain⟨Vn,XU,heq,Mt,XV⟩:=hp;simp only[List.cons.injEq,and_true] at heq;obtain⟨rfl,rfl⟩:=heq;obtain⟨gg,oo,JM,rfl,⟨rfl,⟨Bt,Cu⟩,Bu⟩,mZ,bG⟩:=Mt.at vL;have r1:cH σ gg (oo+v.toNat*2+1) [i64 vx.size]:=bG.sub (j:=1) rfl;have Xg:=mQ (pr.vars.take v.toNat) (fun y hy=>hz y (List.mem_of_mem_take hy));(have fG:((pr.vars.take v.toNat).length:Int)≤1000:=by rw[List.length_take];omega);have eL:cellOf pr.vars v=sizes (pr.vars.take v.toNat):=rfl;obtain⟨XS,mK⟩:=hv;(have o5:¬k<0:=by omega);refine lS Tryz.func189 ?_;refine px ?_;refine zw rfl (ax.cE (F9 σ _ 11 (aE ad)) rfl) ?_;rintro _ _ _ ⟨_,⟨rfl,rfl,rfl⟩,rfl⟩;refine az.cl ?_;refine bt ?_;refine yC (FF σ _ pr v lG hz jx) ?_;refine a8 ?_;exact bC rfl rfl ⟨rfl,rfl,rfl⟩
def RB (σ:PH) (pr:Pr) (x:Ex):Prop:=∀(cs:List Value) (b:Nat) (pv:Option Addr) (cv:Nat) (bs:Value) (gc nc:Nat) (cells:List Int) (vi vo:Value) (f:Nat),
 gT σ [.slice pv pr.vars.length cv,bs] pr→dL σ cs x→uo pr.vars.length x→cells.length=nc→(nc:Int)=sizes pr.vars→f<1000000→
 (∀v f',dx pr.vars cells x f=.ok (v,f')→ah Tryz.prog 188 #[ptr b,.agg cs.toArray] σ [aw b [.slice pv pr.vars.length cv,bs,.slice (some ⟨gc,0,none⟩) nc nc,vi,vo,i64 f] 172,aw gc (ints cells) 2] (aA fun r aj al=>r=i64 v∧σ=aj∧al=[aw b [.slice pv pr.vars.length cv,bs,.slice (some ⟨gc,0,none⟩) nc nc,vi,vo,i64 f'] 172,aw gc (ints cells) 2]))∧
 (∀c f',dx pr.vars cells x f=.error (c,f')→ah Tryz.prog 188 #[ptr b,.agg cs.toArray] σ [aw b [.slice pv pr.vars.length cv,bs,.slice (some ⟨gc,0,none⟩) nc nc,vi,vo,i64 f] 172,aw gc (ints cells) 2] (na fun ch aj al=>ch=tU c∧σ=aj∧al=[aw b [.slice pv pr.vars.length cv,bs,.slice (some ⟨gc,0,none⟩) nc nc,vi,vo,i64 f'] 172,aw gc (ints cells) 2]))
theorem Ie {l:List Int} {i:Nat} (h:i<l.length):(ints l)[i]? =some (i64 (l.getD i 0)):=by
 simp[ints,List.getElem?_map,b9 h]
theorem MB {α:Type} {l:List α} (h:(l.length:Int)=0):l=[]:=List.eq_nil_of_length_eq_zero ad
theorem TI {α:Type} {l:List α} (h:(l.length:Int)=1):∃x,l=[x]:=by
 match l,h with
 |[x],_=>exact⟨x,rfl⟩
 |[],h=>simp at h
 |_::_::_,h=>simp at h;omega
theorem TJ {α:Type} {l:List α} (h:(l.length:Int)=2):∃x y,l=[x,y]:=by
 match l,h with
 |[x,y],_=>exact⟨x,y,rfl⟩
 |[],h=>simp at h
 |[_],h=>simp at h
 |_::_::_::_,h=>simp at h;omega
theorem yh (σ:PH) (pr:Pr) (h1:∀x∈pr.vars,1≤x.size) (hz:∀x∈pr.vars,0≤x.size∧x.size≤1000) (jx:pr.vars.length≤1000) (x:Ex):RB σ pr x:=by
 refine Ex.ind (P:=RB σ pr) ?_ x;intro op v k l ih cs b pv cv bs gc nc cells vi vo f hp hx hV CV gO hf;obtain⟨pl,cl,rfl,ho,hv,hk,hl⟩:=hx.inv;simp only[Ex.op,Ex.v,Ex.n,Ex.l] at ho hv hk hl⊢;clear hx;rw[uo] at hV;obtain⟨uF,Rz,VA,-,F8⟩:=hV;have fG:cells.length=nc:=CV;by_cases q1:op=1
 ·subst q1;obtain rfl:l=[]:=MB Rz
  cases f with
  |zero=>
   have hr:dx pr.vars cells (.mk 1 v k []) 0=.error (13,0):=rfl;refine⟨fun v' f' h=>(by rw[hr] at h;cases h),fun c f' h=>?_⟩;rw[hr] at h;simp only[Except.error.injEq,Prod.mk.injEq] at h;obtain⟨rfl,rfl⟩:=h;(refine cw Tryz.func188 ?_;refine aU ?_;refine cP fun g3=>?_;refine dc ?_);refine di (fun g5=>?_) (ae rfl);refine bm ?_;refine XA.ij 1 ?_;refine nr.succ ?_;refine dh ?_;refine az.die rfl (nS σ b _ _ _ _ _) rfl ?_;rintro _ _ _ ⟨rfl,rfl,rfl⟩;refine DA.cl ?_;refine fL ?_;exact ao.panic zE ⟨rfl,rfl,rfl⟩
  |succ f=>
   have hr:dx pr.vars cells (.mk 1 v k []) (f+1)=.ok (k,f):=rfl;refine⟨fun v' f' h=>?_,fun c f' h=>(by rw[hr] at h;cases h)⟩;rw[hr] at h;simp only[Except.ok.injEq,Prod.mk.injEq] at h;obtain⟨rfl,rfl⟩:=h;(refine cw Tryz.func188 ?_;refine aU ?_;refine cP fun g3=>?_;refine dc ?_);refine di (fun g5=>?_) (ae rfl);refine bm ?_;refine XA.ij 1 ?_;refine nr.succ ?_;refine dh ?_;refine yC (jy σ b _ _ _ _ _ f ad) ?_;refine zi ?_;exact bC rfl rfl ⟨rfl,rfl,rfl⟩
 by_cases q2:op=2
 ·subst q2;obtain rfl:l=[]:=MB Rz;have tq:=VA (.inl rfl);obtain⟨vx,vL,ZD,BB,tz,DG⟩:=nk h1 tq;have Pq:(ints cells)[(cellOf pr.vars v+0).toNat]? =some (i64 (cells.getD (cellOf pr.vars v).toNat 0)):=by rw[Int.add_zero];exact Ie ad
  cases f with
  |zero=>
   have hr:dx pr.vars cells (.mk 2 v k []) 0=.error (13,0):=rfl;refine⟨fun v' f' h=>(by rw[hr] at h;cases h),fun c f' h=>?_⟩;rw[hr] at h;simp only[Except.error.injEq,Prod.mk.injEq] at h;obtain⟨rfl,rfl⟩:=h;(refine cw Tryz.func188 ?_;refine aU ?_;refine cP fun g3=>?_;refine dc ?_);refine di (fun g5=>?_) (ae rfl);refine bm ?_;refine XA.ij 1 ?_;refine nr.succ ?_;refine dh ?_;refine az.die rfl (nS σ b _ _ _ _ _) rfl ?_;rintro _ _ _ ⟨rfl,rfl,rfl⟩;refine DA.cl ?_;refine fL ?_;exact ao.panic zE ⟨rfl,rfl,rfl⟩
  |succ f=>
   have hr:dx pr.vars cells (.mk 2 v k []) (f+1)=.ok (cells.getD (cellOf pr.vars v).toNat 0,f):=rfl;refine⟨fun v' f' h=>?_,fun c f' h=>(by rw[hr] at h;cases h)⟩;rw[hr] at h;simp only[Except.ok.injEq,Prod.mk.injEq] at h;obtain⟨rfl,rfl⟩:=h;(refine cw Tryz.func188 ?_;refine aU ?_;refine cP fun g3=>?_;refine dc ?_);refine di (fun g5=>?_) (ae rfl);refine bm ?_;refine XA.ij 1 ?_;refine nr.succ ?_;refine dh ?_;refine yC (jy σ b _ _ _ _ _ f ad) ?_;refine sT ?_;refine et 11 24813 [] (ar.bB (R:=aw b _ _) zL (ar.bB (R:=aw g3 _ _) zL (ar.bB (R:=aw gc _ _) zL (ar.nil _)))) ?_;refine bg ?_;refine aP.fw rfl rfl Gd.free (ax.cE (MA σ b pr _ cv bs _ _ _ _ v 0 hp hz jx tq au ad) rfl) ?_;rintro _ _ _ ⟨_,⟨rfl,rfl,rfl⟩,rfl⟩;refine stays (aP.cl ?_);refine bJ ?_;exact bC rfl rfl ⟨rfl,rfl,rfl⟩
 by_cases q3:op=3
 ·subst q3;obtain⟨x,rfl⟩:=TI Rz;simp only[bF,List.length_nil,Nat.zero_add] at hl⊢;have tq:=VA (.inr rfl);obtain⟨vx,vL,ZD,BB,tz,DG⟩:=nk h1 tq;have hxV:=F8.mem x aZ;obtain⟨g,o,row,rfl,mJ,mZ,bG⟩:=hl.at (show ([x]:List Ex)[0]? =some x from rfl);have jd:=mJ.dT;(have jN:cH σ g o row:=by simpa using bG);obtain⟨Ig,Kv⟩:=ih x aZ row b pv cv bs gc nc cells vi vo f hp mJ hxV CV gO hf;have rC:=(pY pr.vars cells x f)
  cases e1:dx pr.vars cells x f with
  |error e=>
   obtain⟨c0,f0⟩:=e;(have hr:dx pr.vars cells (.mk 3 v k [x]) f=.error (c0,f0):=by rw[dx,eK,e1]);refine⟨fun v' f' h=>(by rw[hr] at h;cases h),fun c f' h=>?_⟩;rw[hr] at h;simp only[Except.error.injEq,Prod.mk.injEq] at h;obtain⟨rfl,rfl⟩:=h;(refine cw Tryz.func188 ?_;refine aU ?_;refine cP fun g3=>?_;refine dc ?_);refine di (fun g5=>?_) (ae rfl);refine bm ?_;refine XA.ij 2 ?_;refine nr.succ ?_;refine dC ?_;refine di (fun g7=>?_) (ae rfl);refine bJ ?_;refine az.die rfl (Kv c0 f0 e1) rfl ?_;rintro _ _ _ ⟨rfl,rfl,rfl⟩;refine DA.cl ?_;refine fL ?_;exact ao.panic zE ⟨rfl,rfl,rfl⟩
  |ok a=>
   obtain⟨a,f1⟩:=a;have Bw:=rC.ok _ e1;simp only at Bw;have iP:aQ KZ.zero 0 [i64 a]=[i64 a,i64 0]:=rfl
   cases f1 with
   |zero=>
    (have hr:dx pr.vars cells (.mk 3 v k [x]) f=.error (13,0):=by rw[dx,eK,e1];rfl);refine⟨fun v' f' h=>(by rw[hr] at h;cases h),fun c f' h=>?_⟩;rw[hr] at h;simp only[Except.error.injEq,Prod.mk.injEq] at h;obtain⟨rfl,rfl⟩:=h;(refine cw Tryz.func188 ?_;refine aU ?_;refine cP fun g3=>?_;refine dc ?_);refine di (fun g5=>?_) (ae rfl);refine bm ?_;refine XA.ij 2 ?_;refine nr.succ ?_;refine dC ?_;refine di (fun g7=>?_) (ae rfl);refine bJ ?_;refine yC (Ig a 0 e1) ?_;refine aR ?_;refine nr.succ ?_;refine dh ?_;refine az.die rfl (nS σ b _ _ _ _ _) rfl ?_;rintro _ _ _ ⟨rfl,rfl,rfl⟩;refine DA.cl ?_;refine fL ?_;exact ao.panic zE ⟨rfl,rfl,rfl⟩
   |succ f1=>
    by_cases KM:a<0∨ir pr.vars v≤a
    ·(have hr:dx pr.vars cells (.mk 3 v k [x]) f=.error (11,f1):=by rw[dx,eK,e1];show mT pr.vars cells 3 v k [a] f1=_;rw[mT,ag au,ag au,aq rfl];exact aq KM);refine⟨fun v' f' h=>(by rw[hr] at h;cases h),fun c f' h=>?_⟩;rw[hr] at h;simp only[Except.error.injEq,Prod.mk.injEq] at h;obtain⟨rfl,rfl⟩:=h;(refine cw Tryz.func188 ?_;refine aU ?_;refine cP fun g3=>?_;refine dc ?_);refine di (fun g5=>?_) (ae rfl);refine bm ?_;refine XA.ij 2 ?_;refine nr.succ ?_;refine dC ?_;refine di (fun g7=>?_) (ae rfl);refine bJ ?_;refine yC (Ig a (f1+1) e1) ?_;refine aR ?_;refine nr.succ ?_;refine dh ?_;refine yC (jy σ b _ _ _ _ _ f1 ad) ?_;refine Jd ?_;refine et 13 223830 [] (ar.bB (R:=aw b _ _) zL (ar.bB (R:=aw g3 _ _) zL (ar.bB (R:=aw gc _ _) zL (ar.bB (R:=aw g5 _ _) zL (ar.nil _))))) ?_;refine bt ?_;refine aP.die rfl rfl Gd.free (X0 σ b pr _ cv bs _ _ _ _ v a hp hz jx tq KM) rfl ?_;rintro _ _ _ ⟨rfl,rfl,rfl⟩;refine DA.cl ?_;refine fL ?_;exact ao.panic zE ⟨rfl,rfl,rfl⟩
    ·(have tl:0≤a:=by omega);(have uK:a<ir pr.vars v:=by omega);have Pq:(ints cells)[(cellOf pr.vars v+a).toNat]? =some (i64 (cells.getD (cellOf pr.vars v+a).toNat 0)):=Ie ad;(have hr:dx pr.vars cells (.mk 3 v k [x]) f=.ok (cells.getD (cellOf pr.vars v+a).toNat 0,f1):=by rw[dx,eK,e1];show mT pr.vars cells 3 v k [a] f1=_;rw[mT,ag au,ag au,aq rfl];exact ag KM);refine⟨fun v' f' h=>?_,fun c f' h=>(by rw[hr] at h;cases h)⟩;rw[hr] at h;simp only[Except.ok.injEq,Prod.mk.injEq] at h;obtain⟨rfl,rfl⟩:=h;(refine cw Tryz.func188 ?_;refine aU ?_;refine cP fun g3=>?_;refine dc ?_);refine di (fun g5=>?_) (ae rfl);refine bm ?_;refine XA.ij 2 ?_;refine nr.succ ?_;refine dC ?_;refine di (fun g7=>?_) (ae rfl);refine bJ ?_;refine yC (Ig a (f1+1) e1) ?_;refine aR ?_;refine nr.succ ?_;refine dh ?_;refine yC (jy σ b _ _ _ _ _ f1 ad) ?_;refine Jd ?_;refine et 13 223830 [] (ar.bB (R:=aw b _ _) zL (ar.bB (R:=aw g3 _ _) zL (ar.bB (R:=aw gc _ _) zL (ar.bB (R:=aw g5 _ _) zL (ar.nil _))))) ?_;refine bt ?_;refine aP.fw rfl rfl Gd.free (ax.cE (MA σ b pr _ cv bs _ _ _ _ v a hp hz jx tq tl uK) rfl) ?_;rintro _ _ _ ⟨_,⟨rfl,rfl,rfl⟩,rfl⟩;refine stays (aP.cl ?_);refine bJ ?_;exact bC rfl rfl ⟨rfl,rfl,rfl⟩
 (have y5:4≤op∧op≤8:=by omega);(have Fa:partsOf op=2:=by rw[partsOf,ag ad,ag q3,aq y5]);obtain⟨x,y,rfl⟩:=TJ (Rz.trans Fa);simp only[bF,List.length_nil,Nat.zero_add,Nat.reduceAdd] at hl⊢;have hxV:=F8.mem x aZ;have hyV:=F8.mem y aZ;obtain⟨g,o,row,rfl,mJ,mZ,bG⟩:=hl.at (show ([x,y]:List Ex)[0]? =some x from rfl);obtain⟨g',o',C3,Tj,hry,aaQ,Dg⟩:=hl.at (show ([x,y]:List Ex)[1]? =some y from rfl);simp only[Option.some.injEq,Addr.mk.injEq,and_true] at Tj;obtain⟨rfl,rfl⟩:=Tj;have jd:=mJ.dT;have aeo:=hry.dT;(have jN:cH σ g o row:=by simpa using bG);(have Ih:cH σ g (o+4) C3:=by simpa using Dg);clear bG Dg;obtain⟨Ig,Kv⟩:=ih x aZ row b pv cv bs gc nc cells vi vo f hp mJ hxV CV gO hf;have rC:=(pY pr.vars cells x f)
 cases e1:dx pr.vars cells x f with
 |error e=>
  obtain⟨c0,f0⟩:=e;(have hr:dx pr.vars cells (.mk op v k [x,y]) f=.error (c0,f0):=by rw[dx,eK,e1]);refine⟨fun v' f' h=>(by rw[hr] at h;cases h),fun c f' h=>?_⟩;rw[hr] at h;simp only[Except.error.injEq,Prod.mk.injEq] at h;obtain⟨rfl,rfl⟩:=h;(refine cw Tryz.func188 ?_;refine aU ?_;refine cP fun g3=>?_;refine dc ?_);refine di (fun g5=>?_) (ae rfl);refine bm ?_;refine XA.ij 3 ?_;refine nr.succ ?_;refine dC ?_;refine di (fun g7=>?_) (ae rfl);refine bJ ?_;refine az.die rfl (Kv c0 f0 e1) rfl ?_;rintro _ _ _ ⟨rfl,rfl,rfl⟩;refine DA.cl ?_;refine fL ?_;exact ao.panic zE ⟨rfl,rfl,rfl⟩
 |ok a=>
  obtain⟨a,f1⟩:=a;have Bw:=rC.ok _ e1;simp only at Bw;have iP:aQ KZ.zero 0 [i64 a]=[i64 a,i64 0]:=rfl;obtain⟨VB,jhe⟩:=ih y aZ C3 b pv cv bs gc nc cells vi vo f1 hp hry hyV CV gO ad;have WY:=(pY pr.vars cells y f1)
  cases e2:dx pr.vars cells y f1 with
  |error e=>
   obtain⟨c0,f0⟩:=e;(have hr:dx pr.vars cells (.mk op v k [x,y]) f=.error (c0,f0):=by rw[dx,eK,e1];simp only[eK,e2]);refine⟨fun v' f' h=>(by rw[hr] at h;cases h),fun c f' h=>?_⟩;rw[hr] at h;simp only[Except.error.injEq,Prod.mk.injEq] at h;obtain⟨rfl,rfl⟩:=h;(refine cw Tryz.func188 ?_;refine aU ?_;refine cP fun g3=>?_;refine dc ?_);refine di (fun g5=>?_) (ae rfl);refine bm ?_;refine XA.ij 3 ?_;refine nr.succ ?_;refine dC ?_;refine di (fun g7=>?_) (ae rfl);refine bJ ?_;refine yC (Ig a f1 e1) ?_;refine aR ?_;refine nr.succ ?_;refine dC ?_;refine di (fun g7=>?_) (ae rfl);refine bJ ?_;refine az.die rfl (jhe c0 f0 e2) rfl ?_;rintro _ _ _ ⟨rfl,rfl,rfl⟩;refine DA.cl ?_;refine fL ?_;exact ao.panic zE ⟨rfl,rfl,rfl⟩
  |ok c=>
   obtain⟨c,f2⟩:=c;have n9:=WY.ok _ e2;simp only at n9;have sR:aQ [i64 a,i64 0] 1 [i64 c]=[i64 a,i64 c]:=rfl
   cases f2 with
   |zero=>
    (have hr:dx pr.vars cells (.mk op v k [x,y]) f=.error (13,0):=by rw[dx,eK,e1];simp only[eK,e2];rfl);refine⟨fun v' f' h=>(by rw[hr] at h;cases h),fun c f' h=>?_⟩;rw[hr] at h;simp only[Except.error.injEq,Prod.mk.injEq] at h;obtain⟨rfl,rfl⟩:=h;(refine cw Tryz.func188 ?_;refine aU ?_;refine cP fun g3=>?_;refine dc ?_);refine di (fun g5=>?_) (ae rfl);refine bm ?_;refine XA.ij 3 ?_;refine nr.succ ?_;refine dC ?_;refine di (fun g7=>?_) (ae rfl);refine bJ ?_;refine yC (Ig a f1 e1) ?_;refine aR ?_;refine nr.succ ?_;refine dC ?_;refine di (fun g7=>?_) (ae rfl);refine bJ ?_;refine yC (VB c 0 e2) ?_;refine aR ?_;refine nr.succ ?_;refine dh ?_;refine az.die rfl (nS σ b _ _ _ _ _) rfl ?_;rintro _ _ _ ⟨rfl,rfl,rfl⟩;refine DA.cl ?_;refine fL ?_;exact ao.panic zE ⟨rfl,rfl,rfl⟩
   |succ f2=>
    have hr:dx pr.vars cells (.mk op v k [x,y]) f=.ok (il op a c,f2):=by
     rw[dx,eK,e1];simp only[eK,e2];show mT pr.vars cells op v k [a,c] f2=_;rw[mT,ag q1,ag q2,ag q3];rfl
    by_cases q4:op=4
    ·subst q4;refine⟨fun v' f' h=>?_,fun c f' h=>(by rw[hr] at h;cases h)⟩;rw[hr] at h;simp only[Except.ok.injEq,Prod.mk.injEq] at h;obtain⟨rfl,rfl⟩:=h;(refine cw Tryz.func188 ?_;refine aU ?_;refine cP fun g3=>?_;refine dc ?_);refine di (fun g5=>?_) (ae rfl);refine bm ?_;refine XA.ij 3 ?_;refine nr.succ ?_;refine dC ?_;refine di (fun g7=>?_) (ae rfl);refine bJ ?_;refine yC (Ig a f1 e1) ?_;refine aR ?_;refine nr.succ ?_;refine dC ?_;refine di (fun g7=>?_) (ae rfl);refine bJ ?_;refine yC (VB c (f2+1) e2) ?_;refine aR ?_;refine nr.succ ?_;refine dh ?_;refine yC (jy σ b _ _ _ _ _ f2 ad) ?_;refine aaF ?_;exact bC rfl rfl ⟨rfl,rfl,rfl⟩
    by_cases q5:op=5
    ·subst q5;refine⟨fun v' f' h=>?_,fun c f' h=>(by rw[hr] at h;cases h)⟩;rw[hr] at h;simp only[Except.ok.injEq,Prod.mk.injEq] at h;obtain⟨rfl,rfl⟩:=h;(refine cw Tryz.func188 ?_;refine aU ?_;refine cP fun g3=>?_;refine dc ?_);refine di (fun g5=>?_) (ae rfl);refine bm ?_;refine XA.ij 3 ?_;refine nr.succ ?_;refine dC ?_;refine di (fun g7=>?_) (ae rfl);refine bJ ?_;refine yC (Ig a f1 e1) ?_;refine aR ?_;refine nr.succ ?_;refine dC ?_;refine di (fun g7=>?_) (ae rfl);refine bJ ?_;refine yC (VB c (f2+1) e2) ?_;refine aR ?_;refine nr.succ ?_;refine dh ?_;refine yC (jy σ b _ _ _ _ _ f2 ad) ?_;refine SG ?_;exact bC rfl rfl ⟨rfl,rfl,rfl⟩
    by_cases q6:op=6
    ·subst q6;refine⟨fun v' f' h=>?_,fun c f' h=>(by rw[hr] at h;cases h)⟩;rw[hr] at h;simp only[Except.ok.injEq,Prod.mk.injEq] at h;obtain⟨rfl,rfl⟩:=h;(refine cw Tryz.func188 ?_;refine aU ?_;refine cP fun g3=>?_;refine dc ?_);refine di (fun g5=>?_) (ae rfl);refine bm ?_;refine XA.ij 3 ?_;refine nr.succ ?_;refine dC ?_;refine di (fun g7=>?_) (ae rfl);refine bJ ?_;refine yC (Ig a f1 e1) ?_;refine aR ?_;refine nr.succ ?_;refine dC ?_;refine di (fun g7=>?_) (ae rfl);refine bJ ?_;refine yC (VB c (f2+1) e2) ?_;refine aR ?_;refine nr.succ ?_;refine dh ?_;refine yC (jy σ b _ _ _ _ _ f2 ad) ?_;refine SG ?_;refine zO rfl Le ?_;refine a8 ?_;exact bC rfl rfl ⟨rfl,rfl,rfl⟩
    by_cases q7:op=7
    ·subst q7;refine⟨fun v' f' h=>?_,fun c f' h=>(by rw[hr] at h;cases h)⟩;rw[hr] at h;simp only[Except.ok.injEq,Prod.mk.injEq] at h;obtain⟨rfl,rfl⟩:=h;(refine cw Tryz.func188 ?_;refine aU ?_;refine cP fun g3=>?_;refine dc ?_);refine di (fun g5=>?_) (ae rfl);refine bm ?_;refine XA.ij 3 ?_;refine nr.succ ?_;refine dC ?_;refine di (fun g7=>?_) (ae rfl);refine bJ ?_;refine yC (Ig a f1 e1) ?_;refine aR ?_;refine nr.succ ?_;refine dC ?_;refine di (fun g7=>?_) (ae rfl);refine bJ ?_;refine yC (VB c (f2+1) e2) ?_;refine aR ?_;refine nr.succ ?_;refine dh ?_;refine yC (jy σ b _ _ _ _ _ f2 ad) ?_;refine SG ?_;refine bJ ?_;refine yC (Mz σ _) ?_;refine a8 ?_;exact bC rfl rfl ⟨by simp[il],rfl,rfl⟩
    by_cases q8:op=8
    ·subst q8;refine⟨fun v' f' h=>?_,fun c f' h=>(by rw[hr] at h;cases h)⟩;rw[hr] at h;simp only[Except.ok.injEq,Prod.mk.injEq] at h;obtain⟨rfl,rfl⟩:=h;(refine cw Tryz.func188 ?_;refine aU ?_;refine cP fun g3=>?_;refine dc ?_);refine di (fun g5=>?_) (ae rfl);refine bm ?_;refine XA.ij 3 ?_;refine nr.succ ?_;refine a8 ?_;refine aR ?_;refine di (fun g7=>?_) (ae rfl);refine bJ ?_;refine yC (Ig a f1 e1) ?_;refine aR ?_;refine nr.succ ?_;refine a8 ?_;refine aR ?_;refine di (fun g7=>?_) (ae rfl);refine bJ ?_;refine yC (VB c (f2+1) e2) ?_;refine aR ?_;refine nr.succ ?_;refine a8 ?_;refine bt ?_;refine yC (jy σ b _ _ _ _ _ f2 ad) ?_;refine dC ?_;(iterate 6 (refine bg ?_));refine cp ?_;refine yC (Mz σ _) ?_;refine bY ?_;exact bC rfl rfl ⟨by simp[il],rfl,rfl⟩
    omega
def PX (vs:List Va) (cells:List Int) (x:Ex) (f:Nat):XR Bool:=match dx vs cells x f with
 |.error e=>.error e
 |.ok (n,k)=>match yc k with
  |.error e=>.error e
  |.ok k'=>.ok (decide (n≠0),k')
theorem MC (k:Nat):yc (k+1)=.ok k:=by simp[yc]
theorem Ii (vs:List Va) (x:Ex) (cells inp out:List Int) (f:Nat):y7 vs x ⟨cells,inp,out,f⟩=match PX vs cells x f with
 |.error (c,k)=>.error (c,⟨cells,inp,out,k⟩)
 |.ok (b,k)=>.ok (b,⟨cells,inp,out,k⟩):=by
 rw[y7,qQ,PX];simp only
 cases dx vs cells x f with
 |error e=>rfl
 |ok a=>
  obtain⟨n,k⟩:=a
  cases k with
  |zero=>rfl
  |succ k=>simp[dQ,yc]
theorem X1 (σ:PH) (pr:Pr) (h1:∀x∈pr.vars,1≤x.size) (hz:∀x∈pr.vars,0≤x.size∧x.size≤1000) (jx:pr.vars.length≤1000) (x:Ex) (cs:List Value) (b:Nat) (pv:Option Addr) (cv:Nat) (bs:Value) (gc nc:Nat) (cells:List Int) (vi vo:Value) (f:Nat)
 (hp:gT σ [.slice pv pr.vars.length cv,bs] pr) (hx:dL σ cs x) (hV:uo pr.vars.length x) (CV:cells.length=nc) (gO:(nc:Int)=sizes pr.vars) (hf:f<1000000):
 (∀v f',PX pr.vars cells x f=.ok (v,f')→ah Tryz.prog 190 #[ptr b,.agg cs.toArray] σ [aw b [.slice pv pr.vars.length cv,bs,.slice (some ⟨gc,0,none⟩) nc nc,vi,vo,i64 f] 172,aw gc (ints cells) 2] (aA fun r aj al=>r=.bool v∧σ=aj∧al=[aw b [.slice pv pr.vars.length cv,bs,.slice (some ⟨gc,0,none⟩) nc nc,vi,vo,i64 f'] 172,aw gc (ints cells) 2]))∧
 (∀c f',PX pr.vars cells x f=.error (c,f')→ah Tryz.prog 190 #[ptr b,.agg cs.toArray] σ [aw b [.slice pv pr.vars.length cv,bs,.slice (some ⟨gc,0,none⟩) nc nc,vi,vo,i64 f] 172,aw gc (ints cells) 2] (na fun ch aj al=>ch=tU c∧σ=aj∧al=[aw b [.slice pv pr.vars.length cv,bs,.slice (some ⟨gc,0,none⟩) nc nc,vi,vo,i64 f'] 172,aw gc (ints cells) 2])):=by
 obtain⟨Ig,Kv⟩:=yh σ pr h1 hz jx x cs b pv cv bs gc nc cells vi vo f hp hx hV CV gO hf;have jd:=hx.dT;have Kt:=hx.len;have rC:=pY pr.vars cells x f;rw[PX]
 cases e1:dx pr.vars cells x f with
 |error e=>
  obtain⟨c0,f0⟩:=e;refine⟨fun v f' h=>(by cases h),fun c f' h=>?_⟩;cases h;(refine cw Tryz.func190 ?_;refine aU ?_;refine cP fun g3=>?_;refine bg ?_;refine az.die rfl (Kv c0 f0 e1) rfl ?_);rintro _ _ _ ⟨rfl,rfl,rfl⟩;refine DA.cl ?_;refine fL ?_;exact ao.panic zE ⟨rfl,rfl,rfl⟩
 |ok a=>
  obtain⟨n,k⟩:=a;have Bw:=rC.ok _ e1;simp only at Bw
  cases k with
  |zero=>
   refine⟨fun v f' h=>(by cases h),fun c f' h=>?_⟩;cases h;(refine cw Tryz.func190 ?_;refine aU ?_;refine cP fun g3=>?_;refine bg ?_;refine yC (Ig n 0 e1) ?_;refine a8 ?_;refine az.die rfl (nS σ b _ _ _ _ _) rfl ?_);rintro _ _ _ ⟨rfl,rfl,rfl⟩;refine DA.cl ?_;refine fL ?_;exact ao.panic zE ⟨rfl,rfl,rfl⟩
  |succ k=>
   simp only[MC];refine⟨fun v f' h=>?_,fun c f' h=>(by cases h)⟩;simp only[Except.ok.injEq,Prod.mk.injEq] at h;obtain⟨rfl,rfl⟩:=h;(refine cw Tryz.func190 ?_;refine aU ?_;refine cP fun g3=>?_;refine bg ?_;refine yC (Ig n (k+1) e1) ?_;refine a8 ?_);refine yC (jy σ b _ _ _ _ _ k ad) ?_;refine aR ?_;exact bC rfl rfl ⟨rfl,rfl,rfl⟩
theorem u5 (l:List Int) {i:Nat} (w:Int) (hi:i<l.length):aQ (ints l) i [i64 w]=ints (l.set i w):=by
 simp only[aQ,ints,dZ,List.map_set];rw[List.set_eq_take_append_cons_drop,aq (by simpa using hi)];simp
def pz (σ:PH) (mk:RS→Value→Option Addr→Nat→List HP) (r:RR):Ending→PH→List HP→Prop:=fun e aj al=>match r,e with
 |.ok s',.returned v=>v=.tuple #[]∧σ=aj∧∃vi po co,a7 σ vi s'.inp∧al=mk s' vi po co
 |.error (c,s'),.panicked ch=>ch=tU c∧σ=aj∧∃vi po co,a7 σ vi s'.inp∧al=mk s' vi po co
 |_,_=>False
theorem pz.ok {P:Program} {f:FuncId} {vs:Array Value} {Γ:List HP} {σ:PH} {mk:RS→Value→Option Addr→Nat→List HP} {s':RS} (h:ah P f vs σ Γ (pz σ mk (.ok s'))):
 ah P f vs σ Γ (aA fun v aj al=>v=.tuple #[]∧σ=aj∧∃vi po co,a7 σ vi s'.inp∧al=mk s' vi po co):=ah.mono h fun e _ _ he=>by cases e<;>exact he
theorem pz.err {P:Program} {f:FuncId} {vs:Array Value} {Γ:List HP} {σ:PH} {mk:RS→Value→Option Addr→Nat→List HP} {c:Int} {s':RS} (h:ah P f vs σ Γ (pz σ mk (.error (c,s')))):
 ah P f vs σ Γ (na fun ch aj al=>ch=tU c∧σ=aj∧∃vi po co,a7 σ vi s'.inp∧al=mk s' vi po co):=ah.mono h fun e _ _ he=>by cases e<;>exact he
@[reducible] def mkS (b:Nat) (pv:Option Addr) (nv cv:Nat) (bs:Value) (gc nc:Nat):RS→Value→Option Addr→Nat→List HP:=fun s vi po co=>[aw b [.slice pv nv cv,bs,.slice (some ⟨gc,0,none⟩) nc nc,vi,.slice po (s).out.length co,i64 (s).left] 172,aw gc (ints (s).cells) 2,aS 2 1 (.slice po (s).out.length co) (s).out.length (ints (s).out)]
structure wx (vs:List Va) (nc:Nat) (s:RS):Prop where
 cl:s.cells.length=nc
 sz:(nc:Int)=sizes vs
 left:s.left<1000000
 out:s.out.length+s.left<2000000
structure mL (s s':RS):Prop where
 cl:s'.cells.length=s.cells.length
 left:s'.left≤s.left
 out:s'.out.length+s'.left≤s.out.length+s.left
theorem mL.refl (s:RS):mL s s:=⟨rfl,bX _,bX _⟩
theorem mL.trans {a b c:RS} (h:mL a b) (k:mL b c):mL a c:=⟨k.cl.trans h.cl,Nat.le_trans k.left h.left,Nat.le_trans k.out h.out⟩
theorem wx.less {vs:List Va} {nc:Nat} {s s':RS} (h:wx vs nc s) (k:mL s s'):wx vs nc s':=⟨k.cl.trans h.cl,h.sz,Nat.lt_of_le_of_lt k.left h.left,Nat.lt_of_le_of_lt k.out h.out⟩
def wy:RR→RS|.ok s=>s|.error (_,s)=>s
theorem tV (vs:List Va) (x:Ex) (s:RS):(∀v s',qQ vs x s=.ok (v,s')→mL s s'∧s'.left≤s.left∧s'={s with left:=s'.left})∧∀c s',qQ vs x s=.error (c,s')→mL s s':=by
 have hx:=pY vs s.cells x s.left;rw[qQ]
 cases e:dx vs s.cells x s.left with
 |error q=>
  obtain⟨c,k⟩:=q;refine⟨fun v s' h=>(by cases h),fun c' s' h=>?_⟩;cases h;have:=(hx.err _ _ e).1;exact⟨rfl,this,by show s.out.length+k≤_;omega⟩
 |ok q=>
  obtain⟨n,k⟩:=q;refine⟨fun v s' h=>?_,fun c' s' h=>(by cases h)⟩;cases h;have:=hx.ok _ e;exact⟨⟨rfl,this,by show s.out.length+k≤_;simp only at this;omega⟩,this,rfl⟩
theorem iU {s:RS}:(∀s',dQ s=.ok s'→mL s s'∧s'.left+1=s.left∧s'={s with left:=s'.left})∧∀c s',dQ s=.error (c,s')→s'=s∧c=13∧s.left=0:=by
 rw[dQ];by_cases h:s.left=0
 ·rw[aq h];exact⟨fun s' h=>(by cases h),fun c s' e=>by cases e;exact⟨rfl,rfl,h⟩⟩
 ·rw[ag h];refine⟨fun s' e=>?_,fun c s' e=>(by cases e)⟩;cases e;exact⟨⟨rfl,Nat.sub_le _ _,by show s.out.length+(s.left-1)≤_;omega⟩,by show s.left-1+1=_;omega,rfl⟩
end Go.Proofs.YtgeoiflbjcehcaaGreatDoor
