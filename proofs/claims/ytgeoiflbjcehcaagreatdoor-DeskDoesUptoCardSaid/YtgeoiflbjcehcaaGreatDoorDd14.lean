import Derived.Test.YtgeoiflbjcehcaaGreatDoorDd13
set_option maxHeartbeats 4000000
set_option maxRecDepth 2000
set_option linter.unusedVariables false
set_option linter.unusedSimpArgs false
namespace Go.Proofs.YtgeoiflbjcehcaaGreatDoor
open Go X
def gZ (C:List (List Int)) (a:Int):Int:=if 0≤a∧a<112 then (C.getD (a.toNat/8) av.bU).getD (a.toNat%8) 0 else 0
def kW (C:List (List Int)) (a w:Int):List (List Int):=if (0≤a∧a<112)∧gZ C a≠w then C.set (a.toNat/8) ((C.getD (a.toNat/8) av.bU).set (a.toNat%8) w) else C
def BN (C:List (List Int)) (dt:List Bool) (a w:Int):List Bool:=if (0≤a∧a<112)∧gZ C a≠w then dt.set (a.toNat/8) true else dt
theorem uZ (C:List (List Int)) {n:Nat} (h:n<112):gZ C n=(C.getD (n/8) av.bU).getD (n%8) 0:=by
 rw[gZ,aq ad];rfl
theorem r7.word {d:av} {s:eZ} {inn dt:List Bool} {pg C:List (List Int)} (h:r7 d s inn dt pg C) {n:Nat} (hn:n<112) (hi:inn.getD (n/8) false=true):gZ C n=(pg.getD (n/8) av.bU).getD (n%8) 0:=by
 rw[uZ C hn,h.val _ ad,aq hi]
theorem r7.put {d:av} {s:eZ} {inn dt:List Bool} {pg C:List (List Int)} (h:r7 d s inn dt pg C) {p k:Nat} (hp:p<14) (hi:inn.getD p false=true) (w:Int):
 r7 d s inn (dt.set p true) (pg.set p ((pg.getD p av.bU).set k w)) (C.set p ((C.getD p av.bU).set k w)):=by
 (have e:C.getD p av.bU=pg.getD p av.bU:=by rw[h.val p hp,aq hi]);refine⟨h.li,by rw[List.length_set];exact h.ld,tH h.pp p (by rw[List.length_set];exact kI h.pp hp),tH h.cc p (by rw[List.length_set];exact kI h.cc hp),fun q hq=>?_,fun q hq Md=>?_,fun q hq Md=>?_⟩
 ·rw[ml (by rw[h.cc.1];exact hq),ml (by rw[h.pp.1];exact hq),h.val q hq];by_cases eq:q=p
  ·subst eq;rw[aq rfl,aq rfl,aq hi,e]
  ·rw[ag eq,ag eq]
 ·rw[mj (by rw[h.ld];exact hq)] at Md;by_cases eq:q=p
  ·subst eq;exact hi
  ·rw[ag eq] at Md;exact h.dir q hq Md
 ·rw[mj (by rw[h.ld];exact hq)] at Md;by_cases eq:q=p
  ·rw[aq eq] at Md;cases Md
  ·rw[ag eq] at Md;rw[ml (by rw[h.cc.1];exact hq),ag eq];exact h.w8 q hq Md
theorem Tr (σ:PH) (b sb db:Nat) (d:av) (s:eZ) (inn dt:List Bool) (pg C:List (List Int)) (a:Int) (hd:d.ok) (hlen:d.wait.length<1000000) (h:r7 d s inn dt pg C):
 ah Tryz.prog 117 #[ptr b,i64 a] σ [aw b (bM sb inn dt pg) 242,ck sb db s,bW db d] (aA fun v aj al=>v=i64 (gZ C a)∧σ=aj∧∃r8 DV,r7 d s r8 dt DV C∧al=[aw b (bM sb r8 dt DV) 242,ck sb db s,bW db d]):=by
 by_cases ha:0≤a∧a<112
 ·obtain⟨n,rfl⟩:=Int.eq_ofNat_of_zero_le ha.1;(have hn:n<112:=by omega);refine cw Tryz.func117 ?_;refine bt ?_;refine zw rfl (ax.cE (Mf σ b sb db d s inn dt pg C n hn hd hlen h) rfl) ?_;rintro _ _ _ ⟨_,⟨rfl,rfl,r8,DV,h',hi,rfl⟩,rfl⟩;refine az.cl ?_;refine eA ?_;have hw:=H0 (sb:=sb) h'.li h'.ld h'.pp (p:=n/8) (k:=n%8) ad ad;refine bJ ?_;refine zO rfl (Rd.KN (c:=((n%8:Nat):Int)) rfl rfl au (Tp n)) ?_;refine bt ?_;exact bC rfl rfl ⟨congrArg i64 (h'.word hn hi).symm,rfl,_,_,h',rfl⟩
 ·refine cw Tryz.func117 ?_;refine bt ?_;refine yC (H4 σ b a ha) ?_;refine px ?_;exact bC rfl rfl ⟨by rw[gZ,ag ha],rfl,_,_,h,rfl⟩
theorem XI (σ:PH) (b sb db:Nat) (d:av) (s:eZ) (inn dt:List Bool) (pg C:List (List Int)) (a w:Int) (hd:d.ok) (hlen:d.wait.length<1000000) (h:r7 d s inn dt pg C):
 ah Tryz.prog 196 #[ptr b,i64 a,i64 w] σ [aw b (bM sb inn dt pg) 242,ck sb db s,bW db d] (aA fun v aj al=>v=.bool (decide (0≤a∧a<112))∧σ=aj∧∃r8 DV,r7 d s r8 (BN C dt a w) DV (kW C a w)∧al=[aw b (bM sb r8 (BN C dt a w) DV) 242,ck sb db s,bW db d]):=by
 by_cases ha:0≤a∧a<112
 ·obtain⟨n,rfl⟩:=Int.eq_ofNat_of_zero_le ha.1;(have hn:n<112:=by omega);rw[aM ha];refine lS Tryz.func196 ?_;refine bt ?_;refine zw rfl (ax.cE (Mf σ b sb db d s inn dt pg C n hn hd hlen h) rfl) ?_;rintro _ _ _ ⟨_,⟨rfl,rfl,r8,DV,h',hi,rfl⟩,rfl⟩;refine az.cl ?_;refine dh ?_;have hw:=H0 (sb:=sb) h'.li h'.ld h'.pp (p:=n/8) (k:=n%8) ad ad;have he:=h'.word hn hi;rw[←he] at hw;refine zG ?_;refine zO rfl (Rd.KN (c:=((n%8:Nat):Int)) rfl rfl au (Tp n)) ?_;refine aR ?_;refine XA.bE rfl (fun ix=>?_) (fun ix=>?_)
  ·(have e1:kW C n w=C.set (n/8) ((C.getD (n/8) av.bU).set (n%8) w):=by rw[kW,aq ⟨ha,ix⟩];rfl);(have e2:BN C dt n w=dt.set (n/8) true:=by rw[BN,aq ⟨ha,ix⟩];rfl);have hP:=h'.put (p:=n/8) (k:=n%8) ad hi w;have iP:=Mc (sb:=sb) h'.li h'.ld h'.pp (p:=n/8) (k:=n%8) ad ad w;have sR:=To (sb:=sb) (pg:=DV.set (n/8) ((DV.getD (n/8) av.bU).set (n%8) w)) h'.li h'.ld (p:=n/8) ad true;have Zg:=uW (sb:=sb) h'.li h'.ld h'.pp;(have gf:29+n/8*8+n%8+1≤(bM sb r8 dt DV).length:=by omega);have Tq:=uW (sb:=sb) h'.li h'.ld hP.pp;(have XJ:15+n/8+ty4.size≤(bM sb r8 dt (DV.set (n/8) ((DV.getD (n/8) av.bU).set (n%8) w))).length:=by rw[Tq];show 15+n/8+1≤141;omega);refine dc ?_;refine zO rfl (Rd.KN (c:=((n%8:Nat):Int)) rfl rfl au (Tp n)) ?_;refine bt ?_;clear gf;have gf:=XJ;refine dh ?_;exact ao.ret (aB.one rfl rfl) (by rw[e2];exact zE) ⟨rfl,rfl,_,_,by rw[e1,e2];exact hP,rfl⟩
  ·(have e1:kW C n w=C:=by rw[kW,ag (fun q=>ix q.2)]);(have e2:BN C dt n w=dt:=by rw[BN,ag (fun q=>ix q.2)]);refine bt ?_;exact ao.ret (aB.one rfl rfl) (by rw[e2];exact zE) ⟨rfl,rfl,_,_,by rw[e1,e2];exact h',rfl⟩
 ·(have e1:kW C a w=C:=by rw[kW,ag (fun q=>ha q.1)]);(have e2:BN C dt a w=dt:=by rw[BN,ag (fun q=>ha q.1)]);rw[aE ha];refine lS Tryz.func196 ?_;refine bt ?_;refine yC (H4 σ b a ha) ?_;refine Lc ?_;exact ao.ret (aB.one rfl rfl) (by rw[e2];exact zE) ⟨rfl,rfl,_,_,by rw[e1,e2];exact h,rfl⟩
def dS (C:List (List Int)) (dt:List Bool):Nat→List cy
 |0=>[]
 |k+1=>if dt.getD k false=true then dS C dt k++[⟨(k:Int),C.getD k av.bU⟩] else dS C dt k
theorem kf (C:List (List Int)) (dt:List Bool):∀k,(dS C dt k).length≤k
 |0=>bX _
 |k+1=>by
  have:=kf C dt k;rw[dS];split
  ·rw[bq,dZ];omega
  ·omega
def cz (C:List (List Int)) (dt:List Bool):List cy:=dS C dt 14
theorem H5 (σ:PH) (b sb:Nat) (d:av) (s:eZ) (inn dt:List Bool) (pg C:List (List Int)) (h:r7 d s inn dt pg C):
 ah Tryz.prog 224 #[ptr b] σ [aw b (bM sb inn dt pg) 242] (aA fun v aj al=>∃(p:Option Addr) (c:Nat) (rows:List (List Value)),v=.slice p (cz C dt).length c∧cN 9 pR σ rows (cz C dt)∧σ=aj∧al=[aw b (bM sb inn dt pg) 242,aS 292 9 (.slice p (cz C dt).length c) (cz C dt).length rows.flatten]):=by
 have ag5:=Tm (sb:=sb) (pg:=pg) h.li h.ld;(have Ph:(fI dt).length=14:=by rw[fp];exact h.ld);have jd:dT (fI dt):=x7 _;(refine cM Tryz.func224 ?_;refine ra ?_;refine XA.gen [(0,_),(2,_),(3,_),(9,_),(10,_)] iX fun δ=>?_);dsimp only[List.foldl];refine XA.loop [(3,5),(10,26)] (fun q:Nat×(Option Addr×(Nat×Nat))=>[(10,i64 q.1),(3,.slice q.2.1 q.2.2.1 q.2.2.2)]) (fun q aj al=>σ=aj∧q.1≤14∧q.2.2.1=(dS C dt q.1).length∧∃(rows:List (List Value)),cN 9 pR σ rows (dS C dt q.1)∧al=[aw b (bM sb inn dt pg) 242,aS 292 9 (.slice q.2.1 q.2.2.1 q.2.2.2) q.2.2.1 rows.flatten]) (fun q=>14-q.1) (0,(none,(0,0))) mO (Δ0:=_) ?_ (⟨rfl,cg _,rfl,[],cN.nil _ _ _,rfl⟩) ?_
 ·exact zE
 rintro⟨k,p,n,c⟩ δ _ _ ⟨rfl,hk,hn,rows,ep,rfl⟩;dsimp only[dq,List.foldl];have hk:k≤14:=hk;have hn:n=(dS C dt k).length:=hn;have ep:cN 9 pR σ rows (dS C dt k):=ep;have hle:=kf C dt k;rw[←hn] at hle;refine a8 ?_;refine XA.bE rfl (fun aV=>?_) (fun aV=>?_)
 ·(have aV:k<14:=by omega);have ZB:(fI dt).toArray[((k:Nat):Int).toNat]? =some (.bool (dt.getD k false)):=by rw[Int.toNat_natCast,List.getElem?_toArray];exact uX (by rw[h.ld];exact aV)
  cases XK:dt.getD k false with
  |true=>
   rw[XK] at ZB;(have e1:dS C dt (k+1)=dS C dt k++[⟨(k:Int),C.getD k av.bU⟩]:=by rw[dS,aq XK]);have bG:=F3 (sb:=sb) h.li h.ld h.pp (p:=k) aV;rw[show pg.getD k av.bU=C.getD k av.bU by rw[h.val k aV,aq (h.dir k aV XK)]] at bG;have Vx:=kI h.cc aV;obtain⟨W,hW⟩:∃W,W=C.getD k av.bU:=⟨_,rfl⟩;rw[←hW] at bG Vx e1;have aem:dT (ints W):=ei _;(have wc:(i64 (k:Int)::ints W).length=9:=by simp[Vx]);have tg:dT (i64 (k:Int)::ints W):=fO rfl (ei _);have DW:pR σ (i64 (k:Int)::ints W) ⟨k,W⟩:=⟨rfl,Vx⟩;(have eR:cN 9 pR σ (rows++[i64 (k:Int)::ints W]) (dS C dt (k+1)):=by rw[e1];exact ep.snoc wc DW);(have rQ:n+1=(dS C dt (k+1)).length:=by rw[e1,bq,dZ,hn]);refine bg ?_;refine zO rfl (Rd.WU rfl rfl) ?_;refine mI ?_;refine zw rfl (ax.jY (ae rfl) rfl (ae rfl)) ?_;rintro _ _ _ ⟨g24,rfl,rfl,rfl⟩;refine zw rfl (ax.kM (ae rfl) rfl (ae rfl) rfl rfl rfl) ?_;rintro _ _ _ ⟨p25,c25,rfl,rfl,rfl⟩;refine bt ?_;refine⟨bQ,(k+1,(p25,(n+1,c25))),_,zM,?_,⟨rfl,aV,rQ,_,eR,rfl⟩,gF⟩
   ·rw[k6];exact zE
  |false=>
   rw[XK] at ZB;(have e1:dS C dt (k+1)=dS C dt k:=by rw[dS,ag (by rw[XK];exact fun q=>by cases q)]);refine bg ?_;refine zO rfl (Rd.WU rfl rfl) ?_;refine lR ?_;refine⟨bQ,(k+1,(p,(n,c))),_,zM,?_,⟨rfl,aV,by rw[e1];exact hn,rows,by rw[e1];exact ep,rfl⟩,gF⟩
   ·exact zE
 (obtain rfl:k=14:=by omega);subst hn;refine bm ?_;exact bC rfl rfl ⟨p,c,rows,rfl,ep,rfl,rfl⟩
def wu:List Bool:=List.replicate 14 false
def qY:List (List Int):=List.replicate 14 av.bU
set_option maxRecDepth 100000 in
theorem Ts (σ:PH) (sb:Nat):ah Tryz.prog 150 #[ptr sb] σ [] (aA fun v aj al=>∃b,v=ptr b∧σ=aj∧al=[aw b (bM sb wu wu qY) 242]):=by
 (refine cM Tryz.func150 ?_;refine bt ?_;refine cP fun g5=>?_;refine bY ?_);exact bC rfl rfl ⟨_,rfl,rfl,rfl⟩
theorem DX (σ:PH) (b db:Nat) (s:eZ) (d:av) (p:Option Addr) (c:Nat) (rows:List (List Value)) (l:List cy) (D:Int) (hr:cN 9 pR σ rows l) (hc:uS l=0) (hG:Good d s) (DK:s.gen<4611686018427387904) (hD:Kz D):
 ah Tryz.prog 232 #[ptr b,.slice p l.length c,i64 D] σ [aS 292 9 (.slice p l.length c) l.length rows.flatten,ck b db s,bW db d]
  (aA fun v aj al=>∃j:Nat,j≤l.length+5∧(j<l.length+5→D=(j:Int))∧(j=l.length+5→∀i:Nat,i<l.length+5→D≠(i:Int))∧v=.tuple #[.bool (decide (j=l.length+5)),i64 0]∧σ.sub aj∧al=[ck b db (if j=l.length+5 then eW s l else s),bW db (gH d s l j)]):=by
 refine X.ah.mX (enters Tryz.func232 rfl rfl) .head cm aH ?_;rintro aj ⟨⟩ hf hs;exact ah.ret (FX aj b db s d _ l D ((hr.mono (aj:=aj) (fun _ _ h=>h)).Cx rfl hf) hc hG.Ox hG.gen DK hD hG.abt) (fun v cL mY ⟨j,a1,a2,a3,a4,a5,a6⟩=>⟨j,a1,a2,a3,a4,hs.trans a5,a6⟩)
theorem x8:∀(l seen:List cy),(∀x∈l,0≤x.n∧x.n<14)→(l.map (·.n)).Nodup→(∀x∈l,∀y∈seen,y.n≠x.n)→lx seen l=0
 |[],_,_,_,_=>rfl
 |x::l,seen,h1,h2,h3=>by
  rw[lx,ag (fun q=>q (h1 x aZ)),ag (fun⟨y,hy,e⟩=>h3 x aZ y hy e)];rw[List.map_cons,List.nodup_cons] at h2;refine x8 l (seen++[x]) (fun y hy=>h1 y (List.mem_cons_of_mem _ hy)) h2.2 (fun y hy z hz=>?_);rcases List.mem_append.1 hz with hz|hz
  ·exact h3 y (List.mem_cons_of_mem _ hy) z hz
  ·rw[List.mem_singleton.1 hz];exact fun e=>h2.1 (e▸List.mem_map_of_mem (f:=(·.n)) hy)
theorem kJ {C:List (List Int)} {dt:List Bool}:∀{k:Nat} {x:cy},x∈dS C dt k→∃p:Nat,p<k∧x=⟨(p:Int),C.getD p av.bU⟩
 |0,x,h=>by cases h
 |k+1,x,h=>by
  rw[dS] at h;split at h
  ·rcases List.mem_append.1 h with h|h
   ·obtain⟨p,a,b⟩:=kJ h;exact⟨p,ad,b⟩
   ·exact⟨k,ad,List.mem_singleton.1 h⟩
  ·obtain⟨p,a,b⟩:=kJ h;exact⟨p,ad,b⟩
theorem nj (C:List (List Int)) (dt:List Bool):∀k,((dS C dt k).map (·.n)).Nodup
 |0=>List.nodup_nil
 |k+1=>by
  rw[dS];split
  ·rw[List.map_append,List.nodup_append];refine⟨nj C dt k,aZ,fun a ha b hb=>?_⟩;obtain⟨x,hx,rfl⟩:=List.mem_map.1 ha;obtain⟨p,hp,rfl⟩:=kJ hx;simp only[List.map_cons,List.map_nil,List.mem_singleton] at hb;subst hb;intro e;simp only at e;omega
  ·exact nj C dt k
theorem wG {C:List (List Int)} {dt:List Bool}:∀x∈cz C dt,0≤x.n∧x.n<14:=fun x hx=>by
 obtain⟨p,hp,rfl⟩:=kJ hx;simp only;omega
theorem vG (C:List (List Int)) (dt:List Bool):uS (cz C dt)=0:=x8 _ _ wG (nj C dt 14) (fun _ _ _ h=>by cases h)
theorem H6 {C:List (List Int)} {dt:List Bool} (h:fC C):∀x∈cz C dt,x.w.length=8:=fun x hx=>by
 obtain⟨p,hp,rfl⟩:=kJ hx;exact kI h hp
theorem H7 {W:List Int} {l:List cy} {x:cy} (p:Int):∀k,k≤l.length→F2 W (l++[x]) k p=F2 W l k p
 |0,_=>rfl
 |k+1,h=>by
  (have e1:(l++[x])[k]? =some l[k]:=by rw[List.getElem?_append_left ad,b9 ad]);rw[tJ e1,tJ (b9 (by omega:k<l.length)),H7 p k ad]
theorem Mg {W:List Int} {l:List cy} {x:cy} (p:Int):F2 W (l++[x]) (l++[x]).length p=if x.n=p then x.w else F2 W l l.length p:=by
 rw[bq,dZ,tJ (x:=x) aZ,H7 p _ (bX _)]
theorem AF (W:List Int) (C:List (List Int)) (dt:List Bool) (p:Nat):∀k,F2 W (dS C dt k) (dS C dt k).length p=if p<k∧dt.getD p false=true then C.getD p av.bU else W
 |0=>by rw[ag ad];rfl
 |k+1=>by
  have ih:=AF W C dt p k;rw[dS];by_cases hk:dt.getD k false=true
  ·rw[aq hk,Mg,ih];by_cases e:p=k
   ·subst e;rw[aq rfl,aq ⟨ad,hk⟩]
   ·rw[ag gF];by_cases h2:p<k∧dt.getD p false=true
    ·rw[aq h2,aq ⟨ad,h2.2⟩]
    ·rw[ag h2,ag (fun q=>h2 ⟨ad,q.2⟩)]
  ·rw[ag hk,ih];by_cases h2:p<k∧dt.getD p false=true
   ·rw[aq h2,aq ⟨ad,h2.2⟩]
   ·rw[ag h2,ag (fun q=>h2 ⟨by
     rcases Nat.lt_or_ge p k with z|z
     ·exact z
     ·have:p=k:=by omega
      subst this;exact absurd q.2 hk,q.2⟩)]
theorem BO (p:Nat):wu.getD p false=false:=by
 rw[wu,ey,List.getElem?_replicate];split<;>rfl
theorem F4:fC qY:=⟨by simp[qY],fun w hw=>by rw[List.eq_of_mem_replicate hw];rfl⟩
theorem r7.sync {d d':av} {s s':eZ} {inn dt:List Bool} {pg C:List (List Int)} (h:r7 d s inn dt pg C) (hp:∀p:Int,cC d' s' p=F2 (cC d s p) (cz C dt) (cz C dt).length p):r7 d' s' inn wu pg C∧∀p:Nat,p<14→cC d' s' p=C.getD p av.bU:=by
 have key:∀p:Nat,p<14→cC d' s' p=C.getD p av.bU:=fun p uY=>by
  rw[hp p];have:=AF (cC d s p) C dt p 14;refine this.trans ?_;by_cases hd:dt.getD p false=true
  ·rw[aq ⟨uY,hd⟩]
  ·rw[ag (fun q=>hd q.2)];exact(h.w8 p uY (by revert hd;cases dt.getD p false<;>simp)).symm
 refine⟨⟨h.li,rfl,h.pp,h.cc,fun p uY=>?_,fun p _ hq=>?_,fun p uY _=>(key p uY).symm⟩,key⟩
 ·split
  ·rename_i hi;rw[h.val p uY,aq hi]
  ·exact(key p uY).symm
 ·rw[BO] at hq;cases hq
def dP (d:av) (s:eZ):List (List Int):=(List.range 14).map fun p=>cC d s (p:Nat)
theorem iH (d:av) (s:eZ) {p:Nat} (hp:p<14):(dP d s).getD p av.bU=cC d s p:=by
 simp[dP,ey,List.getElem?_range hp]
theorem kg {d:av} (hd:d.ok) (s:eZ):fC (dP d s):=⟨by simp[dP],fun w hw=>by
 obtain⟨p,-,rfl⟩:=List.mem_map.1 hw
 exact uV hd s p⟩
theorem wH {P Q:List (List Int)} (hP:fC P) (hQ:fC Q) (h:∀p,p<14→P.getD p av.bU=Q.getD p av.bU):P=Q:=by
 refine List.ext_getElem (by rw[hP.1,hQ.1]) (fun i h1 h2=>?_);have:=h i (by rw[←hP.1];exact h1);simpa[ey,b9 h1,b9 h2] using this
theorem r7.new {d:av} (hd:d.ok) (s:eZ):r7 d s wu wu qY (dP d s):=by
 refine⟨rfl,rfl,F4,kg hd s,fun p hp=>?_,fun p _ hq=>?_,fun p hp _=>iH d s hp⟩
 ·rw[BO,ag aZ,iH d s hp]
 ·rw[BO] at hq;cases hq
theorem Mh (σ:PH) (b sb db:Nat) (d:av) (s:eZ) (inn dt:List Bool) (pg C:List (List Int)) (D:Int) (hG:Good d s) (DK:s.gen<4611686018427387904) (hD:Kz D) (h:r7 d s inn dt pg C):
 ah Tryz.prog 225 #[ptr b,i64 D] σ [aw b (bM sb inn dt pg) 242,ck sb db s,bW db d] (aA fun v aj al=>∃j:Nat,j≤(cz C dt).length+5∧(j<(cz C dt).length+5→D=(j:Int))∧(j=(cz C dt).length+5→∀i:Nat,i<(cz C dt).length+5→D≠(i:Int))∧v=.bool (decide (j=(cz C dt).length+5))∧σ.sub aj∧al=[aw b (bM sb inn (if j=(cz C dt).length+5 then wu else dt) pg) 242,ck sb db (if j=(cz C dt).length+5 then eW s (cz C dt) else s),bW db (gH d s (cz C dt) j)]):=by
 have o6:(bM sb inn dt pg)[0]? =some (ptr sb):=rfl;refine cw Tryz.func225 ?_;refine a8 ?_;refine XA.draw aC _ _ [7] [(0,.pu),(1,.pu),(2,.pu),(3,.rd),(4,.pu),(6,.pu),(5,.wr),(7,.wr),(8,.pu),(9,.pu),(10,.pu),(11,.pu),(12,.pu)] aC (PH.sub.refl _) (ar.bB (R:=aw b _ _) zL (ar.nil _)) ?_;refine a8 ?_;refine aP.fw rfl rfl Gd.free (ax.cE (H5 σ b sb d s inn dt pg C h) rfl) ?_;rintro _ _ _ ⟨_,⟨p,c,rows,rfl,hr,rfl,rfl⟩,rfl⟩;refine stays (aP.cl ?_);refine aP.b7 rfl rfl Gd.free aC (ax.cE (DX σ sb db s d p c rows (cz C dt) D hr (vG C dt) hG DK hD) rfl) ?_;rintro _ aj _ ⟨_,⟨j,wj,wD,Rx,rfl,hs,rfl⟩,rfl⟩;refine aP.cl ?_;refine dB ?_;have Zg:=uW (sb:=sb) h.li h.ld h.pp;by_cases hj:j=(cz C dt).length+5
 ·have iP:=PS (sb:=sb) (pg:=pg) (XH:=wu) h.li h.ld rfl;(have gf:15+QY.size≤(bM sb inn dt pg).length:=by rw[Zg];decide);rw[aq hj];refine XA.aY rfl (aM hj) ?_;refine aU ?_;refine zO rfl (Rd.WV (fun _ _=>ae) rfl rfl rfl) ?_;refine bm ?_;exact ao.ret (aB.one rfl rfl) (by rw[aq hj,aq hj];exact zE) ⟨j,wj,wD,Rx,rfl,hs,rfl⟩
 ·rw[ag hj];refine XA.aI rfl (aE hj) ?_;refine bt ?_;exact ao.ret (aB.one rfl rfl) (by rw[ag hj,ag hj];exact zE) ⟨j,wj,wD,Rx,rfl,hs,rfl⟩
theorem pD {P:List (List Int)} (h:fC P):P.flatten.length=112:=by
 have:=tG h
 rwa [dz] at this
theorem Rd.DY {P:Program} {ρ:Env} {S:Heap→Prop} {ty T T' e:TypeId} {x:Operand} {r:Ty} {a:Option Addr} (hT:aX P T=some r) (hk:r.k=.pointer e) (hx:ev ρ x=.pointer a):Rd P ρ S (.binOp .eql T x (.const (.pointer none)) T') ty (.bool a.isNone):=by
 (refine .pure fun d pos af gd w=>?_);obtain⟨dd,i,z,e1,e2,-⟩:=aF hT;rw[hk] at e2;(cases dd<;>simp[kindOf] at e2);rw[e2] at e1;(have hp:P.underlying T=some (.pointer (P.pointee T)):=by simp[Program.pointee,e1]);have h1:=run_equal_pointer_nil (P:=P) w T a hp;simp only[execOp,eqGuard,hx,ev,binOp,Sem.run_bind];simp[h1]
theorem Mj:dP av.new s0=qY:=wH (kg Good.new.HS s0) F4 (fun p hp=>by
 rw[iH _ _ hp,XE]
 rw[qY,ey,List.getElem?_replicate,aq hp];rfl)
theorem Mk (σ:PH) (b sb db:Nat) (d:av) (s:eZ) (inn dt:List Bool) (pg C:List (List Int)) (hG:Good d s) (DK:s.gen<4611686018427387904) (h:r7 d s inn dt pg C):
 ah Tryz.prog 225 #[ptr b,i64 (-1)] σ [aw b (bM sb inn dt pg) 242,ck sb db s,bW db d] (aA fun v aj al=>∃(d':av) (s':eZ),v=.bool true∧Good d' s'∧s'.gen=s.gen+1∧r7 d' s' inn wu pg C∧(∀p:Nat,p<14→cC d' s' p=C.getD p av.bU)∧σ.sub aj∧al=[aw b (bM sb inn wu pg) 242,ck sb db s',bW db d']):=by
 refine(Mh σ b sb db d s inn dt pg C (-1) hG DK ⟨au,au⟩ h).ret ?_;rintro v aj al ⟨j,wj,wD,Rx,rfl,hs,rfl⟩
 obtain rfl:j=(cz C dt).length+5:=by
  rcases Nat.lt_or_ge j ((cz C dt).length+5) with h|h
  ·have:=wD h;omega
  ·omega
 obtain⟨h1,h2⟩:=DO hG (H6 (dt:=dt) h.cc) (xU (vG C dt)).2.2 wG;obtain⟨h3,h4⟩:=h.sync (DT wG h2);exact⟨_,_,congrArg Value.bool (aM rfl),h1,rfl,h3,h4,hs,by rw[aq rfl,aq rfl]⟩
theorem X.ah.DZ {P:Program} {f:FuncId} {vs:Array Value} {σ:PH} {Γ:List HP} {R R':Value→PH→List HP→Prop} (h:ah P f vs σ Γ (aA R)) (hr:∀v aj al,R v aj al→∃Δ,ar al Δ∧R' v aj Δ):ah P f vs σ Γ (aA R'):=
 ⟨h.1,fun fr hp hh=>(h.2 fr hp hh).mono fun e h' ⟨aj,al,a,b⟩=>by
  cases e with
  |returned v=>obtain⟨Δ,e1,e2⟩:=hr v aj al a;exact⟨aj,Δ,e2,b.eX e1⟩
  |panicked c=>exact a.elim
  |outgrown=>exact a.elim⟩
structure Me where
 C:List (List Int)
 dt:List Bool
namespace Me
def ld (M:Me) (a:Int):Int:=gZ M.C a
def put (M:Me) (a w:Int):Me:=⟨kW M.C a w,BN M.C M.dt a w⟩
end Me
def gJ (mb sb db:Nat) (d:av) (s:eZ) (M:Me):HP:=fun m=>∃x:List Bool×List (List Int),(Good d s∧r7 d s x.1 M.dt x.2 M.C)∧Sat [aw mb (bM sb x.1 M.dt x.2) 242,ck sb db s,bW db d] m
theorem gJ.aW {mb sb db:Nat} {d:av} {s:eZ} {M:Me}:∀m,gJ mb sb db d s M m→∃x:List Bool×List (List Int),(Good d s∧r7 d s x.1 M.dt x.2 M.C)∧Sat [aw mb (bM sb x.1 M.dt x.2) 242,ck sb db s,bW db d] m:=fun _ h=>h
theorem gJ.mk {mb sb db:Nat} {d:av} {s:eZ} {C pg:List (List Int)} {inn dt:List Bool} (hG:Good d s) (hM:r7 d s inn dt pg C):∀m,Sat [aw mb (bM sb inn dt pg) 242,ck sb db s,bW db d] m→gJ mb sb db d s ⟨C,dt⟩ m:=fun _ h=>⟨(inn,pg),⟨hG,hM⟩,h⟩
theorem jM (σ:PH) (mb sb db:Nat) (d:av) (s:eZ) (M:Me) (a:Int):
 ah Tryz.prog 117 #[ptr mb,i64 a] σ [gJ mb sb db d s M] (aA fun v aj al=>v=i64 (M.ld a)∧σ=aj∧al=[gJ mb sb db d s M]):=by
 refine ah.aW .head gJ.aW (enters Tryz.func117 rfl rfl) ?_;rintro⟨inn,pg⟩ ⟨hG,hM⟩;refine(Tr σ mb sb db d s inn M.dt pg M.C a hG.HS hG.HV hM).DZ ?_;rintro v aj _ ⟨rfl,rfl,r8,DV,JF,rfl⟩;exact⟨_,ar.eS (ar.refl _) (gJ.mk hG JF),rfl,rfl,rfl⟩
theorem vH (σ:PH) (mb sb db:Nat) (d:av) (s:eZ) (M:Me) (a w:Int):
 ah Tryz.prog 196 #[ptr mb,i64 a,i64 w] σ [gJ mb sb db d s M] (aA fun v aj al=>v=.bool (decide (0≤a∧a<112))∧σ=aj∧al=[gJ mb sb db d s (M.put a w)]):=by
 refine ah.aW .head gJ.aW (enters Tryz.func196 rfl rfl) ?_;rintro⟨inn,pg⟩ ⟨hG,hM⟩;refine(XI σ mb sb db d s inn M.dt pg M.C a w hG.HS hG.HV hM).DZ ?_;rintro v aj _ ⟨rfl,rfl,r8,DV,JF,rfl⟩;exact⟨_,ar.eS (ar.refl _) (gJ.mk hG JF),rfl,rfl,rfl⟩
theorem D0 {d:av} {s:eZ} {C:List (List Int)} (hG:Good d s) (hC:fC C) (h:∀p:Nat,p<14→cC d s p=C.getD p av.bU):dP d s=C:=wH (kg hG.HS s) hC (fun p hp=>by rw[iH d s hp,h p hp])
theorem Tt (σ:PH) (mb sb db:Nat) (d:av) (s:eZ) (M:Me) (hg:s.gen<4611686018427387904):
 ah Tryz.prog 225 #[ptr mb,i64 (-1)] σ [gJ mb sb db d s M] (aA fun v aj al=>∃(d':av) (s':eZ),v=.bool true∧s'.gen=s.gen+1∧dP d' s'=M.C∧Good d' s'∧σ.sub aj∧al=[gJ mb sb db d' s' ⟨M.C,wu⟩]):=by
 refine ah.aW .head gJ.aW (enters Tryz.func225 rfl rfl) ?_;rintro⟨inn,pg⟩ ⟨hG,hM⟩;refine(Mk σ mb sb db d s inn M.dt pg M.C hG hg hM).DZ ?_;rintro v aj _ ⟨d',s',rfl,hG',VU,JF,hp,hs,rfl⟩;exact⟨_,ar.eS (ar.refl _) (gJ.mk hG' JF),d',s',rfl,VU,D0 hG' hM.cc hp,hG',hs,rfl⟩
theorem XL (σ:PH) (sb db:Nat) (d:av) (s:eZ) (hG:Good d s):
 ah Tryz.prog 150 #[ptr sb] σ [ck sb db s,bW db d] (aA fun v aj al=>∃mb,v=ptr mb∧σ=aj∧al=[gJ mb sb db d s ⟨dP d s,wu⟩]):=by
 refine(ah.DZ (R:=fun v aj al=>∃b,v=ptr b∧σ=aj∧al=[aw b (bM sb wu wu qY) 242,ck sb db s,bW db d]) ?_ ?_)
 ·refine((Ts σ sb).frame [ck sb db s,bW db d] (ar.refl _)).mono ?_;rintro e aj _ ⟨cr,h,rfl⟩
  cases e with
  |returned v=>obtain⟨b,e1,e2,rfl⟩:=h;exact⟨b,e1,e2,rfl⟩
  |panicked c=>exact h.elim
  |outgrown=>exact h.elim
 rintro v aj _ ⟨b,rfl,rfl,rfl⟩;exact⟨_,ar.eS (ar.refl _) (gJ.mk hG (r7.new hG.HS s)),b,rfl,rfl,rfl⟩
theorem AG {C:List (List Int)} {a:Int} (h:¬(0≤a∧a<112)):gZ C a=0:=by rw[gZ,ag h]
theorem JG {C:List (List Int)} (h:fC C) (a w:Int) {k:Nat} (hk:k<112):gZ (kW C a w) k=if (k:Int)=a then w else gZ C k:=by
 unfold kW;split
 ·rename_i hc;obtain⟨n,rfl⟩:=Int.eq_ofNat_of_zero_le hc.1.1;(have hn:n<112:=by omega);rw[uZ _ hk,uZ _ hk,Int.toNat_natCast,ml (by rw[h.1];omega)];by_cases e:k/8=n/8
  ·rw[aq e,DL (by rw[kI h ad];omega)];by_cases e2:k%8=n%8
   ·rw[aq e2,aq ad]
   ·rw[ag e2,ag ad,e]
  ·rw[ag e,ag ad]
 ·rename_i hc;split
  ·rename_i e;subst e;exact Classical.byContradiction fun q=>hc ⟨ad,q⟩
  ·rfl
structure In where
 op:Int
 a:Int
 b:Int
 n:Int
deriving DecidableEq
def Oy (i:In):List Value:=[i64 i.op,i64 i.a,i64 i.b,i64 i.n]
def ir (vs:List Va) (v:Int):Int:=(vs[v.toNat]?.map (·.size)).getD 0
def ly (vs:List Va) (op v n:Int):In:=⟨op,if op=2∨op=3 then cellOf vs v else 0,if op=3 then ir vs v else 0,n⟩
mutual
def ay (vs:List Va):Ex→List In
 |.mk op v n l=>bO vs l++[ly vs op v n]
def bO (vs:List Va):List Ex→List In
 |[]=>[]
 |x::l=>ay vs x++bO vs l
end
mutual
def bj (vs:List Va):St→Nat→List In
 |.mk op v e f body dn,at_=>
  let l:=if dE op then ay vs e else []
  if op=1 then l++[⟨9,cellOf vs v,0,0⟩]
  else if op=2 then l++ay vs f++[⟨10,cellOf vs v,ir vs v,0⟩]
  else if op=3 then l++[⟨11,0,0,0⟩]
  else if op=4 then l++[⟨12,cellOf vs v,0,0⟩]
  else if op=5 then
   let b:=aK vs body (at_+l.length+1)
   l++[⟨13,(at_+l.length+1+b.length+1:Nat),0,0⟩]++b++[⟨14,(at_:Nat),0,0⟩]
  else if op=6 then
   let b:=aK vs body (at_+l.length+1)
   let o:=aK vs dn (at_+l.length+1+b.length+1)
   l++[⟨13,(at_+l.length+1+b.length+1:Nat),0,0⟩]++b++[⟨14,(at_+l.length+1+b.length+1+o.length:Nat),0,0⟩]++o
  else if op=7 then [⟨15,0,0,0⟩]
  else l
def aK (vs:List Va):List St→Nat→List In
 |[],_=>[]
 |x::l,at_=>bj vs x at_++aK vs l (at_+(bj vs x at_).length)
end
def ak (p:Pr):List In:=aK p.vars p.body 0++[⟨16,0,0,0⟩]
theorem vI (vs:List Va):∀(l m:List Ex),bO vs (l++m)=bO vs l++bO vs m
 |[],m=>by simp[bO]
 |x::l,m=>by rw[List.cons_append,bO,bO,vI vs l m,List.append_assoc]
theorem tK (vs:List Va) {l:List Ex} {k:Nat} {x:Ex} (h:l[k]? =some x):bO vs (l.take (k+1))=bO vs (l.take k)++ay vs x:=by
 rw[List.take_add_one,h];simp[vI,bO]
theorem vJ (vs:List Va):∀(l m:List St) (k:Nat),aK vs (l++m) k=aK vs l k++aK vs m (k+(aK vs l k).length)
 |[],m,k=>by simp[aK]
 |x::l,m,k=>by rw[List.cons_append,aK,aK,vJ vs l m,List.append_assoc,bq,Nat.add_assoc]
theorem tL (vs:List Va) {l:List St} {k:Nat} {x:St} (h:l[k]? =some x) (j:Nat):aK vs (l.take (k+1)) j=aK vs (l.take k) j++bj vs x (j+(aK vs (l.take k) j).length):=by
 rw[List.take_add_one,h];simp[vJ,aK]
theorem oJ (vs:List Va):∀(l:List Ex),(∀x∈l,(ay vs x).length=uD x)→(bO vs l).length=lV l
 |[],_=>rfl
 |x::l,h=>by rw[bO,lV,bq,h x aZ,oJ vs l (fun y hy=>h y (by simp[hy]))]
theorem iI (vs:List Va) (x:Ex):(ay vs x).length=uD x:=by
 refine Ex.ind (P:=fun x=>(ay vs x).length=uD x) ?_ x;intro op v n l ih;rw[ay,uD,bq,oJ vs l ih,dZ,Nat.add_comm]
theorem vK (vs:List Va) (l:List Ex):(bO vs l).length=lV l:=oJ vs l (fun x _=>iI vs x)
theorem lz (vs:List Va):∀(l:List St),(∀x∈l,∀k,(bj vs x k).length≤Bq x)→∀k,(aK vs l k).length≤fh l
 |[],_,_=>cg _
 |x::l,h,k=>by
  have h1:=h x aZ k;have h2:=lz vs l (fun y hy=>h y (by simp[hy])) (k+(bj vs x k).length);rw[aK,fh,bq];omega
theorem x9 (vs:List Va) (x:St):∀k,(bj vs x k).length≤Bq x:=by
 refine St.ind (P:=fun x=>∀k,(bj vs x k).length≤Bq x) ?_ x;intro op v e f body dn ih jh k;have hb:=lz vs body ih;have he:=lz vs dn jh;have h1:=lj e;have h2:=lj f;(have hl:(if dE op then ay vs e else []).length≤uD e:=by split<;>simp[iI]);rw[bj,Bq];have Ml:=hb (k+(if dE op then ay vs e else []).length+1);have SO:=he (k+(if dE op then ay vs e else []).length+1+(aK vs body (k+(if dE op then ay vs e else []).length+1)).length+1);by_cases g1:op=1
 ·simp only[g1,if_true,bq,dZ] at*;omega
 by_cases g2:op=2
 ·simp only[g2,show ¬(2:Int)=1 by decide,if_true,if_false,bq,dZ,iI] at*;omega
 by_cases g3:op=3
 ·simp only[g3,show ¬(3:Int)=1 by decide,show ¬(3:Int)=2 by decide,if_true,if_false,bq,dZ] at*;omega
 by_cases g4:op=4
 ·simp only[g4,show ¬(4:Int)=1 by decide,show ¬(4:Int)=2 by decide,show ¬(4:Int)=3 by decide,if_true,if_false,bq,dZ] at*;omega
 simp only[g1,g2,g3,g4,if_false];generalize (if dE op then ay vs e else [])=L at*;by_cases g5:op=5
 ·rw[aq g5];simp only[bq,dZ];omega
 rw[ag g5];by_cases g6:op=6
 ·rw[aq g6];simp only[bq,dZ];omega
 rw[ag g6];by_cases g7:op=7
 ·rw[aq g7];simp only[dZ];omega
 rw[ag g7];omega
theorem eO (vs:List Va) (l:List St) (k:Nat):(aK vs l k).length≤fh l:=lz vs l (fun x _=>x9 vs x) k
mutual
def JH:Ex→Nat
 |.mk _ _ _ l=>1+F5 l
def F5:List Ex→Nat
 |[]=>0
 |x::l=>max (JH x) (F5 l)
end
mutual
def uo (nv:Nat):Ex→Prop
 |.mk op v n l=>(1≤op∧op≤8)∧(l.length:Int)=partsOf op∧(op=2∨op=3→0≤v∧v<nv)∧(n≠0→op=1)∧BP nv l
def BP (nv:Nat):List Ex→Prop
 |[]=>True
 |x::l=>uo nv x∧BP nv l
end
mutual
def D1 (nv:Nat):St→Prop
 |.mk op v e f body dn=>(1≤op∧op≤7)∧(k7 op=true→0≤v∧v<nv)∧(dE op=true→uo nv e∧JH e≤12)∧(fS op=true→uo nv f∧JH f≤12)∧(jw op=false→body=[])∧(jj op=false→dn=[])∧tM nv body∧tM nv dn
def tM (nv:Nat):List St→Prop
 |[]=>True
 |x::l=>D1 nv x∧tM nv l
end
theorem BP.mem {nv:Nat}:∀{l:List Ex},BP nv l→∀x∈l,uo nv x
 |[],_,_,h=>by simp at h
 |y::l,h,x,hx=>by
  rw[BP] at h;rcases List.mem_cons.1 hx with rfl|hx
  ·exact h.1
  ·exact BP.mem h.2 x hx
theorem tM.mem {nv:Nat}:∀{l:List St},tM nv l→∀x∈l,D1 nv x
 |[],_,_,h=>by simp at h
 |y::l,h,x,hx=>by
  rw[tM] at h;rcases List.mem_cons.1 hx with rfl|hx
  ·exact h.1
  ·exact tM.mem h.2 x hx
theorem mS {e:JE} {b:Bool} {c l:Int} (h:e.fail b c=.ok l):e=.ok l∧b=false:=by
 cases e with
 |error d=>simp[JE.fail] at h
 |ok a=>cases b<;>simp[JE.fail] at h⊢;exact h
theorem H8 {e:JE} {d l:Int} (h:e.one d=.ok l):d≤12∧∃a,e=.ok a:=by
 cases e with
 |error c=>simp[JE.one] at h
 |ok a=>
  simp only[JE.one] at h;split at h
  ·simp at h
  ·exact⟨ad,a,rfl⟩
theorem JJ {nv deep op v n a b:Int} {k:Nat} (h:ec nv deep op v n k (.ok a)=.ok b):
 deep≤12∧(1≤op∧op≤8)∧(k:Int)=partsOf op∧(op=2∨op=3→0≤v∧v<nv)∧(n≠0→op=1):=by
 rw[ec,JE.named] at h;obtain⟨h,h5⟩:=mS h;obtain⟨h,h4⟩:=mS h;obtain⟨h,h3⟩:=mS h;obtain⟨h,h2⟩:=mS h;obtain⟨h1,-⟩:=H8 h;simp only[decide_eq_false_iff_not] at h2 h3;refine⟨h1,?_,ad,?_,fun hn=>by omega⟩
 ·(have:0≤partsOf op:=by omega);rw[partsOf] at this;constructor<;> · (repeat' split at this);(all_goals omega)
 ·intro ho;simp only[ho,decide_true,Bool.true_and,decide_eq_false_iff_not] at h4;omega
theorem H9 {nv:Nat}:∀(l:List Ex),(∀x∈l,∀deep a b:Int,lT nv deep x (.ok a)=.ok b→uo nv x∧deep+JH x≤13)→∀deep a b:Int,deep≤13→iD nv deep l (.ok a)=.ok b→BP nv l∧deep+F5 l≤13
 |[],_,deep,a,b,hd,_=>by rw[BP,F5];exact⟨trivial,ad⟩
 |x::l,h,deep,a,b,hd,hx=>by
  rw[iD] at hx
  cases e:lT nv deep x (.ok a) with
  |error c=>rw[e,pJ] at hx;cases hx
  |ok a1=>
   rw[e] at hx;obtain⟨g1,g2⟩:=h x aZ deep a a1 e;obtain⟨g3,g4⟩:=H9 l (fun y hy=>h y (by simp[hy])) deep a1 b hd hx;rw[BP,F5];exact⟨⟨g1,g3⟩,ad⟩
theorem Mm {nv:Nat} (x:Ex):∀deep a b:Int,lT nv deep x (.ok a)=.ok b→uo nv x∧deep+JH x≤13:=by
 refine Ex.ind (P:=fun x=>∀deep a b:Int,lT nv deep x (.ok a)=.ok b→uo nv x∧deep+JH x≤13) ?_ x;intro op v n l ih deep a b h;rw[lT] at h
 cases e:ec nv deep op v n l.length (.ok a) with
 |error c=>rw[e,pJ] at h;cases h
 |ok a1=>
  rw[e] at h;obtain⟨g1,g2,g3,g4,g5⟩:=JJ e;obtain⟨g6,g7⟩:=H9 l ih (deep+1) a1 b ad h;rw[uo,JH];exact⟨⟨g2,g3,g4,g5,g6⟩,ad⟩
theorem JK {nv deep op v a b:Int} {e f:Ex} {kb ke:Nat} (h:gh nv deep op v e f kb ke (.ok a)=.ok b):
 deep≤12∧(1≤op∧op≤7)∧(k7 op=true→0≤v∧v<nv)∧(jw op=false→kb=0)∧(jj op=false→ke=0):=by
 rw[gh,JE.named] at h;obtain⟨h,h5⟩:=mS h;obtain⟨h,h4⟩:=mS h;obtain⟨h,h3⟩:=mS h;obtain⟨h,h2⟩:=mS h;obtain⟨h1,-⟩:=H8 h;simp only[decide_eq_false_iff_not] at h2;simp only[lU,Bool.or_eq_false_iff,Bool.and_eq_false_imp,Bool.not_eq_true',decide_eq_false_iff_not] at h3;refine⟨h1,ad,?_,?_,?_⟩
 ·intro ho;simp only[ho,Bool.true_and,decide_eq_false_iff_not] at h4;omega
 ·intro hb;have:=h3.1.2 hb;omega
 ·intro hb;have:=h3.2 hb;omega
theorem wI {nv:Nat}:∀(l:List St),(∀x∈l,∀deep a b:Int,0≤deep→rO nv deep x (.ok a)=.ok b→D1 nv x)→∀deep a b:Int,0≤deep→ej nv deep l (.ok a)=.ok b→tM nv l
 |[],_,deep,a,b,_,_=>by rw[tM];trivial
 |x::l,h,deep,a,b,hd,hx=>by
  rw[ej] at hx
  cases e:rO nv deep x (.ok a) with
  |error c=>rw[e,gY] at hx;cases hx
  |ok a1=>
   rw[e] at hx;rw[tM];exact⟨h x aZ deep a a1 hd e,wI l (fun y hy=>h y (by simp[hy])) deep a1 b hd hx⟩
theorem Tv {nv:Nat} (x:St):∀deep a b:Int,0≤deep→rO nv deep x (.ok a)=.ok b→D1 nv x:=by
 refine St.ind (P:=fun x=>∀deep a b:Int,0≤deep→rO nv deep x (.ok a)=.ok b→D1 nv x) ?_ x;intro op v e f body dn ih jh deep a b hd h;rw[rO] at h
 cases e1:gh nv deep op v e f body.length dn.length (.ok a) with
 |error c=>rw[e1,xq,gY,gY] at h;cases h
 |ok a1=>
  rw[e1] at h
  cases e2:rN nv (deep+1) op e f (.ok a1) with
  |error c=>rw[e2,gY,gY] at h;cases h
  |ok a2=>
   rw[e2] at h
   cases e3:ej nv (deep+1) body (.ok a2) with
   |error c=>rw[e3,gY] at h;cases h
   |ok a3=>
    rw[e3] at h;obtain⟨g1,g2,g3,g4,g5⟩:=JK e1;have hb:=wI body ih (deep+1) a2 a3 ad e3;have he:=wI dn jh (deep+1) a3 b ad h;rw[D1];rw[rN] at e2;refine⟨g2,g3,?_,?_,fun hn=>List.eq_nil_of_length_eq_zero (g4 hn),fun hn=>List.eq_nil_of_length_eq_zero (g5 hn),hb,he⟩
    ·intro hn;rw[aq hn] at e2
     cases e4:lT nv (deep+1) e (.ok a1) with
     |error c=>simp only[e4,oq,ite_self] at e2;cases e2
     |ok a4=>obtain⟨k1,k2⟩:=Mm e _ _ _ e4;exact⟨k1,ad⟩
    ·intro hn;simp only[hn,if_true] at e2
     cases e4:(if dE op=true then lT nv (deep+1) e (.ok a1) else .ok a1:JE) with
     |error c=>rw[e4,oq] at e2;cases e2
     |ok a4=>rw[e4] at e2;obtain⟨k1,k2⟩:=Mm f _ _ _ e2;exact⟨k1,ad⟩
theorem dw {p:Pr} (h:bZ p=0):tM p.vars.length p.body∧p.vars.length≤8∧(∀x∈p.vars,1≤x.size)∧sizes p.vars≤48:=by
 obtain⟨h1,b,h2⟩:=Lh h;exact⟨wI p.body (fun x _=>Tv x) 0 150 b (Int.le_refl _) h2,C9 h1⟩
def cF (op:Int):Int:=if op=3 then 1 else if 4≤op∧op≤8 then 2 else if op=9∨op=11∨op=13 then 1 else if op=10 then 2 else 0
def jf (op:Int):Int:=if 1≤op∧op≤8 then 1 else 0
def dl (x:In):Int:=jf x.op-cF x.op
def pq (l:List In):Int:=(l.map dl).sum
theorem wJ:pq []=0:=rfl
theorem ya (x:In) (l:List In):pq (x::l)=dl x+pq l:=by simp[pq]
theorem eu (l m:List In):pq (l++m)=pq l+pq m:=by simp[pq,List.sum_append]
theorem kv (x:In):pq [x]=dl x:=by simp[pq]
def r9 (cells:Int) (x:In):Prop:=((x.op=2∨x.op=9∨x.op=12)→0≤x.a∧x.a<cells)∧((x.op=3∨x.op=10)→0≤x.a∧1≤x.b∧x.a+x.b≤cells)
def Fit (cells:Int):Int→List In→Prop
 |_,[]=>True
 |n,x::l=>(cF x.op≤n∧n+dl x≤24∧((x.op=13∨x.op=14)→n+dl x=0)∧r9 cells x∧x.op≠16)∧Fit cells (n+dl x) l
theorem Fit.app {cells:Int}:∀{l m:List In} {n:Int},Fit cells n l→Fit cells (n+pq l) m→Fit cells n (l++m)
 |[],m,n,_,h=>by rw[wJ,Int.add_zero] at h;exact h
 |x::l,m,n,h,g=>by
  rw[Fit] at h;rw[ya] at g;rw[List.cons_append,Fit];exact⟨h.1,Fit.app h.2 (by rw[Int.add_assoc];exact g)⟩
theorem Fit.at {cells:Int}:∀{l:List In} {n:Int},Fit cells n l→∀{i:Nat} {x:In},l[i]? =some x→cF x.op≤n+pq (l.take i)∧n+pq (l.take (i+1))≤24∧((x.op=13∨x.op=14)→n+pq (l.take (i+1))=0)∧r9 cells x∧x.op≠16
 |[],_,_,_,_,hx=>by simp at hx
 |y::l,n,h,0,x,hx=>by
  simp only[List.getElem?_cons_zero,Option.some.injEq] at hx;subst hx;rw[Fit] at h;simp only[List.take_zero,wJ,Int.add_zero,List.take_succ_cons,ya];exact h.1
 |y::l,n,h,i+1,x,hx=>by
  simp only[List.getElem?_cons_succ] at hx;rw[Fit] at h;have:=Fit.at h.2 hx;simp only[List.take_succ_cons,ya,←Int.add_assoc];exact this
theorem nP {vs:List Va} {v:Int} {x:Va} (h:vs[v.toNat]? =some x):ir vs v=x.size:=by rw[ir,h];rfl
theorem nk {vs:List Va} (h1:∀x∈vs,1≤x.size) {v:Int} (h:0≤v∧v<vs.length):∃x,vs[v.toNat]? =some x∧ir vs v=x.size∧0≤cellOf vs v∧1≤ir vs v∧cellOf vs v+ir vs v≤sizes vs:=by
 (have aV:v.toNat<vs.length:=by omega);have hx:vs[v.toNat]? =some vs[v.toNat]:=b9 aV;have e:=rP vs v.toNat _ hx;have a:=(Da h1 (v.toNat)).1;have b:=(Da h1 (v.toNat+1)).2;have c:=h1 _ (List.getElem_mem aV);refine⟨_,hx,nP hx,a,by rw[nP hx];exact c,?_⟩;rw[nP hx,cellOf,←e];exact b
theorem PU {vs:List Va} (h1:∀x∈vs,1≤x.size) {op v n:Int} (uF:1≤op∧op≤8) (hv:op=2∨op=3→0≤v∧v<vs.length):r9 (sizes vs) (ly vs op v n):=by
 refine⟨fun h=>?_,fun h=>?_⟩
 ·simp only[ly] at h;(have h2:op=2:=by omega);obtain⟨x,-,-,c,d,e⟩:=nk h1 (hv (.inl h2));simp only[ly,h2,true_or,if_true];omega
 ·simp only[ly] at h;(have h2:op=3:=by omega);obtain⟨x,-,-,c,d,e⟩:=nk h1 (hv (.inr h2));simp only[ly,h2,or_true,if_true];exact⟨c,d,e⟩
theorem yb {op:Int} (h:1≤op∧op≤8):cF op=partsOf op:=by
 rw[cF,partsOf]
 repeat' split
 all_goals omega
theorem Mn {op:Int} (h:1≤op∧op≤8):jf op=1:=aq h
theorem Mp (vs:List Va) (op v n:Int):(ly vs op v n).op=op:=rfl
theorem Ia {vs:List Va} (h1:∀x∈vs,1≤x.size):∀(l:List Ex),(∀x∈l,∀n:Int,0≤n→n+JH x≤24→Fit (sizes vs) n (ay vs x)∧pq (ay vs x)=1)→∀n:Int,0≤n→n+l.length+F5 l≤25→Fit (sizes vs) n (bO vs l)∧pq (bO vs l)=l.length
 |[],_,n,_,_=>⟨trivial,rfl⟩
 |x::l,h,n,h0,hn=>by
  rw[F5,bF] at hn;obtain⟨a,b⟩:=h x aZ n h0 ad;obtain⟨c,d⟩:=Ia h1 l (fun y hy=>h y (by simp[hy])) (n+1) ad ad;rw[bO];refine⟨a.app (by rw[b];exact c),?_⟩;rw[eu,b,d,bF];omega
theorem Tw {vs:List Va} (h1:∀x∈vs,1≤x.size) (x:Ex):uo vs.length x→∀n:Int,0≤n→n+JH x≤24→Fit (sizes vs) n (ay vs x)∧pq (ay vs x)=1:=by
 refine Ex.ind (P:=fun x=>uo vs.length x→∀n:Int,0≤n→n+JH x≤24→Fit (sizes vs) n (ay vs x)∧pq (ay vs x)=1) ?_ x;intro op v k l ih hx n h0 hn;rw[uo] at hx;obtain⟨uF,hl,hv,-,hs⟩:=hx;rw[JH] at hn;(have hp:(l.length:Int)≤2:=by(rw[hl,partsOf];repeat' split);(all_goals omega));obtain⟨a,b⟩:=Ia h1 l (fun y hy n h0 hn=>ih y hy (hs.mem y hy) n h0 hn) n h0 ad;rw[ay];(have hd:dl (ly vs op v k)=1-l.length:=by rw[dl,Mp,Mn uF,yb uF,hl]);refine⟨a.app ?_,?_⟩
 ·rw[b,Fit,Mp,yb uF,←hl,hd];refine⟨⟨ad,ad,fun h=>by omega,PU h1 uF hv,ad⟩,trivial⟩
 ·rw[eu,b,kv,hd];omega
def Ib (at_:Nat) (L:List In) (x:In):Prop:=(x.op=13∨x.op=14)→∃j:Nat,x.a=(at_+j:Nat)∧j≤L.length∧pq (L.take j)=0
theorem Ib.lift {at_:Nat} {A L B:List In} {x:In} (h:Ib (at_+A.length) L x) (hA:pq A=0):Ib at_ (A++L++B) x:=fun ho=>by
 obtain⟨j,e,hj,hz⟩:=h ho;refine⟨A.length+j,by rw[e];congr 1;omega,by simp only[bq];omega,?_⟩;rw[List.append_assoc,List.take_length_add_append,eu,hA,List.take_append_of_le_length hj,hz];rfl
theorem Ib.none {at_:Nat} {L:List In} {x:In} (h:x.op≠13∧x.op≠14):Ib at_ L x:=fun ho=>by omega
theorem AH {vs:List Va}:∀(l:List Ex),(∀x∈l,∀y∈ay vs x,1≤y.op∧y.op≤8)→∀y∈bO vs l,1≤y.op∧y.op≤8
 |[],_,y,hy=>by simp[bO] at hy
 |x::l,h,y,hy=>by
  rw[bO,List.mem_append] at hy;rcases hy with hy|hy
  ·exact h x aZ y hy
  ·exact AH l (fun z hz=>h z (by simp[hz])) y hy
theorem Mq {vs:List Va} {nv:Nat} (x:Ex):uo nv x→∀y∈ay vs x,1≤y.op∧y.op≤8:=by
 refine Ex.ind (P:=fun x=>uo nv x→∀y∈ay vs x,1≤y.op∧y.op≤8) ?_ x;intro op v k l ih hx y hy;rw[uo] at hx;rw[ay,List.mem_append,List.mem_singleton] at hy;rcases hy with hy|rfl
 ·exact AH l (fun z hz=>ih z hz (hx.2.2.2.2.mem z hz)) y hy
 ·exact hx.1
def Piece (cells:Int) (at_:Nat) (L:List In):Prop:=Fit cells 0 L∧pq L=0∧∀x∈L,Ib at_ L x
theorem Piece.nil {cells:Int} {at_:Nat}:Piece cells at_ []:=⟨trivial,rfl,fun x h=>by simp at h⟩
theorem Piece.app {cells:Int} {at_:Nat} {L M:List In} (h:Piece cells at_ L) (g:Piece cells (at_+L.length) M):Piece cells at_ (L++M):=by
 refine⟨h.1.app (by rw[h.2.1];exact g.1),by rw[eu,h.2.1,g.2.1];rfl,fun x hx=>?_⟩;rcases List.mem_append.1 hx with hx|hx
 ·have:=Ib.lift (A:=[]) (B:=M) (h.2.2 x hx) rfl;simpa using this
 ·have:=Ib.lift (A:=L) (B:=[]) (g.2.2 x hx) h.2.1;simpa using this
theorem Piece.plain {cells:Int} {at_:Nat} {L:List In} (h:Fit cells 0 L) (hz:pq L=0) (hs:∀x∈L,x.op≠13∧x.op≠14):Piece cells at_ L:=⟨h,hz,fun x hx=>Ib.none (hs x hx)⟩
theorem qP {vs:List Va} {cells:Int}:∀(l:List St),(∀x∈l,∀k,Piece cells k (bj vs x k))→∀k,Piece cells k (aK vs l k)
 |[],_,k=>by rw[aK];exact Piece.nil
 |x::l,h,k=>by rw[aK];exact(h x aZ k).app (qP l (fun y hy=>h y (by simp[hy])) _)
theorem Fit.snoc {cells:Int} {L:List In} {x:In} {n m:Int} (h:Fit cells n L) (hm:n+pq L=m) (h1:cF x.op≤m) (h2:m+dl x≤24) (h3:(x.op=13∨x.op=14)→m+dl x=0) (h4:r9 cells x) (h5:x.op≠16):Fit cells n (L++[x]):=
 h.app (by rw[hm];exact⟨⟨h1,h2,h3,h4,h5⟩,trivial⟩)
theorem Mr {vs:List Va} (h1:∀x∈vs,1≤x.size) (x:St):D1 vs.length x→∀k,Piece (sizes vs) k (bj vs x k):=by
 refine St.ind (P:=fun x=>D1 vs.length x→∀k,Piece (sizes vs) k (bj vs x k)) ?_ x;intro op v e f body dn ih jh hx k;rw[D1] at hx;obtain⟨uF,hv,he,hf,hb,ho,o6,mG⟩:=hx;have hB:=qP (cells:=sizes vs) body (fun y hy=>ih y hy (o6.mem y hy));have hE:=qP (cells:=sizes vs) dn (fun y hy=>jh y hy (mG.mem y hy));(have hex:∀{z:Ex} {n:Int},uo vs.length z∧JH z≤12→0≤n→n≤12→Fit (sizes vs) n (ay vs z)∧pq (ay vs z)=1:=fun hz h0 hn=>Tw h1 _ hz.1 _ h0 (by have:=hz.2;omega));(have zc:∀{z:Ex},uo vs.length z∧JH z≤12→∀y∈ay vs z,y.op≠13∧y.op≠14:=fun hz y hy=>by have:=Mq _ hz.1 y hy;omega);rw[bj];(have c0:∀{o a b n:Int},(o=11∨o=13∨o=14∨o=15)→r9 (sizes vs) ⟨o,a,b,n⟩:=fun h=>⟨fun g=>by simp only at g;omega,fun g=>by simp only at g;omega⟩);by_cases g1:op=1
 ·subst g1;obtain⟨a,b⟩:=hex (n:=0) (he rfl) au au;obtain⟨y,-,-,c,d,e'⟩:=nk h1 (hv rfl);simp only[show dE 1=true from rfl,if_true];(refine Piece.plain (a.snoc (m:=1) (by rw[b];rfl) (by simp[cF]) (by simp[dl,cF,jf]) (fun g=>by simp at g) ⟨fun _=>⟨c,gF⟩,fun g=>by simp at g⟩ aZ) (by rw[eu,b,kv];rfl) fun y hy=>?_);rcases List.mem_append.1 hy with hy|hy
  ·exact zc (he rfl) y hy
  ·rw[List.mem_singleton.1 hy];constructor<;>simp
 by_cases g2:op=2
 ·subst g2;obtain⟨a,b⟩:=hex (n:=0) (he rfl) au au;obtain⟨a',b'⟩:=hex (n:=1) (hf rfl) au au;obtain⟨y,-,-,c,d,e'⟩:=nk h1 (hv rfl);simp only[show dE 2=true from rfl,if_true,show ¬(2:Int)=1 by decide,if_false];(refine Piece.plain ((a.app (m:=ay vs f) (by rw[b];exact a')).snoc (m:=2) (by rw[eu,b,b'];rfl) (by simp[cF]) (by simp[dl,cF,jf]) (fun g=>by simp at g) ⟨fun g=>by simp at g,fun _=>⟨c,d,e'⟩⟩ aZ) (by rw[eu,eu,b,b',kv];rfl) fun y hy=>?_);rcases List.mem_append.1 hy with hy|hy
  ·rcases List.mem_append.1 hy with hy|hy
   ·exact zc (he rfl) y hy
   ·exact zc (hf rfl) y hy
  ·rw[List.mem_singleton.1 hy];constructor<;>simp
 by_cases g3:op=3
 ·subst g3;obtain⟨a,b⟩:=hex (n:=0) (he rfl) au au;simp only[show dE 3=true from rfl,if_true,show ¬(3:Int)=1 by decide,show ¬(3:Int)=2 by decide,if_false];(refine Piece.plain (a.snoc (m:=1) (by rw[b];rfl) (by simp[cF]) (by simp[dl,cF,jf]) (fun g=>by simp at g) (c0 au) aZ) (by rw[eu,b,kv];rfl) fun y hy=>?_);rcases List.mem_append.1 hy with hy|hy
  ·exact zc (he rfl) y hy
  ·rw[List.mem_singleton.1 hy];constructor<;>simp
 by_cases g4:op=4
 ·subst g4;obtain⟨y,-,-,c,d,e'⟩:=nk h1 (hv rfl);simp only[show dE 4=false from rfl,if_true,show ¬(4:Int)=1 by decide,show ¬(4:Int)=2 by decide,show ¬(4:Int)=3 by decide,if_false,Bool.false_eq_true];(refine Piece.plain (Fit.snoc (L:=[]) (m:=0) trivial rfl (by simp[cF]) (by simp[dl,cF,jf]) (fun g=>by simp at g) ⟨fun _=>⟨c,gF⟩,fun g=>by simp at g⟩ aZ) rfl fun y hy=>?_);rw[List.nil_append] at hy;rw[List.mem_singleton.1 hy];constructor<;>simp
 by_cases g7:op=7
 ·subst g7;simp only[show dE 7=false from rfl,if_true,show ¬(7:Int)=1 by decide,show ¬(7:Int)=2 by decide,show ¬(7:Int)=3 by decide,show ¬(7:Int)=4 by decide,show ¬(7:Int)=5 by decide,show ¬(7:Int)=6 by decide,if_false,Bool.false_eq_true];(refine Piece.plain (Fit.snoc (L:=[]) (m:=0) trivial rfl (by simp[cF]) (by simp[dl,cF,jf]) (fun g=>by simp at g) (c0 au) aZ) rfl fun y hy=>?_);rw[List.mem_singleton.1 hy];constructor<;>simp
 simp only[g1,g2,g3,g4,g7,if_false];(have XM:op=5∨op=6:=by omega);(have ix:dE op=true:=by rcases XM with rfl|rfl<;>rfl);obtain⟨a,b⟩:=hex (n:=0) (he ix) au au;have o5:=zc (he ix);rw[aq ix]
 have head:∀t:Int,Fit (sizes vs) 0 (ay vs e++[⟨13,t,0,0⟩])∧pq (ay vs e++[⟨13,t,0,0⟩])=0:=fun t=>
  ⟨a.snoc (m:=1) (by rw[b];rfl) (by simp[cF]) (by simp[dl,cF,jf]) (fun _=>by simp[dl,cF,jf]) (c0 au) aZ,by rw[eu,b,kv];rfl⟩
 have rB:=hB (k+(ay vs e).length+1);generalize hbe:aK vs body (k+(ay vs e).length+1)=Bc at rB⊢;generalize Vy:aK vs dn (k+(ay vs e).length+1+Bc.length+1)=Ec;have Ms:=hE (k+(ay vs e).length+1+Bc.length+1);rw[Vy] at Ms;clear hbe Vy;generalize ay vs e=C at*;by_cases g5:op=5
 ·rw[aq g5];refine⟨Fit.snoc (m:=0) ((head _).1.app (by rw[(head _).2];exact rB.1)) (by rw[eu,(head _).2,rB.2.1];rfl) (by simp[cF]) (by simp[dl,cF,jf]) (fun _=>by simp[dl,cF,jf]) (c0 au) aZ,by rw[eu,eu,(head _).2,rB.2.1,kv];rfl,?_⟩;intro y hy;rcases List.mem_append.1 hy with hy|hy
  ·rcases List.mem_append.1 hy with hy|hy
   ·rcases List.mem_append.1 hy with hy|hy
    ·exact Ib.none (o5 y hy)
    ·rw[List.mem_singleton.1 hy];(refine fun _=>⟨C.length+1+Bc.length+1,by simp only;congr 1;omega,vA,?_⟩);rw[List.take_of_length_le vA,eu,eu,(head _).2,rB.2.1,kv];rfl
   ·refine Ib.lift (by rw[bq,dZ,←Nat.add_assoc];exact rB.2.2 y hy) (head _).2
  ·rw[List.mem_singleton.1 hy];exact fun _=>⟨0,rfl,cg _,rfl⟩
 rw[ag g5,aq ad]
 have JL:∀t u:Int,Fit (sizes vs) 0 (C++[⟨13,t,0,0⟩]++Bc++[⟨14,u,0,0⟩])∧pq (C++[⟨13,t,0,0⟩]++Bc++[⟨14,u,0,0⟩])=0:=fun t u=>
  ⟨Fit.snoc (m:=0) ((head _).1.app (by rw[(head _).2];exact rB.1)) (by rw[eu,(head _).2,rB.2.1];rfl) (by simp[cF]) (by simp[dl,cF,jf]) (fun _=>by simp[dl,cF,jf]) (c0 au) aZ,by rw[eu,eu,(head _).2,rB.2.1,kv];rfl⟩
 refine⟨(JL _ _).1.app (by rw[(JL _ _).2];exact Ms.1),by rw[eu,(JL _ _).2,Ms.2.1];rfl,?_⟩;intro y hy;rcases List.mem_append.1 hy with hy|hy
 ·rcases List.mem_append.1 hy with hy|hy
  ·rcases List.mem_append.1 hy with hy|hy
   ·rcases List.mem_append.1 hy with hy|hy
    ·exact Ib.none (o5 y hy)
    ·rw[List.mem_singleton.1 hy];(refine fun _=>⟨C.length+1+Bc.length+1,by simp only;congr 1;omega,vA,?_⟩);rw[List.take_append_of_le_length vA,List.take_of_length_le vA,(JL _ _).2]
   ·rw[List.append_assoc];refine Ib.lift (by rw[bq,dZ,←Nat.add_assoc];exact rB.2.2 y hy) (head _).2
  ·rw[List.mem_singleton.1 hy];(refine fun _=>⟨C.length+1+Bc.length+1+Ec.length,by simp only;congr 1;omega,vA,?_⟩);rw[List.take_of_length_le vA,eu,(JL _ _).2,Ms.2.1];rfl
 ·have:=Ib.lift (B:=[]) (at_:=k) (A:=C++[⟨13,(k+C.length+1+Bc.length+1:Nat),0,0⟩]++Bc++[⟨14,(k+C.length+1+Bc.length+1+Ec.length:Nat),0,0⟩]) (L:=Ec) (x:=y) (by rw[show k+(C++[⟨13,(k+C.length+1+Bc.length+1:Nat),0,0⟩]++Bc++[⟨14,(k+C.length+1+Bc.length+1+Ec.length:Nat),0,0⟩]:List In).length=k+C.length+1+Bc.length+1 by simp only[bq,dZ];omega];exact Ms.2.2 y hy) (JL _ _).2
  rwa [List.append_nil] at this
theorem u0 {p:Pr} (h:bZ p=0):Piece (sizes p.vars) 0 (aK p.vars p.body 0):=by
 obtain⟨a,-,c,-⟩:=dw h;exact qP _ (fun x hx=>Mr c x (a.mem x hx)) 0
def pX (n:Int):Int:=IntKind.i64.wrap n
def il (op a b:Int):Int:=if op=4 then pX (a+b) else if op=5 then pX (a-b) else if op=6 then pX (a*b) else if op=7 then (if a<b then 1 else 0) else if a=b then 1 else 0
abbrev XR (α:Type):=Except (Int×Nat) (α×Nat)
def mT (vs:List Va) (cs:List Int) (op v n:Int) (xs:List Int) (f:Nat):XR Int:=
 if op=1 then .ok (n,f)
 else if op=2 then .ok (cs.getD (cellOf vs v).toNat 0,f)
 else if op=3 then (if xs.getD 0 0<0∨ir vs v≤xs.getD 0 0 then .error (11,f) else .ok (cs.getD (cellOf vs v+xs.getD 0 0).toNat 0,f))
 else .ok (il op (xs.getD 0 0) (xs.getD 1 0),f)
def yc (f:Nat):Except (Int×Nat) Nat:=if f=0 then .error (13,0) else .ok (f-1)
mutual
def dx (vs:List Va) (cs:List Int):Ex→Nat→XR Int
 |.mk op v n l,f=>match eK vs cs l f with
  |.error e=>.error e
  |.ok (xs,f1)=>match yc f1 with
   |.error e=>.error e
   |.ok f2=>mT vs cs op v n xs f2
def eK (vs:List Va) (cs:List Int):List Ex→Nat→XR (List Int)
 |[],f=>.ok ([],f)
 |x::l,f=>match dx vs cs x f with
  |.error e=>.error e
  |.ok (a,f1)=>match eK vs cs l f1 with
   |.error e=>.error e
   |.ok (xs,f2)=>.ok (a::xs,f2)
end
structure RS where
 cells:List Int
 inp:List Int
 out:List Int
 left:Nat
abbrev RR:=Except (Int×RS) RS
def qQ (vs:List Va) (x:Ex) (s:RS):Except (Int×RS) (Int×RS):=match dx vs s.cells x s.left with
 |.error (c,f)=>.error (c,{s with left:=f})
 |.ok (v,f)=>.ok (v,{s with left:=f})
def dQ (s:RS):RR:=if s.left=0 then .error (13,s) else .ok {s with left:=s.left-1}
def y7 (vs:List Va) (x:Ex) (s:RS):Except (Int×RS) (Bool×RS):=match qQ vs x s with
 |.error e=>.error e
 |.ok (n,s1)=>match dQ s1 with
  |.error e=>.error e
  |.ok s2=>.ok (decide (n≠0),s2)
def BQ (vs:List Va) (v:Int) (e:Ex) (s:RS):RR:=match qQ vs e s with
 |.error e=>.error e
 |.ok (n,s1)=>match dQ s1 with
  |.error e=>.error e
  |.ok s2=>.ok {s2 with cells:=s2.cells.set (cellOf vs v).toNat n}
def u3 (vs:List Va) (v:Int) (e f:Ex) (s:RS):RR:=match qQ vs e s with
 |.error e=>.error e
 |.ok (k,s1)=>match qQ vs f s1 with
  |.error e=>.error e
  |.ok (n,s2)=>match dQ s2 with
   |.error e=>.error e
   |.ok s3=>if k<0∨ir vs v≤k then .error (11,s3) else .ok {s3 with cells:=s3.cells.set (cellOf vs v+k).toNat n}
def oK (vs:List Va) (e:Ex) (s:RS):RR:=match qQ vs e s with
 |.error e=>.error e
 |.ok (n,s1)=>match dQ s1 with
  |.error e=>.error e
  |.ok s2=>.ok {s2 with out:=s2.out++[n]}
def tN (vs:List Va) (v:Int) (s:RS):RR:=match dQ s with
 |.error e=>.error e
 |.ok s1=>match s1.inp with
  |[]=>.error (12,s1)
  |x::r=>.ok {s1 with cells:=s1.cells.set (cellOf vs v).toNat x,inp:=r}
def fJ (F:St→RS→Option RR):List St→RS→Option RR
 |[],s=>some (.ok s)
 |x::l,s=>match F x s with
  |none=>none
  |some (.error e)=>some (.error e)
  |some (.ok s1)=>fJ F l s1
def jA (vs:List Va):Nat→St→RS→Option RR
 |0,_,_=>none
 |g+1,.mk op v e f body dn,s=>
  if op=1 then some (BQ vs v e s)
  else if op=2 then some (u3 vs v e f s)
  else if op=3 then some (oK vs e s)
  else if op=4 then some (tN vs v s)
  else if op=5 then match y7 vs e s with
   |.error e=>some (.error e)
   |.ok (false,s1)=>some (.ok s1)
   |.ok (true,s1)=>match fJ (jA vs g) body s1 with
    |none=>none
    |some (.error e)=>some (.error e)
    |some (.ok s2)=>match dQ s2 with
     |.error e=>some (.error e)
     |.ok s3=>jA vs g (.mk op v e f body dn) s3
  else if op=6 then match y7 vs e s with
   |.error e=>some (.error e)
   |.ok (true,s1)=>match fJ (jA vs g) body s1 with
    |none=>none
    |some (.error e)=>some (.error e)
    |some (.ok s2)=>some (dQ s2)
   |.ok (false,s1)=>fJ (jA vs g) dn s1
  else if op=7 then some (dQ s)
  else some (.ok s)
theorem PV {f f':Nat} (h:yc f=.ok f'):f'+1=f:=by
 rw[yc] at h;split at h
 ·cases h
 ·simp only[Except.ok.injEq] at h;omega
theorem F6 {vs:List Va} {cs:List Int} {op v n:Int} {xs:List Int} {f:Nat}:(∀r,mT vs cs op v n xs f=.ok r→r.2=f)∧∀e,mT vs cs op v n xs f=.error e→e=(11,f):=by
 rw[mT];refine⟨fun r h=>?_,fun e h=>?_⟩
 ·repeat' split at h
  all_goals first|cases h;rfl|cases h
 ·repeat' split at h
  all_goals first|cases h;rfl|cases h
structure PW {α:Type} (r:XR α) (f:Nat):Prop where
 ok:∀a,r=.ok a→a.2≤f
 err:∀c k,r=.error (c,k)→k≤f∧(c=13∧k=0∨c=11)
theorem F7 {vs:List Va} {cs:List Int}:∀(l:List Ex),(∀x∈l,∀f,PW (dx vs cs x f) f)→∀f,PW (eK vs cs l f) f∧∀xs k,eK vs cs l f=.ok (xs,k)→xs.length=l.length
 |[],_,f=>by
  rw[eK];exact⟨⟨fun a h=>by cases h;exact bX _,fun c k h=>(by cases h)⟩,fun xs k h=>by cases h;rfl⟩
 |x::l,h,f=>by
  have hx:=h x aZ f;rw[eK]
  cases e1:dx vs cs x f with
  |error e=>
   refine⟨⟨fun a h=>(by cases h),fun c k h=>?_⟩,fun xs k h=>(by cases h)⟩;simp only[Except.error.injEq] at h;subst h;exact hx.err c k e1
  |ok a=>
   obtain⟨v,f1⟩:=a;have h1:=hx.ok _ e1;simp only at h1⊢;obtain⟨h2,h3⟩:=F7 l (fun y hy=>h y (by simp[hy])) f1
   cases e2:eK vs cs l f1 with
   |error e=>
    refine⟨⟨fun a h=>(by cases h),fun c k h=>?_⟩,fun xs k h=>(by cases h)⟩;simp only[Except.error.injEq] at h;subst h;have:=h2.err c k e2;exact⟨ad,this.2⟩
   |ok a=>
    obtain⟨xs,f2⟩:=a;have:=h2.ok _ e2;refine⟨⟨fun a h=>?_,fun c k h=>(by cases h)⟩,fun ys k h=>?_⟩
    ·simp only[Except.ok.injEq] at h;subst h;simp only at this⊢;omega
    ·simp only[Except.ok.injEq,Prod.mk.injEq] at h;obtain⟨rfl,-⟩:=h;rw[bF,bF,h3 xs f2 e2]
theorem pY (vs:List Va) (cs:List Int) (x:Ex):∀f,PW (dx vs cs x f) f:=by
 refine Ex.ind (P:=fun x=>∀f,PW (dx vs cs x f) f) ?_ x;intro op v n l ih f;have hl:=(F7 l ih f).1;rw[dx]
 cases e1:eK vs cs l f with
 |error e=>
  refine⟨fun a h=>(by cases h),fun c k h=>?_⟩;simp only[Except.error.injEq] at h;subst h;exact hl.err c k e1
 |ok a=>
  obtain⟨xs,f1⟩:=a;have h1:=hl.ok _ e1;simp only at h1⊢
  cases e2:yc f1 with
  |error e=>
   refine⟨fun a h=>(by cases h),fun c k h=>?_⟩;simp only[Except.error.injEq] at h;subst h;rw[yc] at e2;split at e2
   ·cases e2;exact⟨cg _,.inl ⟨rfl,rfl⟩⟩
   ·cases e2
  |ok f2=>
   have h2:=PV e2;obtain⟨g1,g2⟩:=F6 (vs:=vs) (cs:=cs) (op:=op) (v:=v) (n:=n) (xs:=xs) (f:=f2);refine⟨fun a h=>?_,fun c k h=>?_⟩
   ·have:=g1 a h;omega
   ·have:=g2 _ h;simp only[Prod.mk.injEq] at this;obtain⟨rfl,rfl⟩:=this;exact⟨ad,.inr rfl⟩
theorem Tx (vs:List Va) (cs:List Int) (l:List Ex) (f:Nat) {xs:List Int} {k:Nat} (h:eK vs cs l f=.ok (xs,k)):xs.length=l.length:=(F7 l (fun x _=>pY vs cs x) f).2 xs k h
structure Mi where
 next:Nat
 stack:List Int
 rd:Nat
 outn:Nat
 st:Int
 cells:List Int
structure Be where
 m:Mi
 kept:Mi
 out:List Int
 wrong:Bool
def aN (inp:List Int) (keep:Bool) (x:In) (b:Be):Be:=
 let m:=b.m
 if x.op=1 then {b with m:={m with stack:=x.n::m.stack}}
 else if x.op=2 then {b with m:={m with stack:=m.cells.getD x.a.toNat 0::m.stack}}
 else if x.op=3 then match m.stack with
  |[]=>b
  |k::s=>if k<0∨x.b≤k then {b with m:={m with stack:=s,st:=13}} else {b with m:={m with stack:=m.cells.getD (x.a+k).toNat 0::s}}
 else if 4≤x.op∧x.op≤8 then match m.stack with
  |y::z::s=>{b with m:={m with stack:=il x.op z y::s}}
  |_=>b
 else if x.op=9 then match m.stack with
  |[]=>b
  |n::s=>{b with m:={m with stack:=s,cells:=m.cells.set x.a.toNat n}}
 else if x.op=10 then match m.stack with
  |n::k::s=>if k<0∨x.b≤k then {b with m:={m with stack:=s,st:=13}} else {b with m:={m with stack:=s,cells:=m.cells.set (x.a+k).toNat n}}
  |_=>b
 else if x.op=11 then match m.stack with
  |[]=>b
  |n::s=>
   if m.outn=b.out.length then {b with m:={m with stack:=s,outn:=m.outn+1},out:=b.out++[n]}
   else {b with m:={m with stack:=s,outn:=m.outn+1},wrong:=b.wrong||decide (b.out.getD m.outn 0≠n)}
 else if x.op=12 then (if inp.length≤m.rd then {b with m:={m with st:=14}} else {b with m:={m with cells:=m.cells.set x.a.toNat (inp.getD m.rd 0),rd:=m.rd+1}})
 else if x.op=13 then match m.stack with
  |[]=>b
  |n::s=>if n=0 then {b with m:={m with stack:=s,next:=x.a.toNat}} else {b with m:={m with stack:=s}}
 else if x.op=14 then {b with m:={m with next:=x.a.toNat}}
 else if x.op=15 then (if keep then {b with kept:=m} else b)
 else if x.op=16 then {b with m:={m with st:=1}}
 else b
def bump (b:Be):Be:={b with m:={b.m with next:=b.m.next+1}}
def cW (code:List In) (inp:List Int) (keep:Bool) (b:Be):Be:=match code[b.m.next]? with
 |none=>b
 |some x=>aN inp keep x (bump b)
def runM (code:List In) (inp:List Int):Nat→Be→Be×Nat
 |0,b=>(b,0)
 |f+1,b=>if b.m.st≠0 then (b,0) else ((runM code inp f (cW code inp false b)).1,(runM code inp f (cW code inp false b)).2+1)
end Go.Proofs.YtgeoiflbjcehcaaGreatDoor
