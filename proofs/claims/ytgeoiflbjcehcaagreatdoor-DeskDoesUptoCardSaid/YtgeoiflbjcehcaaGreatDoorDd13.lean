import Derived.Test.YtgeoiflbjcehcaaGreatDoorDd12
set_option maxHeartbeats 4000000
set_option maxRecDepth 2000
set_option linter.unusedVariables false
set_option linter.unusedSimpArgs false
namespace Go.Proofs.YtgeoiflbjcehcaaGreatDoor
open Go X
theorem FX (σ:PH) (b db:Nat) (s:eZ) (d:av) (sl:Value) (l:List cy) (D:Int) (hl:bV 9 pR σ sl l) (hc:uS l=0) (hs:s.ok) (DJ:0≤s.gen) (DK:s.gen<4611686018427387904) (hD:Kz D) (hlen:d.wait.length<900):
 ah Tryz.prog 232 #[ptr b,sl,i64 D] σ [ck b db s,bW db d]
  (aA fun v aj al=>∃j:Nat,j≤l.length+5∧(j<l.length+5→D=(j:Int))∧(j=l.length+5→∀i:Nat,i<l.length+5→D≠(i:Int))∧v=.tuple #[.bool (decide (j=l.length+5)),i64 0]∧σ.sub aj∧al=[ck b db (if j=l.length+5 then eW s l else s),bW db (gH d s l j)]):=by
 obtain⟨hn,Zt,agW⟩:=xU hc;obtain⟨t0,t1,ht⟩:=DF hs;obtain⟨g,t,pg⟩:=s;simp only at ht DJ DK;subst ht;have kU:pg.length=14:=hs.2;(have jx:(i64 g::i64 t0::i64 t1::ints pg).length=17:=by simp[kU]);have DH:((ptr db::i64 g::i64 t0::i64 t1::ints pg).drop 1).take 17=i64 g::i64 t0::i64 t1::ints pg:=Bg jx;have jd:dT (i64 g::i64 t0::i64 t1::ints pg):=fO rfl (fO rfl (fO rfl (ei _)));obtain⟨u,hu⟩:∃u,u=t0::t1::pg:=⟨_,rfl⟩;(have oX:eE ⟨g,[t0,t1],pg⟩=eJ u 32:=by subst hu;rfl);(have QS:16≤(eJ u 32).length:=by have:=xT u 32;rw[hu] at this⊢;simp only[bF,kU] at this;omega);(have hul:u.length=16:=by subst hu;simp[kU]);refine lS Tryz.func232 ?_;refine aR ?_;refine yC (L4 σ sl l hl) ?_;rw[hc];refine dV ?_;(first|refine XA.aW (R:=ck b db _) zL (ck.aW) ?_|refine az.aW (R:=ck b db _) zL (ck.aW) ?_|refine DA.aW (R:=ck b db _) zL (ck.aW) ?_);rintro⟨⟩-;(refine gX ?_;refine az.re (Δ:=[aw b (ptr db::i64 g::i64 t0::i64 t1::ints pg) 265,bW db d]) rfl ?_;refine bY ?_;refine cP fun g24=>?_;refine px ?_;refine zw rfl (ax.cE (Td σ b db g t0 t1 pg kU) rfl) ?_);rintro _ _ _ ⟨_,⟨pu,cu,rfl,rfl,rfl⟩,rfl⟩;refine az.cl ?_;rw[←hu];refine az.mX (R:=aS 3 1 (.slice pu 16 cu) 16 (ints u)) (φ:=fun(_:Unit) m=>a7 m (.slice pu 16 cu) u) zL (fun m h=>⟨(),Ab h⟩) (fun _ _ _ h s=>h.mono s) ?_;rintro cO ⟨⟩ Tf bz;(refine aR ?_;refine XA.gen [(0,_),(1,_),(6,_),(7,_),(9,_),(10,_),(11,_)] iX fun δ=>?_);dsimp only[List.foldl];refine XA.loop [(11,11),(38,55)] (fun k:Nat=>[(11,i64 ((k+2:Nat):Int))]) (fun k aj al=>cO=aj∧k≤32∧∃(p:Option Addr) (c:Nat),al=[aS 3 1 (.slice p (eJ u k).length c) (eJ u k).length (ints (eJ u k)),aw g24 (fM b D (g+1) t0 t1 pg (.slice p (eJ u k).length c)) 301,aw b (ptr db::i64 g::i64 t0::i64 t1::ints pg) 265,bW db d]) (fun k=>32-k) 0 eb (Δ0:=_) ?_ (⟨rfl,au,none,0,rfl⟩) ?_
 ·exact(ar.dU (e:=3) (size:=1) zE)
 rintro k δ _ _ ⟨rfl,hk,p,cc,rfl⟩;dsimp only[dq,List.foldl];have hfk:=JB u k;refine bg ?_;refine XA.bE rfl (fun aV=>?_) (fun aV=>?_)
 ·(have aV:k<32:=by omega);refine bJ ?_;refine yC (FV cO _ u ((k+2:Nat):Int) Tf) ?_;refine cx ?_;refine XA.bE rfl (fun j3=>?_) (fun j3=>?_)
  ·(have e1:eJ u (k+1)=eJ u k++[((k+2:Nat):Int)]:=by rw[vD,ag j3]);have HO:=tB (sb:=b) (left:=D) (gen:=g+1) (t0:=t0) (t1:=t1) (fr:=.slice p (eJ u k).length cc) kU;(have iP:=fun qK=>Ax (sb:=b) (left:=D) (gen:=g+1) (t0:=t0) (t1:=t1) (fr:=.slice p (eJ u k).length cc) kU qK);(have gf:19+Q6.size≤(fM b D (g+1) t0 t1 pg (.slice p (eJ u k).length cc)).length:=by rw[qJ kU];decide);obtain⟨fk,abj⟩:∃fk,fk=eJ u k:=⟨_,rfl⟩;rw[←abj] at e1 HO iP gf hfk⊢;refine bg ?_;refine zw rfl (ax.jY (ae rfl) rfl (ae rfl)) ?_;rintro _ _ _ ⟨g52,rfl,rfl,rfl⟩;refine zw rfl (ax.kM (ae rfl) rfl (ae rfl) rfl rfl rfl) ?_;rintro _ _ _ ⟨p53,c53,rfl,rfl,rfl⟩;refine bm ?_;refine⟨bQ,k+1,_,zM,?_,⟨rfl,aV,p53,c53,by rw[e1,bq,dZ]⟩,ad⟩
   ·rw[show ints (fk++[((k+2:Nat):Int)])=ints fk++[i64 ((k+2:Nat):Int)] from by simp];exact zE
  ·have j3:((k+2:Nat):Int)∈u:=Decidable.not_not.1 j3;(have e1:eJ u (k+1)=eJ u k:=by rw[vD,aq j3,List.append_nil]);refine bt ?_;refine⟨bQ,k+1,_,zM,?_,⟨rfl,aV,p,cc,by rw[e1]⟩,ad⟩
   ·exact zE
 (have abk:k=32:=by omega);subst abk;obtain⟨F,hF⟩:∃F,F=eJ u 32:=⟨_,rfl⟩;rw[←hF] at oX QS hfk⊢;refine aR ?_;refine az.mX (R:=aS 3 1 (.slice p F.length cc) F.length (ints F)) (φ:=fun(_:Unit) m=>a7 m (.slice p F.length cc) F) zL (fun m h=>⟨(),Ab h⟩) (fun _ _ _ h s=>h.mono s) ?_;rintro cL ⟨⟩ FU bT;have kV:=bz.trans bT;have nh:=hl.mono kV (fun _ _ h=>h);refine az.re (Δ:=[aw g24 (fM b (leftOf D 0) (g+1) t0 t1 pg (.slice p F.length cc)) 301,aw b (ptr db::i64 g::i64 t0::i64 t1::ints pg) 265,bW db d]) (by rw[FR hD]) ?_;obtain⟨S,hS⟩:∃S:eZ,S=⟨g,[t0,t1],pg⟩:=⟨_,rfl⟩;(have Dv:ptr db::i64 g::i64 t0::i64 t1::ints pg=ptr db::S.cells:=by rw[hS];rfl);(have L5:S.ok:=by rw[hS];exact hs);rw[←hS] at oX⊢;rw[Dv];refine zw rfl (ax.cE (PD cL g24 b db D (g+1) t0 t1 pg _ S d sl l F hD kU FU nh hn ad ad ad) rfl) ?_;rintro _ _ _ ⟨_,⟨k,PF,kP,rfl,hkD,Xx,Jv,rfl,rfl⟩,rfl⟩;refine az.cl ?_;by_cases Lp:k=l.length
 ·subst Lp;rw[aM rfl];obtain⟨a0,Dh⟩:∃a,F[l.length]? =some a:=⟨_,b9 ad⟩;obtain⟨a1,CD⟩:∃a,F[l.length+1]? =some a:=⟨_,b9 ad⟩;(have abl:F.getD l.length 0=a0:=by rw[ey,Dh];rfl);(have abm:F.getD (l.length+1) 0=a1:=by rw[ey,CD];rfl);(have HR:F.drop l.length=a0::a1::F.drop (l.length+2):=by rw[xi Dh,xi CD]);obtain⟨P,hP⟩:∃P,P=mf pg l F l.length:=⟨_,rfl⟩;(have hPl:P.length=14:=by rw[hP];exact pU l F kU _);(have Zu:eW S l=⟨g+1,[a0,a1],P⟩:=by rw[eW,oX,abl,abm,hP,hS]);have hw1:=kG d l F l.length;(have hcT:∀q,fV d S l q=pS (pS d l F l.length) (tC P) (a0::a1::F.drop (l.length+2)) q:=fun q=>by rw[fV,oX,Zu,HR]);(have hgS:S.gen=g:=by rw[hS]);rw[HR] at Jv;rw[←hP];refine cx ?_;refine zG ?_;refine zw rfl (ax.cE (PG cL g24 b db D l.length (g+1) t0 t1 P PF S (pS d l F l.length) a0 a1 (F.drop (l.length+2)) hD ad hPl Jv ad) rfl) ?_;rintro _ _ _ ⟨_,⟨k2,Rv,CF,rfl,abo,Rw,agZ,rfl,rfl⟩,rfl⟩;refine az.cl ?_;rw[←hcT];by_cases Xy:k2=2
  ·subst Xy;rw[aM rfl,show T0 t0 a0 2=a0 from rfl,show T1 t1 a1 2=a1 from rfl]
   have Xz:(fV d S l 2).wait.length<1000000:=by
    rw[hcT];have:=kG (pS d l F l.length) (tC P) (a0::a1::F.drop (l.length+2)) 2;omega
   (have hw3:((fV d S l 2).settle fun _=>true).wait.length<1000000:=by simp[av.settle]);(have DG:gH d S l (l.length+2)=fV d S l 2:=by rw[gH,ag ad,aq ad,show l.length+2-l.length=2 by omega]);have hc3:gH d S l (l.length+3)=(fV d S l 2).settle fun _=>true:=by rw[gH,ag ad,ag ad,aq rfl]
   have hc4:gH d S l (l.length+4)=((fV d S l 2).settle fun _=>true).write ((g+1)%2) (jL (g+1) a0 a1):=by
    rw[gH,ag ad,ag ad,ag ad,aq rfl,Zu,hgS];rfl
   have Vv:gH d S l (l.length+5)=(((fV d S l 2).settle fun _=>true).write ((g+1)%2) (jL (g+1) a0 a1)).settle fun _=>true:=by
    rw[gH,ag ad,ag ad,ag ad,ag ad,Zu,hgS];rfl
   have hw4:(((fV d S l 2).settle fun _=>true).write ((g+1)%2) (jL (g+1) a0 a1)).wait.length<1000000:=by
    have:=rZ ((fV d S l 2).settle fun _=>true) ((g+1)%2) (jL (g+1) a0 a1);(have h0:((fV d S l 2).settle fun _=>true).wait.length=0:=by simp[av.settle]);omega
   refine bY ?_;by_cases Ow:D=((l.length+2:Nat):Int)
   ·have ag3:=Ow;subst Ow;refine zG ?_;refine yC (Ay cL g24 b (l.length+2) (g+1) a0 a1 P Rv ad) ?_;refine rM ?_;refine ao.ret (aB.two rfl rfl rfl) (al:=[ck b db S,bW db (fV d S l 2)]) (ar.eT (Θ:=[_]) zD (ck.mk (s:=S) L5 rfl) zE) ⟨l.length+2,ad,fun _=>rfl,fun h=>absurd h ad,?_,kV,?_⟩
    ·exact congrArg (fun x=>Value.tuple #[.bool x,i64 0]) (aE ad).symm
    ·rw[ag ad,DG]
   refine zG ?_;refine yC (xO cL g24 b db D (l.length+2) (g+1) a0 a1 P Rv S (fV d S l 2) hD ad Ow Xz) ?_;refine bY ?_;by_cases Tg:D=((l.length+3:Nat):Int)
   ·subst Tg;refine zG ?_;refine yC (L3 cL g24 b (l.length+3) (g+1) a0 a1 P Rv ad) ?_;refine lR ?_;refine ao.ret (aB.two rfl rfl rfl) (al:=[ck b db S,bW db ((fV d S l 2).settle fun _=>true)]) (ar.eT (Θ:=[_]) zD (ck.mk (s:=S) L5 rfl) zE) ⟨l.length+3,ad,fun _=>rfl,fun h=>absurd h ad,?_,kV,?_⟩
    ·exact congrArg (fun x=>Value.tuple #[.bool x,i64 0]) (aE ad).symm
    ·rw[ag ad,hc3]
   refine zG ?_;refine yC (Jz cL g24 b db D (l.length+3) (g+1) a0 a1 P Rv S _ hD ad Tg ad hw3) ?_;refine bY ?_;by_cases hD4:D=((l.length+4:Nat):Int)
   ·subst hD4;refine zG ?_;refine yC (Ay cL g24 b (l.length+4) (g+1) a0 a1 P Rv ad) ?_;refine dB ?_;refine ao.ret (aB.two rfl rfl rfl) (al:=[ck b db S,bW db (((fV d S l 2).settle fun _=>true).write ((g+1)%2) (jL (g+1) a0 a1))]) (ar.eT (Θ:=[_]) zD (ck.mk (s:=S) L5 rfl) zE) ⟨l.length+4,ad,fun _=>rfl,fun h=>absurd h ad,?_,kV,?_⟩
    ·exact congrArg (fun x=>Value.tuple #[.bool x,i64 0]) (aE ad).symm
    ·rw[ag ad,hc4]
   refine zG ?_;refine yC (xO cL g24 b db D (l.length+4) (g+1) a0 a1 P Rv S _ hD ad hD4 hw4) ?_;have L6:(i64 (g+1)::i64 a0::i64 a1::ints P).length=17:=by simp[hPl]
   have ag4:((fM b (leftOf D (l.length+4+1)) (g+1) a0 a1 P Rv).drop 2).take 17=i64 (g+1)::i64 a0::i64 a1::ints P:=by
    show ((i64 (g+1)::i64 a0::i64 a1::ints P)++[Rv]).take 17=_;exact sI L6
   have tg:dT (i64 (g+1)::i64 a0::i64 a1::ints P):=fO rfl (fO rfl (fO rfl (ei _)));have XB:S.cells.length=17:=by rw[hS];simpa[eZ.cells] using kU
   have sR:aQ (ptr db::S.cells) 1 (i64 (g+1)::i64 a0::i64 a1::ints P)=ptr db::i64 (g+1)::i64 a0::i64 a1::ints P:=by
    unfold aQ;rw[L6,List.take_succ_cons,List.take_zero,List.drop_succ_cons,List.drop_of_length_le (by rw[XB];decide)];simp
   have gf:1+Q0.size≤(ptr db::S.cells).length:=by rw[bF,XB];decide
   have bu:∀i:Nat,i<l.length+5→D≠(i:Int):=fun i hi=>by
    rcases Nat.lt_or_ge i l.length with h|h
    ·exact Xx i h
    ·rcases (show i=l.length+0∨i=l.length+1∨i=l.length+2∨i=l.length+3∨i=l.length+4 by omega) with e|e|e|e|e<;>rw[e]
     ·exact Rw 0 au
     ·exact Rw 1 au
     ·exact Ow
     ·exact Tg
     ·exact hD4
   refine Jc ?_;refine ao.ret (aB.two rfl rfl rfl) (al:=[ck b db ⟨g+1,[a0,a1],P⟩,bW db _]) (ar.eT (Θ:=[_]) zD (ck.mk (s:=⟨g+1,[a0,a1],P⟩) ⟨rfl,hPl⟩ rfl) zE) ⟨l.length+5,bX _,fun h=>absurd h (Nat.lt_irrefl _),fun _=>bu,?_,kV,?_⟩
   ·exact congrArg (fun x=>Value.tuple #[.bool x,i64 0]) (aM rfl).symm
   ·rw[aq rfl,Vv,Zu]
  ·have Ow:=abo ad;rw[aE Xy];refine nC ?_
   have ns:gH d S l (l.length+k2)=fV d S l k2:=by
    rcases (show k2=0∨k2=1 by omega) with rfl|rfl
    ·rw[gH,aq ad,fV,oX];rfl
    ·rw[gH,ag ad,aq ad,show l.length+1-l.length=1 by omega]
   refine ao.ret (aB.two rfl rfl rfl) (al:=[ck b db S,bW db (fV d S l k2)]) (ar.eT (Θ:=[_]) zD (ck.mk (s:=S) L5 rfl) zE) ⟨l.length+k2,ad,fun _=>Ow,fun h=>absurd h ad,?_,kV,?_⟩
   ·exact congrArg (fun x=>Value.tuple #[.bool x,i64 0]) (aE ad).symm
   ·rw[ag ad,ns]
 ·have PE:=hkD ad;rw[aE Lp];refine Jd ?_;(have ns:gH d S l k=pS d l F k:=by rw[gH,aq kP,oX]);refine ao.ret (aB.two rfl rfl rfl) (al:=[ck b db S,bW db (pS d l F k)]) (ar.eT (Θ:=[_]) zD (ck.mk (s:=S) L5 rfl) zE) ⟨k,ad,fun _=>PE,fun h=>absurd h ad,?_,kV,?_⟩
  ·exact congrArg (fun x=>Value.tuple #[.bool x,i64 0]) (aE ad).symm
  ·rw[ag ad,ns]
theorem gm {d:av} (hd:d.ok) (p:Nat→Bool):(d.settle p).ok:=by
 have mW:(d.wait.zipIdx).take d.wait.length=d.wait.zipIdx:=List.take_of_length_le aZ;(have gG:(d.settle p).l=d.part p d.wait.length:=by simp only[av.settle,av.part,mW]);have Fa:=HL hd p d.wait.length;exact⟨by rw[gG];exact Fa.1,by rw[gG];exact Fa.2,by simp[av.settle]⟩
def av.held (d:av) (a:Int):List Int:=d.l.getD a.toNat av.bU
def av.waits (d:av) (a:Int):List (List Int):=(d.wait.filter fun p=>p.1=a.toNat).map (·.2)
theorem abr {d:av} (hd:d.ok) (a:Int):∀w∈d.waits a,w.length=8:=by
 intro w hw;simp only[av.waits,List.mem_map,List.mem_filter] at hw;obtain⟨p,⟨hp,-⟩,rfl⟩:=hw;exact(hd.2.2 p hp).2
theorem rA {d:av} {a:Int} (ha:0≤a∧a<34) (h:d.wait=[]):d.read a=d.held a:=by
 rw[av.read,aq ha,h];rfl
theorem L7 (n:Nat):∀(ps:List (Nat×List Int)) (w:List Int),av.last w n ps=w∨av.last w n ps∈(ps.filter fun p=>p.1=n).map (·.2):=by
 intro ps
 induction ps with
 |nil=>intro w;exact .inl rfl
 |cons p ps ih=>
  intro w;have e:av.last w n (p::ps)=av.last (if p.1=n then p.2 else w) n ps:=rfl;rw[e];by_cases h:p.1=n
  ·rw[aq h];rcases ih p.2 with ih|ih
   ·exact .inr (by rw[ih];simp[h])
   ·exact .inr (by simp only[List.filter_cons,h,decide_true,if_true,List.map_cons,List.mem_cons];exact .inr ih)
  ·rw[ag h];rcases ih w with ih|ih
   ·exact .inl ih
   ·exact .inr (by simpa[List.filter_cons,h] using ih)
theorem L8 (d:av) (is:Nat→Bool) (n k:Nat) (hn:k<d.l.length):(d.part is n).getD k av.bU=av.last (d.l.getD k av.bU) k ((((d.wait.zipIdx).take n).filter fun p=>is p.2).map (·.1)):=by
 have gen:∀(ps:List ((Nat×List Int)×Nat)) (l:List (List Int)),k<l.length→(ps.foldl (fun l p=>if is p.2 then l.set p.1.1 p.1.2 else l) l).getD k av.bU=av.last (l.getD k av.bU) k ((ps.filter fun p=>is p.2).map (·.1)):=by
  intro ps
  induction ps with
  |nil=>intro l _;rfl
  |cons p ps ih=>
   intro l hl;simp only[List.foldl_cons];by_cases hp:is p.2=true
   ·rw[aq hp,ih _ (by simpa using hl)];simp only[List.filter_cons,hp,if_true,List.map_cons];simp only[av.last,List.foldl_cons];congr 1;by_cases hk:p.1.1=k
    ·rw[aq hk,hk];simp[ey,hl]
    ·rw[ag hk];simp[ey,List.getElem?_set_ne hk]
   ·rw[ag hp,ih _ hl];simp[List.filter_cons,hp]
 exact gen _ d.l hn
theorem pV {d:av} (hd:d.ok) (is:Nat→Bool) {a:Int} (ha:0≤a∧a<34):(d.settle is).held a=av.last (d.held a) a.toNat (((d.wait.zipIdx).filter fun p=>is p.2).map (·.1)):=by
 have mW:(d.wait.zipIdx).take d.wait.length=d.wait.zipIdx:=List.take_of_length_le aZ;have:=L8 d is d.wait.length a.toNat (by rw[hd.1];omega);rw[mW] at this;rw[av.held,show (d.settle is).l=d.part is d.wait.length by simp only[av.settle,av.part,mW]];exact this
theorem FY {d:av} (hd:d.ok) (is:Nat→Bool) {a:Int} (ha:0≤a∧a<34):(d.settle is).held a=d.held a∨(d.settle is).held a∈d.waits a:=by
 rw[pV hd is ha];rcases L7 a.toNat (((d.wait.zipIdx).filter fun p=>is p.2).map (·.1)) (d.held a) with h|h
 ·exact .inl h
 ·refine .inr ?_;simp only[List.mem_map,List.mem_filter,decide_eq_true_eq] at h;obtain⟨p,⟨⟨q,⟨hq,-⟩,rfl⟩,hk⟩,hw⟩:=h
  have Pn:q.1∈d.wait:=by
   obtain⟨q1,q2⟩:=q;have:=(List.mem_zipIdx hq).2.2;rw[this];exact List.getElem_mem _
  simp only[av.waits,List.mem_map,List.mem_filter,decide_eq_true_eq];exact⟨q.1,⟨Pn,hk⟩,hw⟩
theorem FZ {d:av} (hd:d.ok) (is:Nat→Bool) (bu:∀k,is k=true) {a:Int} (ha:0≤a∧a<34):(d.settle is).held a=d.read a:=by
 rw[pV hd is ha,av.read,aq ha]
 have:((d.wait.zipIdx).filter fun p=>is p.2).map (·.1)=d.wait:=by
  rw[List.filter_eq_self.2 (fun p _=>bu p.2)];simp
 rw[this];rfl
theorem xV (d:av) (a b:Int) (w:List Int):(d.write b w).held a=d.held a:=by unfold av.held av.write;split<;>rfl
theorem vE {d:av} {a b:Int} {w:List Int} (ha:0≤a∧a<34):(d.write b w).waits a=if (0≤b∧b<34)∧b=a then d.waits a++[w] else d.waits a:=by
 unfold av.waits av.write;by_cases hb:0≤b∧b<34
 ·rw[aq hb];simp only[List.filter_append,List.map_append];by_cases e:b=a
  ·subst e;simp[hb]
  ·(have:¬b.toNat=a.toNat:=by omega);simp[e,this]
 ·rw[ag hb,ag (by rintro⟨h,-⟩;exact hb h)]
theorem PJ (w:List Int) (n:Nat):∀(ps:List (Nat×List Int)),av.last w n ps=(((ps.filter fun p=>p.1=n).map (·.2)).getLast?).getD w:=by
 intro ps
 induction ps generalizing w with
 |nil=>rfl
 |cons p ps ih=>
  show av.last (if p.1=n then p.2 else w) n ps=_;rw[ih];by_cases h:p.1=n
  ·rw[aq h,List.filter_cons,aq (by simpa using h),List.map_cons,List.getLast?_cons];rfl
  ·rw[ag h,List.filter_cons,ag (by simpa using h)]
theorem PK {d:av} {a:Int} (ha:0≤a∧a<34):d.read a=((d.waits a).getLast?).getD (d.held a):=by
 rw[av.read,aq ha,PJ];rfl
theorem kH {d:av} (hd:d.ok) (is:Nat→Bool) {a:Int} (ha:0≤a∧a<34) (hw:d.waits a=[]):(d.settle is).held a=d.held a:=by
 rcases FY hd is ha with h|h
 ·exact h
 ·rw[hw] at h;cases h
theorem lK {d:av} (h:d.wait=[]) (a:Int):d.waits a=[]:=by simp[av.waits,h]
theorem tE (d:av) (l:List cy) (F:List Int) (a:Int):∀k,(pS d l F k).held a=d.held a
 |0=>rfl
 |k+1=>by rw[pS,xV,tE d l F a k]
theorem BK {d:av} {l:List cy} {F:List Int} (hd:d.ok) (hl:∀x∈l,x.w.length=8):∀k,k≤l.length→(pS d l F k).ok
 |0,_=>hd
 |k+1,hk=>by
  rw[pS];refine(BK hd hl k ad).write ?_;rw[ey,b9 ad];exact hl _ (List.getElem_mem _)
theorem kc {d:av} {l:List cy} {F:List Int} {a:Int} (ha:0≤a∧a<34):∀k,(∀j,j<k→F.getD j 0≠a)→(pS d l F k).waits a=d.waits a
 |0,_=>rfl
 |k+1,h=>by
  rw[pS,vE ha,ag (fun e=>h k ad e.2),kc ha k (fun j hj=>h j ad)]
theorem r6 {d:av} {l:List cy} {F:List Int} {a:Int} (ha:0≤a∧a<34) {i:Nat} (hi:F.getD i 0=a):∀k,i<k→(∀j,j<k→j≠i→F.getD j 0≠a)→(pS d l F k).waits a=d.waits a++[(l.getD i ⟨0,[]⟩).w]
 |k+1,hk,h=>by
  rw[pS,vE ha];by_cases e:k=i
  ·subst e;rw[aq ⟨by rw[hi];exact ha,hi⟩,kc ha k (fun j hj=>h j ad ad)]
  ·rw[ag (fun q=>h k ad e q.2),r6 ha hi k ad (fun j hj ix=>h j ad ix)]
structure Good (d:av) (s:eZ):Prop where
 HS:d.ok
 wait:d.wait=[]
 Ox:s.ok
 gen:0≤s.gen
 XC:∀p,p<14→s.pg.getD p 0=0∨(2≤s.pg.getD p 0∧s.pg.getD p 0<34)
 root:(s.gen=0∧s.t=[0,0]∧s.pg=fz∧d.held 0=av.bU∧(d.held 1).getD 0 0=0)∨
  (0<s.gen∧∃t0 t1,s.t=[t0,t1]∧d.held (s.gen%2)=jL s.gen t0 t1∧(d.held ((s.gen+1)%2)).getD 0 0<s.gen∧(2≤t0∧t0<34∧d.held t0=tw s.pg 0)∧(2≤t1∧t1<34∧d.held t1=tw s.pg 1))
theorem Good.new:Good av.new ⟨0,[0,0],fz⟩:=by
 refine⟨av.LN,rfl,⟨rfl,by simp[fz]⟩,Int.le_refl _,fun p hp=>.inl ?_,.inl ⟨rfl,rfl,rfl,rfl,rfl⟩⟩;simp only[fz,ey,List.getElem?_replicate];split<;>rfl
theorem L9 {pg:List Int} {i k:Nat} (hk:k<8) (h:i*8+k<14):(tw pg i).getD k 0=pg.getD (i*8+k) 0:=by
 rw[tw,rk,ey,List.getElem?_map,List.getElem?_range hk];simp only[Option.map_some,Option.getD_some];rw[aq ⟨hk,h⟩]
theorem Good.open {d:av} {s:eZ} (h:Good d s):LR d=s:=by
 obtain⟨g,t,pg⟩:=s;(have hr:∀a:Int,0≤a∧a<34→d.read a=d.held a:=fun a ha=>rA ha h.wait);(have r0:nL d 0=⟨(d.held 0).getD 0 0,[(d.held 0).getD 1 0,(d.held 0).getD 2 0],fz⟩:=by rw[nL,hr 0 ⟨au,au⟩]);(have r1:nL d 1=⟨(d.held 1).getD 0 0,[(d.held 1).getD 1 0,(d.held 1).getD 2 0],fz⟩:=by rw[nL,hr 1 ⟨au,au⟩]);rcases h.root with ⟨hg,ht,hp,h0,h1⟩|⟨hg,t0,t1,ht,tF,F0,⟨ta0,Zv,Zw⟩,⟨ta1,Zx,Zy⟩⟩
 ·simp only at hg ht hp;subst hg ht hp
  have hl:fB d=⟨0,[0,0],fz⟩:=by
   rw[fB,r0,r1,h0,h1];rfl
  have kU:dM d [0,0] 14=fz:=by
   unfold dM fz;apply List.ext_getElem aZ;intro p q1 q2;simp only[List.length_map,List.length_range] at q1;simp only[List.getElem_map,List.getElem_range,List.getElem_replicate];rw[aq q1,rY]
   have:([0,0]:List Int).getD (p/8) 0=0:=by
    rcases (show p/8=0∨p/8=1 by omega) with e|e<;>rw[e]<;>rfl
   rw[this];rfl
  show ({fB d with pg:=dM d (fB d).t 14}:eZ)=_;rw[hl,kU]
 ·simp only at hg ht tF F0 Zw Zy;subst ht
  have hl:fB d=⟨g,[t0,t1],fz⟩:=by
   rw[fB,r0,r1];rcases (show g%2=0∨g%2=1 by omega) with e|e
   ·(have e':(g+1)%2=1:=by omega);rw[e] at tF;rw[e'] at F0;rw[tF,ag (by simp only[jL,List.getD_cons_zero];omega)];rfl
   ·(have e':(g+1)%2=0:=by omega);rw[e] at tF;rw[e'] at F0;rw[tF,aq (by simp only[jL,List.getD_cons_zero];omega)];rfl
  have zf:pg.length=14:=h.Ox.2
  have kU:dM d [t0,t1] 14=pg:=by
   apply List.ext_getElem (by rw[kF,zf]);intro p q1 q2;rw[kF] at q1;simp only[dM,List.getElem_map,List.getElem_range];rw[aq q1,rY];(have Vw:pg[p]=pg.getD p 0:=by simp[ey,q2]);(have hdiv:p/8*8+p%8=p:=by omega);rcases (show p/8=0∨p/8=1 by omega) with e|e
   ·rw[e];show (if 0<t0 then (d.read t0).getD (p%8) 0 else 0)=_;rw[aq ad,hr t0 ⟨ad,Zv⟩,Zw,L9 ad ad,Vw];congr 1;omega
   ·rw[e];show (if 0<t1 then (d.read t1).getD (p%8) 0 else 0)=_;rw[aq ad,hr t1 ⟨ad,Zx⟩,Zy,L9 ad ad,Vw];congr 1;omega
  show ({fB d with pg:=dM d (fB d).t 14}:eZ)=_;rw[hl,kU]
theorem Good.F1 {d:av} {s:eZ} (h:Good d s) {p:Nat} (hp:p<14):cC d s p=if s.pg.getD p 0=0 then av.bU else d.held (s.pg.getD p 0):=by
 rw[cC];by_cases h0:s.pg.getD p 0=0
 ·rw[aq h0,ag];rintro⟨-,-,h⟩;exact h (by simpa using h0)
 ·rw[ag h0,aq ⟨ad,ad,by simpa using h0⟩];rcases h.XC p hp with h1|h1
  ·exact absurd h1 h0
  ·rw[Int.toNat_natCast,rA ⟨ad,h1.2⟩ h.wait]
theorem Good.same {d d':av} {s:eZ} (h:Good d s) (hd:d'.ok) (hw:d'.wait=[]) (hk:∀a:Int,(a=0∨a=1∨a∈s.t∨a∈s.pg)→0≤a∧a<34→d'.held a=d.held a):Good d' s∧∀p:Nat,p<14→cC d' s p=cC d s p:=by
 have zf:s.pg.length=14:=h.Ox.2
 have hg:Good d' s:=by
  refine⟨hd,hw,h.Ox,h.gen,h.XC,?_⟩;have k0:=hk 0 (.inl rfl) ⟨au,au⟩;have k1:=hk 1 (.inr (.inl rfl)) ⟨au,au⟩;rcases h.root with ⟨hg,ht,hp,h0,h1⟩|⟨hg,t0,t1,ht,tF,F0,⟨ta0,Zv,Zw⟩,⟨ta1,Zx,Zy⟩⟩
  ·exact .inl ⟨hg,ht,hp,by rw[k0,h0],by rw[k1,h1]⟩
  ·refine .inr ⟨hg,t0,t1,ht,?_,?_,⟨ta0,Zv,?_⟩,⟨ta1,Zx,?_⟩⟩
   ·rcases (show s.gen%2=0∨s.gen%2=1 by omega) with e|e<;>rw[e] at tF⊢
    ·rw[k0];exact tF
    ·rw[k1];exact tF
   ·rcases (show (s.gen+1)%2=0∨(s.gen+1)%2=1 by omega) with e|e<;>rw[e] at F0⊢
    ·rw[k0];exact F0
    ·rw[k1];exact F0
   ·rw[hk t0 (.inr (.inr (.inl (by rw[ht];simp)))) ⟨ad,Zv⟩];exact Zw
   ·rw[hk t1 (.inr (.inr (.inl (by rw[ht];simp)))) ⟨ad,Zx⟩];exact Zy
 refine⟨hg,fun p hp=>?_⟩;rw[hg.F1 hp,h.F1 hp];by_cases h0:s.pg.getD p 0=0
 ·rw[aq h0,aq h0]
 ·rw[ag h0,ag h0];rcases h.XC p hp with h1|h1
  ·exact absurd h1 h0
  ·refine hk _ (.inr (.inr (.inr ?_))) ⟨ad,h1.2⟩;rw[ey,b9 ad];exact List.getElem_mem _
def mg (f:Nat→List Int) (l:List cy):Nat→Nat→List Int
 |0=>f
 |k+1=>fun p=>if p=(l.getD k ⟨0,[]⟩).n.toNat then (l.getD k ⟨0,[]⟩).w else mg f l k p
theorem PL {F:List Int} (h:F.Nodup) {i j:Nat} (hi:i<F.length) (hj:j<F.length) (ix:i≠j):F.getD i 0≠F.getD j 0:=by
 have key:∀i j,i<j→j<F.length→F.getD i 0≠F.getD j 0:=fun i j Zz hj=>by
  have:=List.pairwise_iff_getElem.1 h i j ad hj Zz;simpa[ey,show i<F.length by omega,hj] using this
 rcases Nat.lt_or_gt_of_ne ix with h1|h1
 ·exact key i j h1 hj
 ·exact(key j i h1 hi).symm
def HT (H:Int→List Int) (a:Int):List Int:=if a=0 then av.bU else H a
theorem HU {H:Int→List Int} {a:Int} (h:a=0):HT H a=av.bU:=aq h
theorem BL {H:Int→List Int} {a:Int} (h:a≠0):HT H a=H a:=ag h
theorem DL {l:List Int} {n p:Nat} {a:Int} (hp:p<l.length):(l.set n a).getD p 0=if p=n then a else l.getD p 0:=by
 rw[ey,List.getElem?_set];by_cases e:n=p
 ·rw[aq e,aq ad,aq e.symm];rfl
 ·rw[ag e,ag (fun h=>e h.symm),ey]
theorem qL (F:List Int) (n i:Nat):(F.drop n).getD i 0=F.getD (n+i) 0:=by simp[ey,List.getElem?_drop]
structure uT (s:eZ) (l:List cy):Prop where
 len:l.length+2≤(eE s).length
 Ti:∀j,j<(eE s).length→2≤(eE s).getD j 0∧(eE s).getD j 0<34∧(eE s).getD j 0∉s.t++s.pg
 ne:∀i j,i<(eE s).length→j<(eE s).length→i≠j→(eE s).getD i 0≠(eE s).getD j 0
theorem BM {s:eZ} {l:List cy} (hs:s.ok) (hl:l.length≤14):uT s l:=by
 refine⟨?_,fun j hj=>?_,fun i j hi hj ix=>PL (BJ _ _) hi hj ix⟩
 ·have:=xT (s.t++s.pg) 32;rw[bq,hs.1,hs.2] at this;show l.length+2≤(eJ (s.t++s.pg) 32).length;omega
 ·have hm:(eE s).getD j 0∈eJ (s.t++s.pg) 32:=by
   rw[ey,b9 hj];exact List.getElem_mem _
  obtain⟨h1,h2,h3⟩:=FW hm;exact⟨h1,ad,h3⟩
theorem Ma (pg:List Int):∀x∈tC pg,x.w.length=8:=by
 intro x hx;simp only[tC,List.mem_cons,List.not_mem_nil,or_false] at hx;rcases hx with rfl|rfl<;>exact xP _ _ _
section
variable {d:av} {s:eZ} {l:List cy}
theorem qM (h:Good d s) (hw:∀x∈l,x.w.length=8) {q:Nat} (hq:q≤2):(fV d s l q).ok:=BK (BK h.HS hw _ (bX _)) (Ma _) q (by simpa[tC] using hq)
theorem Az (d:av) (s:eZ) (l:List cy) (q:Nat) (a:Int):(fV d s l q).held a=d.held a:=by rw[fV,tE,tE]
theorem xW (h:Good d s) {q:Nat} {a:Int} (ha:0≤a∧a<34) (hn:∀j,j<l.length+q→(eE s).getD j 0≠a):(fV d s l q).waits a=[]:=by
 rw[fV,kc ha q (fun j hj=>by rw[qL];exact hn _ ad),kc ha _ (fun j hj=>hn j ad),lK h.wait]
theorem uU (f:uT s l) {a:Int} (ha:a=0∨a=1∨a∈s.t∨a∈s.pg) {j:Nat} (hj:j<(eE s).length):(eE s).getD j 0≠a:=by
 obtain⟨h1,h2,h3⟩:=f.Ti j hj;rintro rfl;rcases ha with h|h|h|h
 ·omega
 ·omega
 ·exact h3 (List.mem_append.2 (.inl h))
 ·exact h3 (List.mem_append.2 (.inr h))
theorem JC (h:Good d s) (f:uT s l) {i:Nat} (hi:i<l.length):(fV d s l 2).waits ((eE s).getD i 0)=[(l.getD i ⟨0,[]⟩).w]:=by
 have hr:=f.Ti i (by have:=f.len;omega);have hlen:=f.len;rw[fV,kc ⟨ad,hr.2.1⟩ 2 (fun j hj=>by rw[qL];exact f.ne _ _ ad ad ad),r6 ⟨ad,hr.2.1⟩ rfl _ hi (fun j hj ix=>f.ne _ _ ad ad ix),lK h.wait];rfl
theorem xX (h:Good d s) (f:uT s l) {i:Nat} (hi:i<2):(fV d s l 2).waits ((eE s).getD (l.length+i) 0)=[tw (eW s l).pg i]:=by
 have hlen:=f.len;have hr:=f.Ti (l.length+i) ad;rw[fV,r6 (i:=i) ⟨ad,hr.2.1⟩ (qL _ _ _) 2 hi (fun j hj ix=>by rw[qL];exact f.ne _ _ ad ad ad),kc ⟨ad,hr.2.1⟩ _ (fun j hj=>f.ne _ _ ad ad ad),lK h.wait];rcases (show i=0∨i=1 by omega) with rfl|rfl<;>rfl
theorem pW (h:Good d s) (hw:∀x∈l,x.w.length=8) (f:uT s l) {a:Int} (ha:0≤a∧a<34) (hu:a=0∨a=1∨a∈s.t∨a∈s.pg):((fV d s l 2).settle fun _=>true).held a=d.held a:=by
 rw[kH (qM h hw (bX _)) _ ha (xW h ha (fun j hj=>uU f hu (by have:=f.len;omega))),Az]
theorem xY (h:Good d s) (hw:∀x∈l,x.w.length=8) {a:Int} (ha:0≤a∧a<34) {w:List Int} (hq:(fV d s l 2).waits a=[w]):((fV d s l 2).settle fun _=>true).held a=w:=by
 rw[FZ (qM h hw (bX _)) _ (fun _=>rfl) ha,PK ha,hq];rfl
theorem fW (d:av) (is:Nat→Bool):(d.settle is).wait=[]:=rfl
theorem DM (h:Good d s) (hw:∀x∈l,x.w.length=8) (hl:l.length≤14) {j:Nat} (hj:j≤l.length+3) (is:Nat→Bool):Good ((gH d s l j).settle is) s∧∀p:Nat,p<14→cC ((gH d s l j).settle is) s p=cC d s p:=by
 have f:=BM (l:=l) h.Ox hl;have hlen:=f.len;by_cases h1:j≤l.length
 ·(have e:gH d s l j=pS d l (eE s) j:=by rw[gH,aq h1]);rw[e];have cR:=BK (F:=eE s) h.HS hw j h1;refine h.same (gm cR _) (fW _ _) (fun a hu ha=>?_);rw[kH cR _ ha (by rw[kc ha j (fun i hi=>uU f hu ad),lK h.wait]),tE]
 by_cases h2:j≤l.length+2
 ·(have e:gH d s l j=fV d s l (j-l.length):=by rw[gH,ag h1,aq h2]);rw[e];have cR:=qM h hw (q:=j-l.length) ad;refine h.same (gm cR _) (fW _ _) (fun a hu ha=>?_);rw[kH cR _ ha (xW h ha (fun i hi=>uU f hu ad)),Az]
 ·(have e:gH d s l j=(fV d s l 2).settle fun _=>true:=by rw[gH,ag h1,ag h2,aq ad]);rw[e];have cR:=gm (qM h hw (bX 2)) (fun _=>true);refine h.same (gm cR _) (fW _ _) (fun a hu ha=>?_);rw[kH cR _ ha (lK (fW _ _) a),pW h hw f ha hu]
theorem xZ {d:av} (hd:d.ok) (hw:d.wait=[]) {r:Int} (hr:0≤r∧r<34) {W:List Int} (hW:W.length=8) (is:Nat→Bool) {a:Int} (ha:0≤a∧a<34):((d.write r W).settle is).held a=if a=r∧is 0=true then W else d.held a:=by
 rw[pV (hd.write hW) is ha,xV];(have:(d.write r W).wait=[(r.toNat,W)]:=by rw[nK hr];simp[hw]);rw[this];by_cases h0:is 0=true
 ·simp only[List.zipIdx_cons,List.zipIdx_nil,List.filter_cons,h0,if_true,List.filter_nil,List.map_cons,List.map_nil,av.last,List.foldl_cons,List.foldl_nil];by_cases e:a=r
  ·subst e;simp
  ·rw[ag ad,ag (fun h=>e h.1)]
 ·(have h0:is 0=false:=by simpa using h0);simp[av.last,h0]
theorem x5 (h:Good d s) (f:uT s l):∀k,k≤l.length→∀p,p<14→(mf s.pg l (eE s) k).getD p 0=0∨(2≤(mf s.pg l (eE s) k).getD p 0∧(mf s.pg l (eE s) k).getD p 0<34)
 |0,_,p,hp=>h.XC p hp
 |k+1,hk,p,hp=>by
  have hlen:=f.len;have ih:=x5 h f k ad p hp;have hr:=f.Ti k ad;rw[mf,ey,List.getElem?_set];split
  ·split
   ·right;exact⟨hr.1,hr.2.1⟩
   ·left;rfl
  ·rw[←ey];exact ih
theorem x6 (h:Good d s) (hw:∀x∈l,x.w.length=8) (hl:l.length≤14) (hn:∀x∈l,0≤x.n∧x.n<14) {d':av} (ZY:d'.ok) (OS:d'.wait=[])
 (hh:∀a:Int,0≤a∧a<34→d'.held a=if a=(s.gen+1)%2 then jL (s.gen+1) ((eW s l).t.getD 0 0) ((eW s l).t.getD 1 0) else ((fV d s l 2).settle fun _=>true).held a):
 Good d' (eW s l)∧∀p:Nat,p<14→cC d' (eW s l) p=mg (fun p=>cC d s p) l l.length p:=by
 have f:=BM (l:=l) h.Ox hl;have hlen:=f.len;have hg:=h.gen;have zf:(eW s l).pg.length=14:=pU _ _ h.Ox.2 _;have q0:=f.Ti l.length ad;have q1:=f.Ti (l.length+1) ad
 have hG:Good d' (eW s l):=by
  refine⟨ZY,OS,⟨rfl,zf⟩,by simp only[eW];omega,fun p hp=>x5 h f l.length (bX _) p hp,.inr ⟨by simp only[eW];omega,_,_,rfl,?_,?_,⟨q0.1,q0.2.1,?_⟩,⟨q1.1,q1.2.1,?_⟩⟩⟩
  ·show d'.held ((s.gen+1)%2)=_;rw[hh _ ⟨ad,ad⟩,aq rfl];rfl
  ·show (d'.held ((s.gen+1+1)%2)).getD 0 0<s.gen+1;(have e:(s.gen+1+1)%2=s.gen%2:=by omega);rw[e,hh _ ⟨ad,ad⟩,ag ad];rcases (show s.gen%2=0∨s.gen%2=1 by omega) with e2|e2
   ·rw[e2,pW h hw f ⟨au,au⟩ (.inl rfl)];rcases h.root with ⟨g0,-,-,h0,-⟩|⟨g0,t0,t1,-,hr,-⟩
    ·rw[h0,g0];decide
    ·rw[e2] at hr;rw[hr];simp only[jL,List.getD_cons_zero];omega
   ·rw[e2,pW h hw f ⟨au,au⟩ (.inr (.inl rfl))];rcases h.root with ⟨g0,-,-,-,h1⟩|⟨g0,t0,t1,-,hr,-⟩
    ·omega
    ·rw[e2] at hr;rw[hr];simp only[jL,List.getD_cons_zero];omega
  ·rw[hh _ ⟨ad,q0.2.1⟩,ag ad];exact xY h hw ⟨ad,q0.2.1⟩ (xX h f (i:=0) au)
  ·rw[hh _ ⟨ad,q1.2.1⟩,ag ad];exact xY h hw ⟨ad,q1.2.1⟩ (xX h f (i:=1) au)
 refine⟨hG,fun p hp=>?_⟩;obtain⟨H,hH⟩:∃H:Int→List Int,H=((fV d s l 2).settle fun _=>true).held:=⟨_,rfl⟩
 have key:∀k,k≤l.length→∀p,p<14→HT H ((mf s.pg l (eE s) k).getD p 0)=mg (fun p=>cC d s p) l k p:=by
  intro k
  induction k with
  |zero=>
   intro _ p hp;show HT H (s.pg.getD p 0)=cC d s p;rw[h.F1 hp];rcases h.XC p hp with h1|h1
   ·rw[HU h1,aq h1]
   ·rw[BL ad,ag ad,hH];refine pW h hw f ⟨ad,h1.2⟩ (.inr (.inr (.inr ?_)));have:=h.Ox.2;rw[ey,b9 ad];exact List.getElem_mem _
  |succ k ih=>
   intro hk p hp;(have hx:l[k]? =some (l.getD k ⟨0,[]⟩):=by rw[ey,b9 ad];rfl);have Rb:=hn _ (fg hx);have HM:=pU (pg:=s.pg) l (eE s) h.Ox.2 k;have hr:=f.Ti k ad;(have e1:(mf s.pg l (eE s) (k+1)).getD p 0=if p=(l.getD k ⟨0,[]⟩).n.toNat then (eE s).getD k 0 else (mf s.pg l (eE s) k).getD p 0:=by rw[mf];exact DL ad);(have e2:mg (fun p=>cC d s p) l (k+1) p=if p=(l.getD k ⟨0,[]⟩).n.toNat then (l.getD k ⟨0,[]⟩).w else mg (fun p=>cC d s p) l k p:=rfl);rw[e1,e2];by_cases e:p=(l.getD k ⟨0,[]⟩).n.toNat
   ·rw[aq e,aq e,BL ad,hH];exact xY h hw ⟨ad,hr.2.1⟩ (JC h f ad)
   ·rw[ag e,ag e];exact ih ad p hp
 rw[hG.F1 hp,←key l.length (bX _) p hp];have Tj:(eW s l).pg=mf s.pg l (eE s) l.length:=rfl;rw[Tj];rcases x5 h f l.length (bX _) p hp with h1|h1
 ·rw[HU h1,aq h1]
 ·rw[BL ad,ag ad,hh _ ⟨ad,h1.2⟩,ag ad,hH]
theorem mh (s:eZ) (l:List cy):(jL (s.gen+1) ((eW s l).t.getD 0 0) ((eW s l).t.getD 1 0)).length=8:=rfl
theorem DN (h:Good d s) (hw:∀x∈l,x.w.length=8) (hl:l.length≤14) (hn:∀x∈l,0≤x.n∧x.n<14) (is:Nat→Bool):
 if is 0=true then Good ((gH d s l (l.length+4)).settle is) (eW s l)∧∀p:Nat,p<14→cC ((gH d s l (l.length+4)).settle is) (eW s l) p=mg (fun p=>cC d s p) l l.length p
 else Good ((gH d s l (l.length+4)).settle is) s∧∀p:Nat,p<14→cC ((gH d s l (l.length+4)).settle is) s p=cC d s p:=by
 have f:=BM (l:=l) h.Ox hl;have hg:=h.gen
 have e:gH d s l (l.length+4)=((fV d s l 2).settle fun _=>true).write ((s.gen+1)%2) (jL (s.gen+1) ((eW s l).t.getD 0 0) ((eW s l).t.getD 1 0)):=by
  rw[gH,ag ad,ag ad,ag ad,aq rfl]
 rw[e];have cR:=gm (qM h hw (bX 2)) (fun _=>true);(have jd:=fun a ha=>xZ cR (fW _ _) (r:=(s.gen+1)%2) ⟨ad,ad⟩ (mh s l) is (a:=a) ha);split
 ·rename_i h0;refine x6 h hw hl hn (gm (cR.write (mh s l)) _) (fW _ _) (fun a ha=>?_);rw[jd a ha];simp only[h0,and_true]
 ·rename_i h0;refine h.same (gm (cR.write (mh s l)) _) (fW _ _) (fun a hu ha=>?_);rw[jd a ha,ag (fun q=>h0 q.2),pW h hw f ha hu]
theorem DO (h:Good d s) (hw:∀x∈l,x.w.length=8) (hl:l.length≤14) (hn:∀x∈l,0≤x.n∧x.n<14):
 Good (gH d s l (l.length+5)) (eW s l)∧∀p:Nat,p<14→cC (gH d s l (l.length+5)) (eW s l) p=mg (fun p=>cC d s p) l l.length p:=by
 have hg:=h.gen
 have e:gH d s l (l.length+5)=(((fV d s l 2).settle fun _=>true).write ((s.gen+1)%2) (jL (s.gen+1) ((eW s l).t.getD 0 0) ((eW s l).t.getD 1 0))).settle fun _=>true:=by
  rw[gH,ag ad,ag ad,ag ad,ag ad]
 rw[e];have cR:=gm (qM h hw (bX 2)) (fun _=>true);refine x6 h hw hl hn (gm (cR.write (mh s l)) _) (fW _ _) (fun a ha=>?_);rw[xZ cR (fW _ _) ⟨ad,ad⟩ (mh s l) _ ha];simp
theorem Good.settle (h:Good d s) (is:Nat→Bool):Good (d.settle is) s∧∀p:Nat,p<14→cC (d.settle is) s p=cC d s p:=
 h.same (gm h.HS _) rfl (fun a _ ha=>kH h.HS _ ha (lK h.wait a))
end
theorem Good.abt {d:av} {s:eZ} (h:Good d s):d.wait.length<900:=by rw[h.wait];decide
theorem Good.HV {d:av} {s:eZ} (h:Good d s):d.wait.length<1000000:=by rw[h.wait];decide
theorem JD {d:av} {s:eZ} {l:List cy} (h:Good d s) (hl:l.length≤14) (j:Nat):(gH d s l j).wait.length<1000000:=by
 have h0:d.wait.length=0:=by rw[h.wait];rfl
 have hT:∀q,q≤2→(fV d s l q).wait.length<100:=fun q hq=>by
  have h1:=kG d l (eE s) l.length;have h2:=kG (pS d l (eE s) l.length) (tC (eW s l).pg) ((eE s).drop l.length) q;unfold fV;omega
 unfold gH;split
 ·have:=kG d l (eE s) j;omega
 ·split
  ·have:=hT (j-l.length) ad;omega
  ·split
   ·simp[av.settle]
   ·split
    ·have:=rZ ((fV d s l 2).settle fun _=>true) ((s.gen+1)%2) (jL (s.gen+1) ((eW s l).t.getD 0 0) ((eW s l).t.getD 1 0));(have h3:((fV d s l 2).settle fun _=>true).wait.length=0:=by simp[av.settle]);omega
    ·simp[av.settle]
def s0:eZ:=⟨0,[0,0],fz⟩
structure VS where
 gen:Int
 DP:List (List Int)
 waits:Bool
 next:List (List Int)
def fC (P:List (List Int)):Prop:=P.length=14∧∀w∈P,w.length=8
namespace VS
def ok (v:VS):Prop:=fC v.DP∧fC v.next
def cells (v:VS):List Value:=i64 v.gen::(ints v.DP.flatten++(.bool v.waits::ints v.next.flatten))
end VS
theorem tG {P:List (List Int)} (h:fC P):(ints P.flatten).length=112:=by
 rw[dz,mN h.2,h.1]
theorem O5 {g bw:Value} {A B:List Value} (h:A.length=112) (h':B.length=112):(g::(A++bw::B)).length=226:=by simp only[bF,bq,h,h']
theorem DQ {α:Type} {s:Nat}:∀(rows:List (List α)),(∀r∈rows,r.length=s)→∀(n:Nat),n<rows.length→∀(r:List α),r.length=s→rows.flatten.take (n*s)++(r++rows.flatten.drop (n*s+s))=(rows.set n r).flatten
 |[],_,n,hn,_,_=>by simp at hn
 |x::rows,h,0,_,r,hr=>by
  have hx:=h x aZ;simp only[Nat.zero_mul,List.take_zero,List.nil_append,Nat.zero_add,List.flatten_cons,List.set_cons_zero];rw[List.drop_left' hx]
 |x::rows,h,n+1,hn,r,hr=>by
  have hx:=h x aZ;have ih:=DQ rows (fun r' h'=>h r' (List.mem_cons_of_mem _ h')) n (by simpa using hn) r hr;simp only[List.flatten_cons,List.set_cons_succ];rw[←ih,show (n+1)*s=x.length+n*s by rw[Nat.succ_mul,hx];omega,List.take_length_add_append,show x.length+n*s+s=x.length+(n*s+s) by omega,List.drop_length_add_append];simp
theorem DR (X w:List Int) (o:Nat):aQ (ints X) o (ints w)=ints (X.take o++(w++X.drop (o+w.length))):=by simp[aQ,List.map_take,List.map_drop]
theorem PN {P:List (List Int)} (h:fC P) {n:Nat} (hn:n<14) {w:List Int} (hw:w.length=8):aQ (ints P.flatten) (n*8) (ints w)=ints (P.set n w).flatten:=by
 rw[DR,hw,DQ P h.2 n (by rw[h.1];exact hn) w hw]
theorem tH {P:List (List Int)} (h:fC P) (n:Nat) {w:List Int} (hw:w.length=8):fC (P.set n w):=by
 refine⟨by rw[List.length_set,h.1],fun x hx=>?_⟩;rcases List.mem_or_eq_of_mem_set hx with h1|h1
 ·exact h.2 x h1
 ·rw[h1];exact hw
def AA (P:List (List Int)) (l:List cy):Nat→List (List Int)
 |0=>P
 |k+1=>(AA P l k).set (l.getD k ⟨0,[]⟩).n.toNat (l.getD k ⟨0,[]⟩).w
theorem DS {P:List (List Int)} {l:List cy} (h:fC P) (hw:∀x∈l,x.w.length=8):∀k,k≤l.length→fC (AA P l k)
 |0,_=>h
 |k+1,hk=>by
  rw[AA];refine tH (DS h hw k ad) _ ?_;rw[ey,b9 ad];exact hw _ (List.getElem_mem _)
structure Rel (d:av) (s:eZ) (v:VS):Prop where
 Mb:Good d s
 ok:v.ok
 gen:v.gen=s.gen
 waits:v.waits=false
 F1:∀p:Nat,p<14→v.DP.getD p av.bU=cC d s p
theorem PO {P:List (List Int)} (h:fC P) {n:Nat} (hn:n<14) (g:Value) (r:List Value):((g::(ints P.flatten++r)).drop (1+n*8)).take 8=ints (P.getD n av.bU):=by
 rw[Nat.add_comm,List.drop_succ_cons];(have hx:P[n]? =some (P.getD n av.bU):=by rw[ey,b9 (by rw[h.1];exact hn)];rfl);have h8:=h.2 _ (fg hx);have zf:=tG h;have h1:=pC (fun w=>ints w) 8 P (fun x hx=>by simp[h.2 x hx]) n _ hx;rw[show (ints (P.getD n av.bU)).length=8 by rw[dz,h8]] at h1;(have h2:ints P.flatten=P.flatMap (fun w=>ints w):=by simp[ints,List.flatMap,List.map_flatten]);rw[List.drop_append_of_le_length ad,List.take_append_of_le_length (by simp only[List.length_drop,zf];omega),h2];exact h1
theorem X.ah.mX {P:Program} {f:FuncId} {vs:Array Value} {σ:PH} {Γ al:List HP} {R:HP} {α:Sort _} {φ:α→PH→Prop} {RR:Ending→PH→List HP→Prop} (he:Enters P f) (s:dm Γ R al) (ho:∀m,R m→∃x,φ x m) (mono:∀x m m',φ x m→m.sub m'→φ x m') (k:∀aj x,φ x aj→σ.sub aj→ah P f vs aj al RR):ah P f vs σ Γ RR:=
 ⟨he,fun fr h hh=>by obtain⟨aj,x,a,b,c⟩:=fl hh s ho mono;exact(k aj x a b).2 fr h c⟩
theorem vF {f g:Nat→List Int} (h:∀p,p<14→f p=g p) (l:List cy):∀k p,p<14→mg f l k p=mg g l k p
 |0,p,hp=>h p hp
 |k+1,p,hp=>by
  have ih:=vF h l k p hp;show (if _ then _ else _)=(if _ then _ else _);rw[ih]
theorem AB {P:List (List Int)} {l:List cy} (h:fC P) (hw:∀x∈l,x.w.length=8):∀k,k≤l.length→∀p,p<14→(AA P l k).getD p av.bU=mg (fun p=>P.getD p av.bU) l k p
 |0,_,p,_=>rfl
 |k+1,hk,p,hp=>by
  have ih:=AB h hw k ad p hp;have hl:=(DS h hw k ad).1;(have e:mg (fun p=>P.getD p av.bU) l (k+1) p=if p=(l.getD k ⟨0,[]⟩).n.toNat then (l.getD k ⟨0,[]⟩).w else mg (fun p=>P.getD p av.bU) l k p:=rfl);rw[e,AA,ey,List.getElem?_set];by_cases q:(l.getD k ⟨0,[]⟩).n.toNat=p
  ·rw[aq q,aq ad,aq q.symm];rfl
  ·rw[ag q,ag (fun z=>q z.symm),←ih,ey]
section
variable {d:av} {s:eZ} {v:VS} {l:List cy}
theorem Rel.DP (h:Rel d s v) (hw:∀x∈l,x.w.length=8) {p:Nat} (hp:p<14):(AA v.DP l l.length).getD p av.bU=mg (fun p=>cC d s p) l l.length p:=by
 rw[AB h.ok.1 hw l.length (bX _) p hp,vF h.F1 l l.length p hp]
end
def F2 (W:List Int) (l:List cy):Nat→Int→List Int
 |0,_=>W
 |k+1,p=>if (l.getD k ⟨0,[]⟩).n=p then (l.getD k ⟨0,[]⟩).w else F2 W l k p
theorem tJ {W:List Int} {l:List cy} {k:Nat} {x:cy} (h:l[k]? =some x) (p:Int):F2 W l (k+1) p=if x.n=p then x.w else F2 W l k p:=by
 (have e:l.getD k ⟨0,[]⟩=x:=by rw[ey,h];rfl);rw[F2,e]
theorem PQ {W:List Int} {l:List cy} (hW:W.length=8) (hw:∀x∈l,x.w.length=8) (p:Int):∀k,k≤l.length→(F2 W l k p).length=8
 |0,_=>hW
 |k+1,h=>by
  rw[tJ (b9 (by omega:k<l.length)) p];split
  ·exact hw _ (List.getElem_mem _)
  ·exact PQ hW hw p k ad
theorem HW {f:Nat→List Int} {l:List cy} (hn:∀x∈l,0≤x.n∧x.n<14) (p:Nat):∀k,k≤l.length→F2 (f p) l k p=mg f l k p
 |0,_=>rfl
 |k+1,h=>by
  have ih:=HW (f:=f) hn p k ad;have hx:=hn (l.getD k ⟨0,[]⟩) (by rw[ey,b9 (by omega:k<l.length)];exact List.getElem_mem _);show (if _ then _ else _)=(if _ then _ else _);rw[ih];by_cases q:(l.getD k ⟨0,[]⟩).n=p
  ·rw[aq q,aq ad]
  ·rw[ag q,ag ad]
theorem HX {W:List Int} {l:List cy} (hn:∀x∈l,0≤x.n∧x.n<14) {p:Int} (hp:¬(0≤p∧p<14)):∀k,k≤l.length→F2 W l k p=W
 |0,_=>rfl
 |k+1,h=>by
  have hx:=hn (l.getD k ⟨0,[]⟩) (by rw[ey,b9 (by omega:k<l.length)];exact List.getElem_mem _);rw[F2,ag (by rintro rfl;exact hp hx),HX hn hp k ad]
theorem nM {d:av} {s:eZ} {p:Int} (hp:¬(0≤p∧p<14)):cC d s p=av.bU:=by rw[cC,ag (fun q=>hp ⟨q.1,q.2.1⟩)]
theorem uV {d:av} (hd:d.ok) (s:eZ) (p:Int):(cC d s p).length=8:=by
 unfold cC;split
 ·exact len8 hd _
 ·rfl
theorem XD {d d':av} {s s':eZ} (h:∀p:Nat,p<14→cC d' s' p=cC d s p) (p:Int):cC d' s' p=cC d s p:=by
 by_cases hp:0≤p∧p<14
 ·obtain⟨n,rfl⟩:=Int.eq_ofNat_of_zero_le hp.1;exact h n ad
 ·rw[nM hp,nM hp]
theorem DT {d d':av} {s s':eZ} {l:List cy} (hn:∀x∈l,0≤x.n∧x.n<14) (h:∀p:Nat,p<14→cC d' s' p=mg (fun p=>cC d s p) l l.length p) (p:Int):cC d' s' p=F2 (cC d s p) l l.length p:=by
 by_cases hp:0≤p∧p<14
 ·obtain⟨n,rfl⟩:=Int.eq_ofNat_of_zero_le hp.1;rw[h n ad];exact(HW (f:=fun p=>cC d s p) hn n l.length (bX _)).symm
 ·rw[nM hp,nM hp,HX hn hp _ (bX _)]
theorem XE (p:Int):cC av.new s0 p=av.bU:=by
 by_cases hp:0≤p∧p<14
 ·obtain⟨n,rfl⟩:=Int.eq_ofNat_of_zero_le hp.1;rw[(show Good av.new s0 from Good.new).F1 ad,aq];simp only[s0,fz,ey,List.getElem?_replicate];split<;>rfl
 ·exact nM hp
theorem Tl {P:List (List Int)} (h:fC P) {n:Nat} (hn:n<14):((ints P.flatten).drop (n*8)).take 8=ints (P.getD n av.bU):=by
 have:=PO h hn (.int .i64 0) [];rw[Nat.add_comm 1,List.drop_succ_cons,List.append_nil] at this;exact this
theorem kI {P:List (List Int)} (h:fC P) {n:Nat} (hn:n<14):(P.getD n av.bU).length=8:=by
 rw[ey,b9 (by rw[h.1];exact hn)];exact h.2 _ (List.getElem_mem _)
def fI (l:List Bool):List Value:=l.map Value.bool
def bM (sb:Nat) (inn dt:List Bool) (pg:List (List Int)):List Value:=ptr sb::(fI inn++(fI dt++ints pg.flatten))
theorem fp (l:List Bool):(fI l).length=l.length:=List.length_map _
theorem x7:∀l:List Bool,dT (fI l)
 |[]=>kz rfl
 |_::l=>fO rfl (x7 l)
theorem oI {A X R v:List Value} {o j:Nat} (hA:A.length=o) (h:j+v.length≤X.length):aQ (A++(X++R)) (o+j) v=A++(aQ X j v++R):=by
 subst hA;unfold aQ;rw[List.take_length_add_append,Nat.add_assoc,List.drop_length_add_append,List.take_append_of_le_length ad,List.drop_append_of_le_length ad];simp
theorem HY {A X R:List Value} {o j:Nat} (hA:A.length=o) (h:j<X.length):(A++(X++R))[o+j]? =X[j]? :=by
 subst hA;rw[List.getElem?_append_right ad,List.getElem?_append_left ad];congr 1;omega
theorem DU {A X R:List Value} {o j n:Nat} (hA:A.length=o) (h:j+n≤X.length):((A++(X++R)).drop (o+j)).take n=(X.drop j).take n:=by
 subst hA;rw[List.drop_length_add_append,List.drop_append_of_le_length ad,List.take_append_of_le_length sU]
section
variable {sb:Nat} {inn dt:List Bool} {pg:List (List Int)}
theorem mc1:bM sb inn dt pg=[ptr sb]++(fI inn++(fI dt++ints pg.flatten)):=rfl
theorem ZA:bM sb inn dt pg=(ptr sb::fI inn)++(fI dt++ints pg.flatten):=rfl
theorem mc3:bM sb inn dt pg=(ptr sb::(fI inn++fI dt))++(ints pg.flatten++[]):=by simp[bM]
theorem wF (h:inn.length=14):(ptr sb::fI inn).length=15:=by simp[fI,h]
theorem HZ (h:inn.length=14) (h':dt.length=14):(ptr sb::(fI inn++fI dt)).length=29:=by simp[fI,h,h']
theorem uW (h:inn.length=14) (h':dt.length=14) (hp:fC pg):(bM sb inn dt pg).length=141:=by
 have:=tG hp;simp only[bM,bF,bq,fp,h,h',this]
theorem uX {l:List Bool} {k:Nat} (h:k<l.length):(fI l)[k]? =some (.bool (l.getD k false)):=by
 simp[fI,ey,b9 h]
theorem AE {l:List Bool} {k:Nat} (h:k<l.length) (x:Bool):aQ (fI l) k [.bool x]=fI (l.set k x):=by
 rw[me _ _ _ (by rw[fp];exact h)];simp[fI,List.map_set]
theorem XG (h:inn.length=14) {p:Nat} (hp:p<14):(bM sb inn dt pg)[1+p]? =some (.bool (inn.getD p false)):=by
 rw[mc1,HY (o:=1) rfl (by rw[fp];omega),uX ad]
theorem ael (h:inn.length=14) (h':dt.length=14) {p:Nat} (hp:p<14):(bM sb inn dt pg)[15+p]? =some (.bool (dt.getD p false)):=by
 rw[ZA,HY (wF h) (by rw[fp];omega),uX ad]
theorem Tm (h:inn.length=14) (h':dt.length=14):((bM sb inn dt pg).drop 15).take 14=fI dt:=by
 have:=DU (A:=ptr sb::fI inn) (X:=fI dt) (R:=ints pg.flatten) (o:=15) (j:=0) (n:=14) (wF h) (by rw[fp];omega);rw[ZA];refine this.trans ?_;rw[List.drop_zero,List.take_of_length_le (by rw[fp];omega)]
theorem F3 (h:inn.length=14) (h':dt.length=14) (hg:fC pg) {p:Nat} (hp:p<14):((bM sb inn dt pg).drop (29+p*8)).take 8=ints (pg.getD p av.bU):=by
 rw[mc3,DU (HZ h h') (by rw[tG hg];omega),Tl hg hp]
theorem H0 (h:inn.length=14) (h':dt.length=14) (hg:fC pg) {p k:Nat} (hp:p<14) (hk:k<8):(bM sb inn dt pg)[29+p*8+k]? =some (i64 ((pg.getD p av.bU).getD k 0)):=by
 have h1:=F3 (sb:=sb) h h' hg hp
 have h2:(((bM sb inn dt pg).drop (29+p*8)).take 8)[k]? =some (i64 ((pg.getD p av.bU).getD k 0)):=by
  rw[h1,tA (by rw[kI hg hp];exact hk)]
 rw[List.getElem?_take,aq hk,List.getElem?_drop] at h2;exact h2
theorem Tn (h:inn.length=14) {p:Nat} (hp:p<14) (x:Bool):aQ (bM sb inn dt pg) (1+p) [.bool x]=bM sb (inn.set p x) dt pg:=by
 rw[mc1,oI (o:=1) rfl (by rw[fp,dZ];omega),AE ad];rfl
theorem To (h:inn.length=14) (h':dt.length=14) {p:Nat} (hp:p<14) (x:Bool):aQ (bM sb inn dt pg) (15+p) [.bool x]=bM sb inn (dt.set p x) pg:=by
 rw[ZA,oI (wF h) (by rw[fp,dZ];omega),AE ad];rfl
theorem PS {XH:List Bool} (h:inn.length=14) (h':dt.length=14) (VO:XH.length=14):aQ (bM sb inn dt pg) 15 (fI XH)=bM sb inn XH pg:=by
 have:=oI (A:=ptr sb::fI inn) (X:=fI dt) (R:=ints pg.flatten) (o:=15) (j:=0) (v:=fI XH) (wF h) (by rw[fp,fp];omega);rw[ZA];refine this.trans ?_;rw[iB (by rw[fp,fp];omega)];rfl
theorem H3 (h:inn.length=14) (h':dt.length=14) (hg:fC pg) {p:Nat} (hp:p<14) {w:List Int} (hw:w.length=8):aQ (bM sb inn dt pg) (29+p*8) (ints w)=bM sb inn dt (pg.set p w):=by
 rw[mc3,oI (HZ h h') (by rw[tG hg,dz,hw];omega),PN hg hp hw,←mc3]
theorem PT {w:List Int} {k:Nat} (hk:k<w.length) (x:Int):aQ (ints w) k [i64 x]=ints (w.set k x):=DI hk x
theorem Mc (h:inn.length=14) (h':dt.length=14) (hg:fC pg) {p k:Nat} (hp:p<14) (hk:k<8) (x:Int):aQ (bM sb inn dt pg) (29+p*8+k) [i64 x]=bM sb inn dt (pg.set p ((pg.getD p av.bU).set k x)):=by
 have hr:=F3 (sb:=sb) h h' hg hp;have hl:=uW (sb:=sb) h h' hg;have h8:=kI hg hp;rw[←H3 h h' hg hp (w:=(pg.getD p av.bU).set k x) (by rw[List.length_set,h8]),←PT ad,←hr];generalize bM sb inn dt pg=L at hl;unfold aQ;(have e8:((L.drop (29+p*8)).take 8).length=8:=by simp[hl];omega);(have l1:(((L.drop (29+p*8)).take 8).take k++[i64 x]++((L.drop (29+p*8)).take 8).drop (k+[i64 x].length)).length=8:=by simp[hl];omega);rw[l1,dZ,List.take_take,Nat.min_eq_left ad,List.drop_take,List.drop_drop];rw[show L.take (29+p*8+k)=L.take (29+p*8)++(L.drop (29+p*8)).take k from List.take_add]
 rw[show L.drop (29+p*8+k+1)=(L.drop (29+p*8+(k+1))).take (8-(k+1))++L.drop (29+p*8+8) from by
  have:=List.take_append_drop (8-(k+1)) (L.drop (29+p*8+(k+1)));rw[List.drop_drop,show 29+p*8+(k+1)+(8-(k+1))=29+p*8+8 by omega] at this
  exact this.symm]
 simp
end
structure r7 (d:av) (s:eZ) (inn dt:List Bool) (pg C:List (List Int)):Prop where
 li:inn.length=14
 ld:dt.length=14
 pp:fC pg
 cc:fC C
 val:∀p,p<14→C.getD p av.bU=if inn.getD p false=true then pg.getD p av.bU else cC d s p
 dir:∀p,p<14→dt.getD p false=true→inn.getD p false=true
 w8:∀p,p<14→dt.getD p false=false→C.getD p av.bU=cC d s p
theorem abv {n:Nat} (h:n<112):IntKind.i64.wrap ((n:Int).tdiv 8)=((n/8:Nat):Int):=by
 rw[Int.tdiv_eq_ediv_of_nonneg ad,X.wrap64_in ad ad];omega
theorem Tp (n:Nat):(n:Int).tmod 8=((n%8:Nat):Int):=by
 rw[Int.tmod_eq_emod_of_nonneg ad];omega
theorem Rd.abw {P:Program} {ρ:Env} {S:Heap→Prop} {x y:Operand} {T T' ty:TypeId} {kk:IntKind} {a b c:Int} (hx:ev ρ x=.int kk a) (hy:ev ρ y=.int kk b) (hb:b≠0) (hc:kk.wrap (a.tdiv b)=c):Rd P ρ S (.binOp .quo T x y T') ty (.int kk c):=hc▸Rd.quo hx hy hb
theorem H4 (σ:PH) (b:Nat) (at_:Int) (h:¬(0≤at_∧at_<112)):ah Tryz.prog 161 #[ptr b,i64 at_] σ [] (aA fun v aj al=>v=.tuple #[i64 0,.bool false]∧σ=aj∧al=[]):=by
 by_cases h0:at_<0
 ·refine cw Tryz.func161 ?_;refine dV ?_;refine XA.aY rfl zY ?_;refine bJ ?_;exact ao.ret (aB.two rfl rfl rfl) (ar.nil _) ⟨rfl,rfl,rfl⟩
 ·refine cw Tryz.func161 ?_;refine dV ?_;refine XA.aY rfl zY ?_;refine bJ ?_;exact ao.ret (aB.two rfl rfl rfl) (ar.nil _) ⟨rfl,rfl,rfl⟩
theorem mj {l:List Bool} {n p:Nat} {a:Bool} (hp:p<l.length):(l.set n a).getD p false=if p=n then a else l.getD p false:=by
 rw[ey,List.getElem?_set];by_cases h:n=p
 ·subst h;rw[aq rfl,aq hp,aq rfl];rfl
 ·rw[ag h,ag (Ne.symm h),ey]
theorem ml {l:List (List Int)} {n p:Nat} {a:List Int} (hp:p<l.length):(l.set n a).getD p av.bU=if p=n then a else l.getD p av.bU:=by
 rw[ey,List.getElem?_set];by_cases h:n=p
 ·subst h;rw[aq rfl,aq hp,aq rfl];rfl
 ·rw[ag h,ag (Ne.symm h),ey]
theorem r7.read {d:av} {s:eZ} {inn dt:List Bool} {pg C:List (List Int)} (h:r7 d s inn dt pg C) (hd:d.ok) {p:Nat} (hp:p<14) (hi:inn.getD p false=false):r7 d s (inn.set p true) dt (pg.set p (cC d s p)) C:=by
 refine⟨by rw[List.length_set];exact h.li,h.ld,tH h.pp p (uV hd s p),h.cc,fun q hq=>?_,fun q hq Md=>?_,h.w8⟩
 ·rw[mj (by rw[h.li];exact hq),ml (by rw[h.pp.1];exact hq),h.val q hq];by_cases e:q=p
  ·subst e;rw[aq rfl,aq rfl,aq rfl,hi];rfl
  ·rw[ag e,ag e]
 ·rw[mj (by rw[h.li];exact hq)];split
  ·rfl
  ·exact h.dir q hq Md
theorem Mf (σ:PH) (b sb db:Nat) (d:av) (s:eZ) (inn dt:List Bool) (pg C:List (List Int)) (n:Nat) (hn:n<112) (hd:d.ok) (hlen:d.wait.length<1000000) (h:r7 d s inn dt pg C):
 ah Tryz.prog 161 #[ptr b,i64 n] σ [aw b (bM sb inn dt pg) 242,ck sb db s,bW db d] (aA fun v aj al=>v=.tuple #[i64 ((n/8:Nat):Int),.bool true]∧σ=aj∧∃r8 DV,r7 d s r8 dt DV C∧r8.getD (n/8) false=true∧al=[aw b (bM sb r8 dt DV) 242,ck sb db s,bW db d]):=by
 obtain⟨p,hp⟩:∃p,p=n/8:=⟨_,rfl⟩;(have uY:p<14:=by omega);have hq:=abv hn;rw[←hp] at hq⊢;have j3:=XG (sb:=sb) (dt:=dt) (pg:=pg) h.li uY;have jd:dT (ints (cC d s p)):=ei _;have Zg:=uW (sb:=sb) h.li h.ld h.pp;refine cw Tryz.func161 ?_;refine dV ?_;refine XA.aI rfl zY ?_;refine dc ?_;refine zO rfl (Rd.abw (c:=(p:Int)) rfl rfl au hq) ?_;refine dh ?_
 cases hi:inn.getD p false with
 |true=>
  rw[hi] at j3;refine cp ?_;exact ao.ret (aB.two rfl rfl rfl) zE ⟨rfl,rfl,inn,pg,h,hi,rfl⟩
 |false=>
  rw[hi] at j3;have iP:=Tn (sb:=sb) (dt:=dt) (pg:=pg) h.li uY true;have hR:=h.read hd uY hi;have Vx:=uV hd s p;obtain⟨W,hW⟩:∃W,W=cC d s p:=⟨_,rfl⟩;have sR:=H3 (sb:=sb) (inn:=inn.set p true) (dt:=dt) (pg:=pg) (by rw[List.length_set];exact h.li) h.ld h.pp uY Vx;(have gf:1+p+1≤(bM sb inn dt pg).length:=by omega);have Tq:=uW (sb:=sb) hR.li h.ld h.pp;(have pH:∀_:Unit,29+p*8+KX.size≤(bM sb (inn.set p true) dt pg).length:=fun _=>by rw[Tq];show 29+p*8+8≤141;omega);rw[←hW] at hR Vx sR;refine cp ?_;refine XA.draw aC _ _ [7,11] [(0,.pu),(1,.pu),(2,.pu),(3,.pu),(4,.pu),(5,.rd),(6,.pu),(8,.pu),(9,.pu),(7,.wr),(10,.pu),(11,.wr)] aC (PH.sub.refl _) (ar.bB (R:=aw b _ _) zL (ar.nil _)) ?_;refine bt ?_;refine aP.b7 rfl rfl Gd.free aC (ax.cE (PC σ sb db s d p hd hlen) rfl) ?_;rintro _ _ _ ⟨_,⟨rfl,rfl,rfl⟩,rfl⟩;refine aP.cl ?_;rw[←hW];refine bS ?_;refine kS rfl (ax.st (ae rfl) rfl) ?_;refine aR ?_;exact ao.ret (aB.two rfl rfl rfl) zE ⟨rfl,rfl,_,_,hR,by rw[mj (by rw[h.li];exact uY),aq rfl],rfl⟩
end Go.Proofs.YtgeoiflbjcehcaaGreatDoor
