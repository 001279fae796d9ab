import Derived.Test.YtgeoiflbjcehcaaGreatDoorDd9
set_option maxHeartbeats 4000000
set_option maxRecDepth 2000
set_option linter.unusedVariables false
set_option linter.unusedSimpArgs false
namespace Go.Proofs.YtgeoiflbjcehcaaGreatDoor
open Go X
set_option maxRecDepth 4000
def qG (vl:List Va) (e:Int) (f:Nat):Prop:=∀(σ:PH) (b:Nat) (p:Option Addr) (c:Nat) (pv:Option Addr) (cv:Nat) (l:List Tk) (d:Int),bV 2 sB σ (.slice pv vl.length cv) vl→bV 4 je σ (.slice p l.length c) l→(∀t∈l,lH t)→d+f=13→0≤d→l.length≤10000→
 ah Tryz.prog 180 #[ptr b,i64 d] σ [aw b [.slice p l.length c,i64 e,.slice pv vl.length cv] 213] (Ps
  (fun v aj al=>∃x l',bH vl e f l=.ok (x,l')∧∃cs p' c',v=.agg (List.toArray cs)∧dF aj cs x∧bV 4 je aj (.slice p' l'.length c') l'∧σ.sub aj∧al=[aw b [.slice p' l'.length c',i64 e,.slice pv vl.length cv] 213])
  (fun ch aj al=>∃x,bH vl e f l=.error x∧ch=j4 x∧σ.sub aj∧∃cs,al=[aw b cs 213]))
theorem qG.ok {vl:List Va} {e:Int} {f:Nat} (h:qG vl e f) {σ:PH} {b:Nat} {p:Option Addr} {c:Nat} {pv:Option Addr} {cv:Nat} {l:List Tk} {d:Int} (hv:bV 2 sB σ (.slice pv vl.length cv) vl) (hl:bV 4 je σ (.slice p l.length c) l) (hF:∀t∈l,lH t) (hd:d+f=13) (xu:0≤d) (hL:l.length≤10000) {x} {l':List Tk} (ho:bH vl e f l=.ok (x,l')):
 ah Tryz.prog 180 #[ptr b,i64 d] σ [aw b [.slice p l.length c,i64 e,.slice pv vl.length cv] 213] (aA fun v aj al=>∃cs p' c',v=.agg (List.toArray cs)∧dF aj cs x∧bV 4 je aj (.slice p' l'.length c') l'∧σ.sub aj∧al=[aw b [.slice p' l'.length c',i64 e,.slice pv vl.length cv] 213]):=by
 refine(h σ b p c pv cv l d hv hl hF hd xu hL).mono fun en aj al hr=>?_
 cases en with
 |returned v=>
  obtain⟨x',SZ,h1,h2⟩:=hr;rw[ho] at h1;cases h1;exact h2
 |panicked ch=>obtain⟨x',h1,-⟩:=hr;rw[ho] at h1;cases h1
 |outgrown=>exact False.elim hr
theorem qG.bad {vl:List Va} {e:Int} {f:Nat} (h:qG vl e f) {σ:PH} {b:Nat} {p:Option Addr} {c:Nat} {pv:Option Addr} {cv:Nat} {l:List Tk} {d:Int} (hv:bV 2 sB σ (.slice pv vl.length cv) vl) (hl:bV 4 je σ (.slice p l.length c) l) (hF:∀t∈l,lH t) (hd:d+f=13) (xu:0≤d) (hL:l.length≤10000) {x:Int×Int} (ho:bH vl e f l=.error x):
 ah Tryz.prog 180 #[ptr b,i64 d] σ [aw b [.slice p l.length c,i64 e,.slice pv vl.length cv] 213] (na fun ch aj al=>ch=j4 x∧σ.sub aj∧∃cs,al=[aw b cs 213]):=by
 refine(h σ b p c pv cv l d hv hl hF hd xu hL).mono fun en aj al hr=>?_
 cases en with
 |returned v=>obtain⟨x',SZ,h1,-⟩:=hr;rw[ho] at h1;cases h1
 |panicked ch=>
  obtain⟨x',h1,h2⟩:=hr;rw[ho] at h1;cases h1;exact h2
 |outgrown=>exact False.elim hr
def tk (vl:List Va) (e:Int) (f:Nat):Prop:=∀(σ:PH) (b:Nat) (p:Option Addr) (c:Nat) (pv:Option Addr) (cv:Nat) (l:List Tk) (d:Int),bV 2 sB σ (.slice pv vl.length cv) vl→bV 4 je σ (.slice p l.length c) l→(∀t∈l,lH t)→d+f=13→0≤d→l.length≤10000→
 ah Tryz.prog 212 #[ptr b,i64 d] σ [aw b [.slice p l.length c,i64 e,.slice pv vl.length cv] 213] (Ps
  (fun v aj al=>∃x l',dA (bH vl e f) e l=.ok (x,l')∧∃q m p' c',v=.slice q x.length m∧bV 12 dF aj (.slice q x.length m) x∧bV 4 je aj (.slice p' l'.length c') l'∧σ.sub aj∧al=[aw b [.slice p' l'.length c',i64 e,.slice pv vl.length cv] 213])
  (fun ch aj al=>∃x,dA (bH vl e f) e l=.error x∧ch=j4 x∧σ.sub aj∧∃cs,al=[aw b cs 213]))
theorem tk.ok {vl:List Va} {e:Int} {f:Nat} (h:tk vl e f) {σ:PH} {b:Nat} {p:Option Addr} {c:Nat} {pv:Option Addr} {cv:Nat} {l:List Tk} {d:Int} (hv:bV 2 sB σ (.slice pv vl.length cv) vl) (hl:bV 4 je σ (.slice p l.length c) l) (hF:∀t∈l,lH t) (hd:d+f=13) (xu:0≤d) (hL:l.length≤10000) {x} {l':List Tk} (ho:dA (bH vl e f) e l=.ok (x,l')):
 ah Tryz.prog 212 #[ptr b,i64 d] σ [aw b [.slice p l.length c,i64 e,.slice pv vl.length cv] 213] (aA fun v aj al=>∃q m p' c',v=.slice q x.length m∧bV 12 dF aj (.slice q x.length m) x∧bV 4 je aj (.slice p' l'.length c') l'∧σ.sub aj∧al=[aw b [.slice p' l'.length c',i64 e,.slice pv vl.length cv] 213]):=by
 refine(h σ b p c pv cv l d hv hl hF hd xu hL).mono fun en aj al hr=>?_
 cases en with
 |returned v=>
  obtain⟨x',SZ,h1,h2⟩:=hr;rw[ho] at h1;cases h1;exact h2
 |panicked ch=>obtain⟨x',h1,-⟩:=hr;rw[ho] at h1;cases h1
 |outgrown=>exact False.elim hr
theorem tk.bad {vl:List Va} {e:Int} {f:Nat} (h:tk vl e f) {σ:PH} {b:Nat} {p:Option Addr} {c:Nat} {pv:Option Addr} {cv:Nat} {l:List Tk} {d:Int} (hv:bV 2 sB σ (.slice pv vl.length cv) vl) (hl:bV 4 je σ (.slice p l.length c) l) (hF:∀t∈l,lH t) (hd:d+f=13) (xu:0≤d) (hL:l.length≤10000) {x:Int×Int} (ho:dA (bH vl e f) e l=.error x):
 ah Tryz.prog 212 #[ptr b,i64 d] σ [aw b [.slice p l.length c,i64 e,.slice pv vl.length cv] 213] (na fun ch aj al=>ch=j4 x∧σ.sub aj∧∃cs,al=[aw b cs 213]):=by
 refine(h σ b p c pv cv l d hv hl hF hd xu hL).mono fun en aj al hr=>?_
 cases en with
 |returned v=>obtain⟨x',SZ,h1,-⟩:=hr;rw[ho] at h1;cases h1
 |panicked ch=>
  obtain⟨x',h1,h2⟩:=hr;rw[ho] at h1;cases h1;exact h2
 |outgrown=>exact False.elim hr
theorem S2 (vl:List Va) (e:Int) (f:Nat) (ih:qG vl e f):tk vl e f:=by
 intro σ b p c pv cv l d hv hl hF hd xu hL;obtain⟨R,hR⟩:∃R,dA (bH vl e f) e l=R:=⟨_,rfl⟩;have jE:=hR;rw[dA] at hR;refine cw Tryz.func212 ?_;refine bJ ?_
 cases hq:ku lr l with
 |false=>
  rw[ag (by rw[hq];exact Bool.noConfusion)] at hR;refine az.die rfl (fU σ b p c e _ l lr hl hq) rfl ?_;rintro _ _ _ ⟨rfl,rfl,rfl⟩;refine DA.cl ?_;refine fL ?_;exact ao.panic zE ⟨_,jE.trans hR.symm,rfl,.refl _,_,rfl⟩
 |true=>
  obtain⟨t1,l1,rfl⟩:=dv hq;rw[aq hq,List.tail_cons] at hR;(have kN:l1.length≤10000:=by simp only[bF] at hL;omega);(have FI:∀t∈l1,lH t:=fun t ht=>hF t (by simp[ht]));refine zw rfl (ax.cE (iq σ b p c e _ t1 l1 lr hl hq) rfl) ?_;rintro _ _ _ ⟨_,⟨rfl,p1,c1,BA,rfl,rfl⟩,rfl⟩;(refine az.cl ?_;refine bt ?_;refine XA.gen [(0,_),(1,_),(4,_),(5,_)] iX fun δ=>?_);dsimp only[List.foldl];refine XA.loop [(5,5),(8,16)] (fun q:(Nat×Nat)×(Option Addr×Nat)=>[(5,.slice q.2.1 q.1.1 q.2.2)]) (fun q aj al=>σ.sub aj∧∃(lc:List Tk) (acc:List St) (pp:Option Addr) (pc:Nat) (rows:List (List Value)),R=iF (bH vl e f) (lc.length+1) lc acc∧(∀t∈lc,lH t)∧lc.length=q.1.2∧acc.length=q.1.1∧q.1.1+q.1.2≤10000∧bV 4 je aj (.slice pp lc.length pc) lc∧cN 12 dF aj rows acc∧al=[aS 140 12 (.slice q.2.1 q.1.1 q.2.2) q.1.1 rows.flatten,aw b [.slice pp lc.length pc,i64 e,.slice pv vl.length cv] 213]) (fun q=>q.1.2) ((0,l1.length),(none,0)) eb (Δ0:=_) ?_ (⟨.refl _,l1,[],p1,c1,[],hR.symm,FI,rfl,rfl,by simpa using kN,BA,cN.nil _ _ _,rfl⟩) ?_
  ·exact zE
  rintro⟨⟨i,n⟩,⟨pl,cl⟩⟩ δ cO _ ⟨bz,lc,acc,pp,pc,rows,Ot,y4,hn,dr,j3,rh,ep,rfl⟩;dsimp only[dq,List.foldl];simp only at hn dr j3;subst hn;have mK:=hv.mono bz (fun _ _ h=>h);rw[iF] at Ot
  cases ri:ku eD lc with
  |true=>
   obtain⟨t4,l4,rfl⟩:=dv ri;rw[aq ri,List.tail_cons] at Ot;subst dr;refine bY ?_;refine zw rfl (ax.cE (Bx cO b pp pc e _ t4 l4 eD rh ri) rfl) ?_;rintro _ _ _ ⟨_,⟨rfl,p5,c5,Ky,rfl,rfl⟩,rfl⟩;refine az.cl ?_;refine dC ?_;refine DA.mX (R:=aS 140 12 _ _ _) zL cm aH ?_;rintro fZ ⟨⟩ hf cQ;exact bC rfl rfl ⟨acc,l4,jE.trans Ot,pl,cl,p5,c5,rfl,(ep.mono (fun _ _ h=>h.mono cQ)).Cx rfl hf,Ky.mono cQ (fun _ _ h=>h),bz.trans cQ,rfl⟩
  |false=>
   rw[ag (by rw[ri];exact Bool.noConfusion)] at Ot;refine bY ?_;refine yC (Dq cO b pp pc e _ lc eD rh ri) ?_;refine cp ?_
   cases hx:bH vl e f lc with
   |error x=>
    rw[hx] at Ot;simp only at Ot;refine az.die rfl (ih.bad mK rh y4 hd xu ad hx) rfl ?_;rintro _ cL _ ⟨rfl,bT,wh,rfl⟩;refine DA.cl ?_;refine fL ?_;exact ao.panic zE ⟨_,jE.trans Ot,rfl,bz.trans bT,_,rfl⟩
   |ok y=>
    obtain⟨x,l'⟩:=y;rw[hx] at Ot;simp only at Ot;have o6:=eI f _ _ _ hx
    have hRn:R=iF (bH vl e f) (l'.length+1) l' (acc++[x]):=by
     rw[Ot];exact xI (fun l x l' h=>(eI f l x l' h).2) _ _ _ _ o6.2 ad
    have aV:=o6.2;refine zw rfl (ax.cE (ih.ok mK rh y4 hd xu ad hx) rfl) ?_;rintro _ cL _ ⟨_,⟨wh,p',c',rfl,ju,ux,bT,rfl⟩,rfl⟩;refine az.cl ?_;have rV:=ju.len;have tg:=ju.dT;refine zw rfl (ax.jY (ae rfl) rfl (ae rfl)) ?_;rintro _ _ _ ⟨g15,rfl,rfl,rfl⟩;refine zw rfl (ax.kM (ae rfl) rfl (ae rfl) rfl rfl rfl) ?_;rintro _ _ _ ⟨p16,c16,rfl,rfl,rfl⟩;refine bY ?_;have eR:cN 12 dF cL (rows++[wh]) (acc++[x]):=(ep.mono (fun _ _ h=>h.mono bT)).snoc rV ju;refine⟨bQ,((i+1,l'.length),(p16,c16)),_,zM,?_,⟨bz.trans bT,l',acc++[x],p',c',rows++[wh],hRn,(fun t ht=>y4 t (o6.1.1 t ht)),rfl,(by rw[bq,dr];rfl),(by show i+1+l'.length≤10000;omega),ux,eR,rfl⟩,(by show l'.length<lc.length;omega)⟩
    ·rw[k6];exact zE
theorem FJ (vl:List Va) (e:Int):∀f:Nat,qG vl e f
 |0=>by
  intro σ b p c pv cv l d hv hl hF hd xu hL;(have hd:d=13:=by simpa using hd);subst hd;refine cw Tryz.func180 ?_;refine aU ?_;refine di (fun g4=>?_) (ae rfl);refine a8 ?_;refine az.die rfl (Dr σ b p c e _ 13 l hl au) rfl ?_;rintro _ _ _ ⟨rfl,rfl,rfl⟩;refine DA.cl ?_;refine fL ?_;exact ao.panic zE ⟨_,rfl,rfl,.refl _,_,rfl⟩
 |f+1=>by
  intro σ b p c pv cv l d hv hl hF hd xu hL;have CC:=S2 vl e f (FJ vl e f);(have Cy:d≤12:=by omega);obtain⟨R,hR⟩:∃R,bH vl e (f+1) l=R:=⟨_,rfl⟩;have jE:=hR;rw[bH] at hR;refine cw Tryz.func180 ?_;refine aU ?_;refine di (fun g4=>?_) (ae rfl);refine a8 ?_;refine yC (Hu σ b d _ Cy) ?_;refine dc ?_
  cases hq:ku lr l with
  |false=>
   rw[ag (by rw[hq];exact Bool.noConfusion)] at hR;refine az.die rfl (fU σ b p c e _ l lr hl hq) rfl ?_;rintro _ _ _ ⟨rfl,rfl,rfl⟩;refine DA.cl ?_;refine fL ?_;exact ao.panic zE ⟨_,jE.trans hR.symm,rfl,.refl _,_,rfl⟩
  |true=>
   obtain⟨t1,l1,rfl⟩:=dv hq;rw[aq hq,List.tail_cons] at hR;refine zw rfl (ax.cE (iq σ b p c e _ t1 l1 lr hl hq) rfl) ?_;rintro _ _ _ ⟨_,⟨rfl,p1,c1,BA,rfl,rfl⟩,rfl⟩;refine az.cl ?_;refine dc ?_
   cases hk:iC eH 7 l1 with
   |none=>
    rw[hk] at hR;refine az.die rfl (Dt σ b p1 c1 e _ 208 eH Lz 7 au l1 BA (fun j a b=>rU 7 1 hk j a ad)) rfl ?_;rintro _ _ _ ⟨rfl,rfl,rfl⟩;refine DA.cl ?_;refine fL ?_;exact ao.panic zE ⟨_,jE.trans hR.symm,rfl,.refl _,_,rfl⟩
   |some k=>
    rw[hk] at hR;simp only at hR;obtain⟨k1,k2,k3,k4⟩:=lY 7 1 hk;(have k2:k≤7:=by omega);obtain⟨t2,l2,rfl⟩:=dv k3;rw[List.tail_cons] at hR;(have ng:∀t∈l2,lH t:=fun t ht=>hF t (by simp[ht]));(have rW:l2.length≤10000:=by simp only[bF] at hL;omega);refine zw rfl (ax.cE (Hw σ b p1 c1 e _ 208 eH Lz 7 k au t2 l2 BA k1 k2 k3 k4) rfl) ?_;rintro _ _ _ ⟨_,⟨rfl,p2,c2,nh,rfl,rfl⟩,rfl⟩;refine az.cl ?_;refine bS ?_;refine di (fun g5=>?_) (ae rfl);refine bg ?_;(have hk7:k=1∨k=2∨k=3∨k=4∨k=5∨k=6∨k=7:=by omega);rcases hk7 with tl|tl|tl|tl|tl|tl|tl
    ·skip;subst tl;refine yC (jt σ ((1:Nat):Int)) ?_;refine iA ?_;rw[cA,aq au] at hR;refine cx ?_
     cases E7:gk vl e l2 with
     |error x=>
      rw[E7] at hR;simp only[aT] at hR;rcases lZ E7 with ⟨rfl,hx⟩|⟨t3,l3,rfl,rfl,hx,hy⟩
      ·skip;refine az.die rfl (jJ σ b p2 c2 e _ pv vl.length cv l2 nh (fun t ht=>(ng t ht).1) hx) rfl ?_;rintro _ _ _ ⟨rfl,rfl,rfl⟩;refine DA.cl ?_;refine fL ?_;exact ao.panic zE ⟨_,jE.trans hR.symm,rfl,.refl _,_,rfl⟩
      ·skip;refine az.die rfl (jk σ b p2 c2 e vl pv cv t3 l3 hv nh (ng t3 aZ).1 hx hy) rfl ?_;rintro _ _ _ ⟨rfl,rfl,rfl⟩;refine DA.cl ?_;refine fL ?_;exact ao.panic zE ⟨_,jE.trans hR.symm,rfl,.refl _,_,rfl⟩
     |ok y=>
      obtain⟨v3,lv⟩:=y;rw[E7] at hR;simp only[aT] at hR;obtain⟨t3,i3,rfl,rfl,h3,h4⟩:=oD E7;(have Rl:∀t∈lv,lH t:=fun t ht=>ng t (by simp[ht]));(have Zk:lv.length≤10000:=by simp only[bF] at rW;omega);have Jn:=oB _ _ _ h4;have Hf:=hv.jK;refine zw rfl (ax.cE (kD σ b p2 c2 e vl pv cv i3 t3 lv hv nh (ng t3 aZ).1 h3 h4) rfl) ?_;rintro _ _ _ ⟨_,⟨rfl,Zl,Zm,Rm,rfl,rfl⟩,rfl⟩;refine az.cl ?_;refine aR ?_;rw[cA,aq au] at hR;refine dc ?_
      cases jB:bL vl e f lv with
      |error x=>
       rw[jB] at hR;simp only[aT] at hR;refine az.die rfl ((ka vl e f).bad hv Rm Rl ad ad jB) rfl ?_;rintro _ FK _ ⟨rfl,mG,cse,rfl⟩;refine DA.cl ?_;refine fL ?_;exact ao.panic zE ⟨_,jE.trans hR.symm,rfl,mG,_,rfl⟩
      |ok y=>
       obtain⟨xe,le⟩:=y;rw[jB] at hR;simp only[aT] at hR;have tm:=fm f _ _ _ jB;(have Jo:∀t∈le,lH t:=fun t ht=>Rl t (tm.1 t ht));have LF:le.length≤10000:=Nat.le_trans tm.2 Zk;refine zw rfl (ax.cE ((ka vl e f).ok hv Rm Rl ad ad jB) rfl) ?_;rintro _ FK _ ⟨_,⟨cse,Rn,Ro,rfl,sF,hle,mG,rfl⟩,rfl⟩;refine az.cl ?_;obtain⟨Pt,Pu,rfl,-,-,-,-⟩:=sF.inv;refine aR ?_;rw[cA,ag au] at hR;simp only[aT] at hR;refine bt ?_;rw[cA,ag au] at hR;simp only[aT] at hR;refine bt ?_;rw[cA,ag au] at hR;simp only[aT] at hR;refine a8 ?_;rw[cT] at hR
       cases hc:ku eD le with
       |false=>
        rw[ag (by rw[hc];exact Bool.noConfusion)] at hR;refine az.die rfl (fU FK b Rn Ro e _ le eD hle hc) rfl ?_;rintro _ _ _ ⟨rfl,rfl,rfl⟩;refine DA.cl ?_;refine fL ?_;exact ao.panic zE ⟨_,jE.trans hR.symm,rfl,mG,_,rfl⟩
       |true=>
        obtain⟨t4,l8,rfl⟩:=dv hc;rw[aq hc,List.tail_cons] at hR;refine zw rfl (ax.cE (iq FK b Rn Ro e _ t4 l8 eD hle hc) rfl) ?_;rintro _ _ _ ⟨_,⟨rfl,p8,c8,E8,rfl,rfl⟩,rfl⟩;refine az.cl ?_;refine bt ?_;have gG:dF FK [i64 ((1:Nat):Int),i64 (i3:Int),i64 xe.op,i64 xe.v,i64 xe.n,.slice Pt xe.l.length Pu,i64 0,i64 0,i64 0,.slice none 0 0,.slice none 0 0,.slice none 0 0] (.mk ((1:Nat):Int) (i3:Int) xe eU [] []):=dF.of ⟨au,au⟩ ⟨ad,ad⟩ sF (jl _) (bV.nil _ _ _) (bV.nil _ _ _);exact ao.ret (aB.cell rfl rfl (Ld.bn (ae rfl) rfl zL rfl cK cJ)) zE ⟨_,l8,jE.trans hR.symm,_,p8,c8,rfl,gG,E8,mG,rfl⟩
    ·skip;subst tl;refine yC (jt σ ((2:Nat):Int)) ?_;refine iA ?_;rw[cA,aq au] at hR;refine cx ?_
     cases E7:gk vl e l2 with
     |error x=>
      rw[E7] at hR;simp only[aT] at hR;rcases lZ E7 with ⟨rfl,hx⟩|⟨t3,l3,rfl,rfl,hx,hy⟩
      ·skip;refine az.die rfl (jJ σ b p2 c2 e _ pv vl.length cv l2 nh (fun t ht=>(ng t ht).1) hx) rfl ?_;rintro _ _ _ ⟨rfl,rfl,rfl⟩;refine DA.cl ?_;refine fL ?_;exact ao.panic zE ⟨_,jE.trans hR.symm,rfl,.refl _,_,rfl⟩
      ·skip;refine az.die rfl (jk σ b p2 c2 e vl pv cv t3 l3 hv nh (ng t3 aZ).1 hx hy) rfl ?_;rintro _ _ _ ⟨rfl,rfl,rfl⟩;refine DA.cl ?_;refine fL ?_;exact ao.panic zE ⟨_,jE.trans hR.symm,rfl,.refl _,_,rfl⟩
     |ok y=>
      obtain⟨v3,lv⟩:=y;rw[E7] at hR;simp only[aT] at hR;obtain⟨t3,i3,rfl,rfl,h3,h4⟩:=oD E7;(have Rl:∀t∈lv,lH t:=fun t ht=>ng t (by simp[ht]));(have Zk:lv.length≤10000:=by simp only[bF] at rW;omega);have Jn:=oB _ _ _ h4;have Hf:=hv.jK;refine zw rfl (ax.cE (kD σ b p2 c2 e vl pv cv i3 t3 lv hv nh (ng t3 aZ).1 h3 h4) rfl) ?_;rintro _ _ _ ⟨_,⟨rfl,Zl,Zm,Rm,rfl,rfl⟩,rfl⟩;refine az.cl ?_;refine aR ?_;rw[cA,aq au] at hR;refine dc ?_
      cases jB:bL vl e f lv with
      |error x=>
       rw[jB] at hR;simp only[aT] at hR;refine az.die rfl ((ka vl e f).bad hv Rm Rl ad ad jB) rfl ?_;rintro _ FK _ ⟨rfl,mG,cse,rfl⟩;refine DA.cl ?_;refine fL ?_;exact ao.panic zE ⟨_,jE.trans hR.symm,rfl,mG,_,rfl⟩
      |ok y=>
       obtain⟨xe,le⟩:=y;rw[jB] at hR;simp only[aT] at hR;have tm:=fm f _ _ _ jB;(have Jo:∀t∈le,lH t:=fun t ht=>Rl t (tm.1 t ht));have LF:le.length≤10000:=Nat.le_trans tm.2 Zk;refine zw rfl (ax.cE ((ka vl e f).ok hv Rm Rl ad ad jB) rfl) ?_;rintro _ FK _ ⟨_,⟨cse,Rn,Ro,rfl,sF,hle,mG,rfl⟩,rfl⟩;refine az.cl ?_;obtain⟨Pt,Pu,rfl,-,-,-,-⟩:=sF.inv;refine aR ?_;rw[cA,aq au] at hR;refine dc ?_
       cases y0:bL vl e f le with
       |error x=>
        rw[y0] at hR;simp only[aT] at hR;refine az.die rfl ((ka vl e f).bad (hv.mono (mG) (fun _ _ h=>h)) hle Jo ad ad y0) rfl ?_;rintro _ Zn _ ⟨rfl,Rp,csf,rfl⟩;refine DA.cl ?_;refine fL ?_;exact ao.panic zE ⟨_,jE.trans hR.symm,rfl,(mG).trans Rp,_,rfl⟩
       |ok y=>
        obtain⟨xf,lf⟩:=y;rw[y0] at hR;simp only[aT] at hR;have Xf:=fm f _ _ _ y0;(have hFf:∀t∈lf,lH t:=fun t ht=>Jo t (Xf.1 t ht));have hLf:lf.length≤10000:=Nat.le_trans Xf.2 LF;refine zw rfl (ax.cE ((ka vl e f).ok (hv.mono (mG) (fun _ _ h=>h)) hle Jo ad ad y0) rfl) ?_;rintro _ Zn _ ⟨_,⟨csf,pf1,cf1,rfl,hcf,wC,Rp,rfl⟩,rfl⟩;refine az.cl ?_;obtain⟨xqf,xdf,rfl,-,-,-,-⟩:=hcf.inv;refine aR ?_;rw[cA,ag au] at hR;simp only[aT] at hR;refine bt ?_;rw[cA,ag au] at hR;simp only[aT] at hR;refine a8 ?_;rw[cT] at hR
        cases hc:ku eD lf with
        |false=>
         rw[ag (by rw[hc];exact Bool.noConfusion)] at hR;refine az.die rfl (fU Zn b pf1 cf1 e _ lf eD wC hc) rfl ?_;rintro _ _ _ ⟨rfl,rfl,rfl⟩;refine DA.cl ?_;refine fL ?_;exact ao.panic zE ⟨_,jE.trans hR.symm,rfl,mG.trans Rp,_,rfl⟩
        |true=>
         obtain⟨t4,l8,rfl⟩:=dv hc;rw[aq hc,List.tail_cons] at hR;refine zw rfl (ax.cE (iq Zn b pf1 cf1 e _ t4 l8 eD wC hc) rfl) ?_;rintro _ _ _ ⟨_,⟨rfl,p8,c8,E8,rfl,rfl⟩,rfl⟩;refine az.cl ?_;refine bt ?_;have gG:dF Zn [i64 ((2:Nat):Int),i64 (i3:Int),i64 xe.op,i64 xe.v,i64 xe.n,.slice Pt xe.l.length Pu,i64 xf.op,i64 xf.v,i64 xf.n,.slice xqf xf.l.length xdf,.slice none 0 0,.slice none 0 0] (.mk ((2:Nat):Int) (i3:Int) xe xf [] []):=dF.of ⟨au,au⟩ ⟨ad,ad⟩ (sF.mono (Rp)) hcf (bV.nil _ _ _) (bV.nil _ _ _);exact ao.ret (aB.cell rfl rfl (Ld.bn (ae rfl) rfl zL rfl cK cJ)) zE ⟨_,l8,jE.trans hR.symm,_,p8,c8,rfl,gG,E8,mG.trans Rp,rfl⟩
    ·skip;subst tl;refine yC (jt σ ((3:Nat):Int)) ?_;refine iA ?_;rw[cA,ag au] at hR;simp only[aT] at hR;refine bt ?_;rw[cA,aq au] at hR;refine dc ?_
     cases jB:bL vl e f l2 with
     |error x=>
      rw[jB] at hR;simp only[aT] at hR;refine az.die rfl ((ka vl e f).bad hv nh ng ad ad jB) rfl ?_;rintro _ FK _ ⟨rfl,mG,cse,rfl⟩;refine DA.cl ?_;refine fL ?_;exact ao.panic zE ⟨_,jE.trans hR.symm,rfl,mG,_,rfl⟩
     |ok y=>
      obtain⟨xe,le⟩:=y;rw[jB] at hR;simp only[aT] at hR;have tm:=fm f _ _ _ jB;(have Jo:∀t∈le,lH t:=fun t ht=>ng t (tm.1 t ht));have LF:le.length≤10000:=Nat.le_trans tm.2 rW;refine zw rfl (ax.cE ((ka vl e f).ok hv nh ng ad ad jB) rfl) ?_;rintro _ FK _ ⟨_,⟨cse,Rn,Ro,rfl,sF,hle,mG,rfl⟩,rfl⟩;refine az.cl ?_;obtain⟨Pt,Pu,rfl,-,-,-,-⟩:=sF.inv;refine aR ?_;rw[cA,ag au] at hR;simp only[aT] at hR;refine bt ?_;rw[cA,ag au] at hR;simp only[aT] at hR;refine bt ?_;rw[cA,ag au] at hR;simp only[aT] at hR;refine a8 ?_;rw[cT] at hR
      cases hc:ku eD le with
      |false=>
       rw[ag (by rw[hc];exact Bool.noConfusion)] at hR;refine az.die rfl (fU FK b Rn Ro e _ le eD hle hc) rfl ?_;rintro _ _ _ ⟨rfl,rfl,rfl⟩;refine DA.cl ?_;refine fL ?_;exact ao.panic zE ⟨_,jE.trans hR.symm,rfl,mG,_,rfl⟩
      |true=>
       obtain⟨t4,l8,rfl⟩:=dv hc;rw[aq hc,List.tail_cons] at hR;refine zw rfl (ax.cE (iq FK b Rn Ro e _ t4 l8 eD hle hc) rfl) ?_;rintro _ _ _ ⟨_,⟨rfl,p8,c8,E8,rfl,rfl⟩,rfl⟩;refine az.cl ?_;refine bt ?_;have gG:dF FK [i64 ((3:Nat):Int),i64 0,i64 xe.op,i64 xe.v,i64 xe.n,.slice Pt xe.l.length Pu,i64 0,i64 0,i64 0,.slice none 0 0,.slice none 0 0,.slice none 0 0] (.mk ((3:Nat):Int) 0 xe eU [] []):=dF.of ⟨au,au⟩ ⟨au,au⟩ sF (jl _) (bV.nil _ _ _) (bV.nil _ _ _);exact ao.ret (aB.cell rfl rfl (Ld.bn (ae rfl) rfl zL rfl cK cJ)) zE ⟨_,l8,jE.trans hR.symm,_,p8,c8,rfl,gG,E8,mG,rfl⟩
    ·skip;subst tl;refine yC (jt σ ((4:Nat):Int)) ?_;refine iA ?_;rw[cA,aq au] at hR;refine cx ?_
     cases E7:gk vl e l2 with
     |error x=>
      rw[E7] at hR;simp only[aT] at hR;rcases lZ E7 with ⟨rfl,hx⟩|⟨t3,l3,rfl,rfl,hx,hy⟩
      ·skip;refine az.die rfl (jJ σ b p2 c2 e _ pv vl.length cv l2 nh (fun t ht=>(ng t ht).1) hx) rfl ?_;rintro _ _ _ ⟨rfl,rfl,rfl⟩;refine DA.cl ?_;refine fL ?_;exact ao.panic zE ⟨_,jE.trans hR.symm,rfl,.refl _,_,rfl⟩
      ·skip;refine az.die rfl (jk σ b p2 c2 e vl pv cv t3 l3 hv nh (ng t3 aZ).1 hx hy) rfl ?_;rintro _ _ _ ⟨rfl,rfl,rfl⟩;refine DA.cl ?_;refine fL ?_;exact ao.panic zE ⟨_,jE.trans hR.symm,rfl,.refl _,_,rfl⟩
     |ok y=>
      obtain⟨v3,lv⟩:=y;rw[E7] at hR;simp only[aT] at hR;obtain⟨t3,i3,rfl,rfl,h3,h4⟩:=oD E7;(have Rl:∀t∈lv,lH t:=fun t ht=>ng t (by simp[ht]));(have Zk:lv.length≤10000:=by simp only[bF] at rW;omega);have Jn:=oB _ _ _ h4;have Hf:=hv.jK;refine zw rfl (ax.cE (kD σ b p2 c2 e vl pv cv i3 t3 lv hv nh (ng t3 aZ).1 h3 h4) rfl) ?_;rintro _ _ _ ⟨_,⟨rfl,Zl,Zm,Rm,rfl,rfl⟩,rfl⟩;refine az.cl ?_;refine aR ?_;rw[cA,ag au] at hR;simp only[aT] at hR;refine bt ?_;rw[cA,ag au] at hR;simp only[aT] at hR;refine bt ?_;rw[cA,ag au] at hR;simp only[aT] at hR;refine bt ?_;rw[cA,ag au] at hR;simp only[aT] at hR;refine a8 ?_;rw[cT] at hR
      cases hc:ku eD lv with
      |false=>
       rw[ag (by rw[hc];exact Bool.noConfusion)] at hR;refine az.die rfl (fU σ b Zl Zm e _ lv eD Rm hc) rfl ?_;rintro _ _ _ ⟨rfl,rfl,rfl⟩;refine DA.cl ?_;refine fL ?_;exact ao.panic zE ⟨_,jE.trans hR.symm,rfl,.refl _,_,rfl⟩
      |true=>
       obtain⟨t4,l8,rfl⟩:=dv hc;rw[aq hc,List.tail_cons] at hR;refine zw rfl (ax.cE (iq σ b Zl Zm e _ t4 l8 eD Rm hc) rfl) ?_;rintro _ _ _ ⟨_,⟨rfl,p8,c8,E8,rfl,rfl⟩,rfl⟩;refine az.cl ?_;refine bt ?_;have gG:dF σ [i64 ((4:Nat):Int),i64 (i3:Int),i64 0,i64 0,i64 0,.slice none 0 0,i64 0,i64 0,i64 0,.slice none 0 0,.slice none 0 0,.slice none 0 0] (.mk ((4:Nat):Int) (i3:Int) eU eU [] []):=dF.of ⟨au,au⟩ ⟨ad,ad⟩ (jl _) (jl _) (bV.nil _ _ _) (bV.nil _ _ _);exact ao.ret (aB.cell rfl rfl (Ld.bn (ae rfl) rfl zL rfl cK cJ)) zE ⟨_,l8,jE.trans hR.symm,_,p8,c8,rfl,gG,E8,.refl _,rfl⟩
    ·skip;subst tl;refine yC (jt σ ((5:Nat):Int)) ?_;refine iA ?_;rw[cA,ag au] at hR;simp only[aT] at hR;refine bt ?_;rw[cA,aq au] at hR;refine dc ?_
     cases jB:bL vl e f l2 with
     |error x=>
      rw[jB] at hR;simp only[aT] at hR;refine az.die rfl ((ka vl e f).bad hv nh ng ad ad jB) rfl ?_;rintro _ FK _ ⟨rfl,mG,cse,rfl⟩;refine DA.cl ?_;refine fL ?_;exact ao.panic zE ⟨_,jE.trans hR.symm,rfl,mG,_,rfl⟩
     |ok y=>
      obtain⟨xe,le⟩:=y;rw[jB] at hR;simp only[aT] at hR;have tm:=fm f _ _ _ jB;(have Jo:∀t∈le,lH t:=fun t ht=>ng t (tm.1 t ht));have LF:le.length≤10000:=Nat.le_trans tm.2 rW;refine zw rfl (ax.cE ((ka vl e f).ok hv nh ng ad ad jB) rfl) ?_;rintro _ FK _ ⟨_,⟨cse,Rn,Ro,rfl,sF,hle,mG,rfl⟩,rfl⟩;refine az.cl ?_;obtain⟨Pt,Pu,rfl,-,-,-,-⟩:=sF.inv;refine aR ?_;rw[cA,ag au] at hR;simp only[aT] at hR;refine bt ?_;rw[cA,aq au] at hR;refine dc ?_
      cases sY:dA (bH vl e f) e le with
      |error x=>
       rw[sY] at hR;simp only[aT] at hR;refine az.die rfl (CC.bad (hv.mono (mG) (fun _ _ h=>h)) hle Jo ad ad LF sY) rfl ?_;rintro _ Vq _ ⟨rfl,o6,csb,rfl⟩;refine DA.cl ?_;refine fL ?_;exact ao.panic zE ⟨_,jE.trans hR.symm,rfl,(mG).trans o6,_,rfl⟩
      |ok y=>
       obtain⟨xb,lb⟩:=y;rw[sY] at hR;simp only[aT] at hR;have LG:=lI (fun l x l' h=>(eI f l x l' h).1) sY;(have Zo:∀t∈lb,lH t:=fun t ht=>Jo t (LG.1 t ht));have Zp:lb.length≤10000:=Nat.le_trans LG.2 LF;refine zw rfl (ax.cE (CC.ok (hv.mono (mG) (fun _ _ h=>h)) hle Jo ad ad LF sY) rfl) ?_;rintro _ Vq _ ⟨_,⟨qb,mb,pb1,cb1,rfl,Xg,LH,o6,rfl⟩,rfl⟩;refine az.cl ?_;refine aR ?_;rw[cA,ag au] at hR;simp only[aT] at hR;refine a8 ?_;rw[cT] at hR
       cases hc:ku eD lb with
       |false=>
        rw[ag (by rw[hc];exact Bool.noConfusion)] at hR;refine az.die rfl (fU Vq b pb1 cb1 e _ lb eD LH hc) rfl ?_;rintro _ _ _ ⟨rfl,rfl,rfl⟩;refine DA.cl ?_;refine fL ?_;exact ao.panic zE ⟨_,jE.trans hR.symm,rfl,mG.trans o6,_,rfl⟩
       |true=>
        obtain⟨t4,l8,rfl⟩:=dv hc;rw[aq hc,List.tail_cons] at hR;refine zw rfl (ax.cE (iq Vq b pb1 cb1 e _ t4 l8 eD LH hc) rfl) ?_;rintro _ _ _ ⟨_,⟨rfl,p8,c8,E8,rfl,rfl⟩,rfl⟩;refine az.cl ?_;refine bt ?_;have gG:dF Vq [i64 ((5:Nat):Int),i64 0,i64 xe.op,i64 xe.v,i64 xe.n,.slice Pt xe.l.length Pu,i64 0,i64 0,i64 0,.slice none 0 0,.slice qb xb.length mb,.slice none 0 0] (.mk ((5:Nat):Int) 0 xe eU xb []):=dF.of ⟨au,au⟩ ⟨au,au⟩ (sF.mono (o6)) (jl _) Xg (bV.nil _ _ _);exact ao.ret (aB.cell rfl rfl (Ld.bn (ae rfl) rfl zL rfl cK cJ)) zE ⟨_,l8,jE.trans hR.symm,_,p8,c8,rfl,gG,E8,mG.trans o6,rfl⟩
    ·skip;subst tl;refine yC (jt σ ((6:Nat):Int)) ?_;refine iA ?_;rw[cA,ag au] at hR;simp only[aT] at hR;refine bt ?_;rw[cA,aq au] at hR;refine dc ?_
     cases jB:bL vl e f l2 with
     |error x=>
      rw[jB] at hR;simp only[aT] at hR;refine az.die rfl ((ka vl e f).bad hv nh ng ad ad jB) rfl ?_;rintro _ FK _ ⟨rfl,mG,cse,rfl⟩;refine DA.cl ?_;refine fL ?_;exact ao.panic zE ⟨_,jE.trans hR.symm,rfl,mG,_,rfl⟩
     |ok y=>
      obtain⟨xe,le⟩:=y;rw[jB] at hR;simp only[aT] at hR;have tm:=fm f _ _ _ jB;(have Jo:∀t∈le,lH t:=fun t ht=>ng t (tm.1 t ht));have LF:le.length≤10000:=Nat.le_trans tm.2 rW;refine zw rfl (ax.cE ((ka vl e f).ok hv nh ng ad ad jB) rfl) ?_;rintro _ FK _ ⟨_,⟨cse,Rn,Ro,rfl,sF,hle,mG,rfl⟩,rfl⟩;refine az.cl ?_;obtain⟨Pt,Pu,rfl,-,-,-,-⟩:=sF.inv;refine aR ?_;rw[cA,ag au] at hR;simp only[aT] at hR;refine bt ?_;rw[cA,aq au] at hR;refine dc ?_
      cases sY:dA (bH vl e f) e le with
      |error x=>
       rw[sY] at hR;simp only[aT] at hR;refine az.die rfl (CC.bad (hv.mono (mG) (fun _ _ h=>h)) hle Jo ad ad LF sY) rfl ?_;rintro _ Vq _ ⟨rfl,o6,csb,rfl⟩;refine DA.cl ?_;refine fL ?_;exact ao.panic zE ⟨_,jE.trans hR.symm,rfl,(mG).trans o6,_,rfl⟩
      |ok y=>
       obtain⟨xb,lb⟩:=y;rw[sY] at hR;simp only[aT] at hR;have LG:=lI (fun l x l' h=>(eI f l x l' h).1) sY;(have Zo:∀t∈lb,lH t:=fun t ht=>Jo t (LG.1 t ht));have Zp:lb.length≤10000:=Nat.le_trans LG.2 LF;refine zw rfl (ax.cE (CC.ok (hv.mono (mG) (fun _ _ h=>h)) hle Jo ad ad LF sY) rfl) ?_;rintro _ Vq _ ⟨_,⟨qb,mb,pb1,cb1,rfl,Xg,LH,o6,rfl⟩,rfl⟩;refine az.cl ?_;refine aR ?_;rw[cA,aq au] at hR;refine dc ?_
       cases Xh:dA (bH vl e f) e lb with
       |error x=>
        rw[Xh] at hR;simp only[aT] at hR;refine az.die rfl (CC.bad (hv.mono (mG.trans o6) (fun _ _ h=>h)) LH Zo ad ad Zp Xh) rfl ?_;rintro _ Zq _ ⟨rfl,S3,cso,rfl⟩;refine DA.cl ?_;refine fL ?_;exact ao.panic zE ⟨_,jE.trans hR.symm,rfl,(mG.trans o6).trans S3,_,rfl⟩
       |ok y=>
        obtain⟨xo,lo⟩:=y;rw[Xh] at hR;simp only[aT] at hR;have Xi:=lI (fun l x l' h=>(eI f l x l' h).1) Xh;(have hFo:∀t∈lo,lH t:=fun t ht=>Zo t (Xi.1 t ht));have hLo:lo.length≤10000:=Nat.le_trans Xi.2 Zp;refine zw rfl (ax.cE (CC.ok (hv.mono (mG.trans o6) (fun _ _ h=>h)) LH Zo ad ad Zp Xh) rfl) ?_;rintro _ Zq _ ⟨_,⟨qo,mo,po1,co1,rfl,hco,zp,S3,rfl⟩,rfl⟩;refine az.cl ?_;refine bg ?_;rw[cT] at hR
        cases hc:ku eD lo with
        |false=>
         rw[ag (by rw[hc];exact Bool.noConfusion)] at hR;refine az.die rfl (fU Zq b po1 co1 e _ lo eD zp hc) rfl ?_;rintro _ _ _ ⟨rfl,rfl,rfl⟩;refine DA.cl ?_;refine fL ?_;exact ao.panic zE ⟨_,jE.trans hR.symm,rfl,mG.trans (o6.trans S3),_,rfl⟩
        |true=>
         obtain⟨t4,l8,rfl⟩:=dv hc;rw[aq hc,List.tail_cons] at hR;refine zw rfl (ax.cE (iq Zq b po1 co1 e _ t4 l8 eD zp hc) rfl) ?_;rintro _ _ _ ⟨_,⟨rfl,p8,c8,E8,rfl,rfl⟩,rfl⟩;refine az.cl ?_;refine bt ?_;have gG:dF Zq [i64 ((6:Nat):Int),i64 0,i64 xe.op,i64 xe.v,i64 xe.n,.slice Pt xe.l.length Pu,i64 0,i64 0,i64 0,.slice none 0 0,.slice qb xb.length mb,.slice qo xo.length mo] (.mk ((6:Nat):Int) 0 xe eU xb xo):=dF.of ⟨au,au⟩ ⟨au,au⟩ (sF.mono (o6.trans S3)) (jl _) (Xg.mono (S3) (fun _ _ h=>h.mono (S3))) hco;exact ao.ret (aB.cell rfl rfl (Ld.bn (ae rfl) rfl zL rfl cK cJ)) zE ⟨_,l8,jE.trans hR.symm,_,p8,c8,rfl,gG,E8,mG.trans (o6.trans S3),rfl⟩
    ·skip;subst tl;refine yC (jt σ ((7:Nat):Int)) ?_;refine iA ?_;rw[cA,ag au] at hR;simp only[aT] at hR;refine bt ?_;rw[cA,ag au] at hR;simp only[aT] at hR;refine bt ?_;rw[cA,ag au] at hR;simp only[aT] at hR;refine bt ?_;rw[cA,ag au] at hR;simp only[aT] at hR;refine bt ?_;rw[cA,ag au] at hR;simp only[aT] at hR;refine a8 ?_;rw[cT] at hR
     cases hc:ku eD l2 with
     |false=>
      rw[ag (by rw[hc];exact Bool.noConfusion)] at hR;refine az.die rfl (fU σ b p2 c2 e _ l2 eD nh hc) rfl ?_;rintro _ _ _ ⟨rfl,rfl,rfl⟩;refine DA.cl ?_;refine fL ?_;exact ao.panic zE ⟨_,jE.trans hR.symm,rfl,.refl _,_,rfl⟩
     |true=>
      obtain⟨t4,l8,rfl⟩:=dv hc;rw[aq hc,List.tail_cons] at hR;refine zw rfl (ax.cE (iq σ b p2 c2 e _ t4 l8 eD nh hc) rfl) ?_;rintro _ _ _ ⟨_,⟨rfl,p8,c8,E8,rfl,rfl⟩,rfl⟩;refine az.cl ?_;refine bt ?_;have gG:dF σ [i64 ((7:Nat):Int),i64 0,i64 0,i64 0,i64 0,.slice none 0 0,i64 0,i64 0,i64 0,.slice none 0 0,.slice none 0 0,.slice none 0 0] (.mk ((7:Nat):Int) 0 eU eU [] []):=dF.of ⟨au,au⟩ ⟨au,au⟩ (jl _) (jl _) (bV.nil _ _ _) (bV.nil _ _ _);exact ao.ret (aB.cell rfl rfl (Ld.bn (ae rfl) rfl zL rfl cK cJ)) zE ⟨_,l8,jE.trans hR.symm,_,p8,c8,rfl,gG,E8,.refl _,rfl⟩
end Go.Proofs.YtgeoiflbjcehcaaGreatDoor
namespace Go.Proofs.YtgeoiflbjcehcaaGreatDoor
open Go X
set_option maxRecDepth 4000
abbrev tp:ByteArray:=⟨#[108,101,116]⟩
def dY (e:Int) (l:List Tk):PR ByteArray:=match l with
 |t::r=>if dW t.text=true then .ok (t.text,r) else .error (bD e l 5)
 |[]=>.error (bD e l 5)
def rX (n:Int):Int:=if n<1∨48<n then 0 else n
def iZ (e:Int):Nat→List Tk→List Va→PR (List Va)
 |0,_,_=>.error (0,0)
 |g+1,l,acc=>if ku tp l=true then aT (dY e l.tail) fun s l1=>aT (gM e l1) fun n l2=>iZ e g l2 (acc++[⟨s,rX n⟩]) else .ok (acc,l)
def ja (S:List Tk→PR St):Nat→List Tk→List St→PR (List St)
 |0,_,_=>.error (0,0)
 |g+1,l,acc=>if l.length=0 then .ok (acc,l) else match S l with
  |.error x=>.error x
  |.ok (s,l1)=>ja S g l1 (acc++[s])
def jb (e:Int) (l:List Tk):PR Pr:=aT (iZ e (l.length+1) l []) fun vl l1=>aT (ja (bH vl e 13) (l1.length+1) l1 []) fun b l2=>.ok (⟨vl,b⟩,l2)
theorem uN {e:Int} {l:List Tk} {x:Int×Int} (h:dY e l=.error x):x=bD e l 5∧∀t r,l=t::r→dW t.text=false:=by
 cases l with
 |nil=>cases h;exact⟨rfl,fun t r q=>by cases q⟩
 |cons t r=>
  rw[dY] at h;split at h
  ·cases h
  ·rename_i hn;cases h;exact⟨rfl,fun t' r' q=>by cases q;simpa using hn⟩
theorem kE {e:Int} {l l':List Tk} {s:ByteArray} (h:dY e l=.ok (s,l')):∃t,l=t::l'∧dW t.text=true∧t.text=s:=by
 cases l with
 |nil=>cases h
 |cons t r=>
  rw[dY] at h;split at h
  ·rename_i hn;cases h;exact⟨t,rfl,hn,rfl⟩
  ·cases h
theorem xJ {e:Int}:∀(g g':Nat) (l:List Tk) (acc:List Va),l.length<g→l.length<g'→iZ e g l acc=iZ e g' l acc
 |0,g',l,acc,h,h'=>by omega
 |g+1,0,l,acc,h,h'=>by omega
 |g+1,g'+1,l,acc,h,h'=>by
  rw[iZ,iZ];split
  ·rename_i hq;obtain⟨t,r,rfl⟩:=dv hq;rw[List.tail_cons]
   cases q:dY e r with
   |error x=>rfl
   |ok y=>
    obtain⟨s,l1⟩:=y;obtain⟨t1,rfl,-,-⟩:=kE q;simp only[aT]
    cases q2:gM e l1 with
    |error x=>rfl
    |ok y=>
     obtain⟨n,l2⟩:=y;obtain⟨t2,rfl,-,-⟩:=oC q2;simp only[bF] at h h';exact xJ g g' l2 _ ad ad
  ·rfl
theorem xK {S:List Tk→PR St} (hS:∀l x l',S l=.ok (x,l')→l'.length<l.length):∀(g g':Nat) (l:List Tk) (acc:List St),l.length<g→l.length<g'→ja S g l acc=ja S g' l acc
 |0,g',l,acc,h,h'=>by omega
 |g+1,0,l,acc,h,h'=>by omega
 |g+1,g'+1,l,acc,h,h'=>by
  rw[ja,ja];split
  ·rfl
  ·cases q:S l with
   |error x=>rfl
   |ok y=>
    obtain⟨x,l1⟩:=y;have:=hS l x l1 q;exact xK hS g g' l1 _ ad ad
theorem Jp (σ:PH) (b:Nat) (p:Option Addr) (c:Nat) (e:Int) (l:List Tk) (hl:bV 4 je σ (.slice p l.length c) l) (hF:∀t∈l,lH t) (hL:l.length≤10000):
 ah Tryz.prog 145 #[ptr b] σ [aw b [.slice p l.length c,i64 e,.slice none 0 0] 213] (Ps
  (fun v aj al=>∃pr l',jb e l=.ok (pr,l')∧∃cs,v=.agg (List.toArray cs)∧gT aj cs pr∧σ.sub aj∧∃cb,al=[aw b cb 213])
  (fun ch aj al=>∃x,jb e l=.error x∧ch=j4 x∧σ.sub aj∧∃cs,al=[aw b cs 213])):=by
 obtain⟨R,hR⟩:∃R,jb e l=R:=⟨_,rfl⟩;have jE:=hR;rw[jb] at hR;obtain⟨S,hS⟩:∃S,iZ e (l.length+1) l []=S:=⟨_,rfl⟩;rw[hS] at hR;refine cM Tryz.func145 ?_;refine aU ?_;refine di (fun g2=>?_) (ae rfl);(refine bY ?_;refine XA.gen [(0,_),(2,_)] iX fun δ=>?_);dsimp only[List.foldl];refine XA.loop [(0,0),(3,4),(6,30)] (fun q:(Nat×Nat)×(Option Addr×Nat)=>[(0,ptr b)]) (fun q aj al=>σ=aj∧∃(lc:List Tk) (acc:List Va) (pp:Option Addr) (pc:Nat) (rows:List (List Value)),S=iZ e (lc.length+1) lc acc∧(∀t∈lc,lH t)∧lc.length=q.1.2∧acc.length=q.1.1∧q.1.1+q.1.2≤10000∧bV 4 je aj (.slice pp lc.length pc) lc∧cN 2 sB aj rows acc∧al=[aS 134 2 (.slice q.2.1 q.1.1 q.2.2) q.1.1 rows.flatten,aw b [.slice pp lc.length pc,i64 e,.slice q.2.1 q.1.1 q.2.2] 213,aw g2 OV.zero 69]) (fun q=>q.1.2) ((0,l.length),(none,0)) eb (Δ0:=_) ?_ (⟨rfl,l,[],p,c,[],hS.symm,hF,rfl,rfl,by simpa using hL,hl,cN.nil _ _ _,rfl⟩) ?_
 ·exact zE
 rintro⟨⟨i,n⟩,⟨pl,cl⟩⟩ δ _ _ ⟨rfl,lc,acc,pp,pc,rows,Dv,y4,hn,dr,j3,rh,ep,rfl⟩;dsimp only[dq,List.foldl];simp only at hn dr j3;subst hn;rw[iZ] at Dv
 cases hq:ku tp lc with
 |true=>
  obtain⟨t1,l1,rfl⟩:=dv hq;rw[aq hq,List.tail_cons] at Dv;(have FI:∀t∈l1,lH t:=fun t ht=>y4 t (by simp[ht]));refine bY ?_;refine zw rfl (ax.cE (Bx σ b pp pc e _ t1 l1 tp rh hq) rfl) ?_;rintro _ _ _ ⟨_,⟨rfl,p1,c1,BA,rfl,rfl⟩,rfl⟩;refine az.cl ?_;refine bt ?_
  cases Bu:dY e l1 with
  |error x=>
   rw[Bu] at Dv;simp only[aT] at Dv;rw[Dv] at hR;simp only[aT] at hR;obtain⟨rfl,hx⟩:=uN Bu;refine az.die rfl (Ds σ b p1 c1 e _ l1 BA (fun t ht=>(FI t ht).1) hx) rfl ?_;rintro _ _ _ ⟨rfl,rfl,rfl⟩;refine DA.cl ?_;refine fL ?_;exact ao.panic zE ⟨_,jE.trans hR.symm,rfl,.refl _,_,rfl⟩
  |ok y=>
   obtain⟨s,l2⟩:=y;rw[Bu] at Dv;simp only[aT] at Dv;obtain⟨t2,rfl,h2,rfl⟩:=kE Bu;(have ng:∀t∈l2,lH t:=fun t ht=>FI t (by simp[ht]));refine zw rfl (ax.cE (Bz σ b p1 c1 e _ t2 l2 BA (FI t2 aZ).1 h2) rfl) ?_;rintro _ _ _ ⟨_,⟨rfl,p2,c2,nh,rfl,rfl⟩,rfl⟩;refine az.cl ?_;refine bS ?_;refine di (fun g3=>?_) (ae rfl);refine a8 ?_
   cases S4:gM e l2 with
   |error x=>
    rw[S4] at Dv;simp only at Dv;rw[Dv] at hR;simp only[aT] at hR;obtain⟨rfl,hx⟩:=tf S4;refine az.die rfl (Hv σ b p2 c2 e _ l2 nh hx) rfl ?_;rintro _ _ _ ⟨rfl,rfl,rfl⟩;refine DA.cl ?_;refine fL ?_;exact ao.panic zE ⟨_,jE.trans hR.symm,rfl,.refl _,_,rfl⟩
   |ok y=>
    obtain⟨n3,l3⟩:=y;rw[S4] at Dv;simp only at Dv;obtain⟨t3,rfl,h3,rfl⟩:=oC S4;(have LD:∀t∈l3,lH t:=fun t ht=>ng t (by simp[ht]));have hN3:=(ng t3 aZ).2;have n8:=(FI t2 aZ).1;simp only[bF] at j3
    have Vr:S=iZ e (l3.length+1) l3 (acc++[⟨t2.text,rX t3.n⟩]):=by
     rw[Dv];exact xJ _ _ _ _ (by simp only[bF];omega) ad
    by_cases h1:t3.n<1
    ·skip;(have xL:rX t3.n=0:=by rw[rX];rw[aq (.inl h1)]);rw[xL] at Vr;refine zw rfl (ax.cE (By σ b p2 c2 e _ t3 l3 nh h3) rfl) ?_;rintro _ _ _ ⟨_,⟨rfl,p3,c3,Kx,rfl,rfl⟩,rfl⟩;refine az.cl ?_;refine eA ?_;refine XA.aY rfl (by first|rfl|exact aM h1) ?_;refine cp ?_;refine et 11 124254 [7,10] (ar.bB (R:=aw b _ _) zL (ar.bB (R:=aw g3 _ _) zL (ar.nil _))) ?_;refine a8 ?_;refine aP.fw rfl rfl Gd.free (ax.jY (ae rfl) rfl (ae rfl)) ?_;rintro _ _ _ ⟨g27,rfl,rfl,rfl⟩;refine stays ?_;refine aP.b7 rfl rfl Gd.free aC (ax.kM (ae rfl) rfl (ae rfl) rfl rfl rfl) ?_;rintro _ _ _ ⟨Xj,c28,rfl,rfl,rfl⟩;refine aU ?_;refine kS rfl (ax.st (ae rfl) rfl) ?_;refine cx ?_;have eR:cN 2 sB σ (rows++[[.string t2.text,i64 0]]) (acc++[⟨t2.text,0⟩]):=ep.snoc rfl ⟨rfl,(show aG 0 from ⟨au,au⟩),n8⟩;refine⟨bQ,((i+1,l3.length),(Xj,c28)),_,zM,?_,⟨rfl,l3,acc++[⟨t2.text,0⟩],p3,c3,rows++[[.string t2.text,i64 0]],Vr,LD,rfl,(by rw[bq,dr];rfl),(by show i+1+l3.length≤10000;omega),Kx,eR,rfl⟩,(by show l3.length<(t1::t2::t3::l3).length;simp only[bF];omega)⟩
     ·rw[k6];exact zE
    by_cases y5:t3.n>48
    ·skip;(have xL:rX t3.n=0:=by rw[rX];rw[aq (.inr y5)]);rw[xL] at Vr;refine zw rfl (ax.cE (By σ b p2 c2 e _ t3 l3 nh h3) rfl) ?_;rintro _ _ _ ⟨_,⟨rfl,p3,c3,Kx,rfl,rfl⟩,rfl⟩;refine az.cl ?_;refine eA ?_;refine XA.aY rfl (by first|rfl|exact aM y5) ?_;refine cp ?_;refine et 11 124254 [7,10] (ar.bB (R:=aw b _ _) zL (ar.bB (R:=aw g3 _ _) zL (ar.nil _))) ?_;refine a8 ?_;refine aP.fw rfl rfl Gd.free (ax.jY (ae rfl) rfl (ae rfl)) ?_;rintro _ _ _ ⟨g27,rfl,rfl,rfl⟩;refine stays ?_;refine aP.b7 rfl rfl Gd.free aC (ax.kM (ae rfl) rfl (ae rfl) rfl rfl rfl) ?_;rintro _ _ _ ⟨Xj,c28,rfl,rfl,rfl⟩;refine aU ?_;refine kS rfl (ax.st (ae rfl) rfl) ?_;refine cx ?_;have eR:cN 2 sB σ (rows++[[.string t2.text,i64 0]]) (acc++[⟨t2.text,0⟩]):=ep.snoc rfl ⟨rfl,(show aG 0 from ⟨au,au⟩),n8⟩;refine⟨bQ,((i+1,l3.length),(Xj,c28)),_,zM,?_,⟨rfl,l3,acc++[⟨t2.text,0⟩],p3,c3,rows++[[.string t2.text,i64 0]],Vr,LD,rfl,(by rw[bq,dr];rfl),(by show i+1+l3.length≤10000;omega),Kx,eR,rfl⟩,(by show l3.length<(t1::t2::t3::l3).length;simp only[bF];omega)⟩
     ·rw[k6];exact zE
    (have xL:rX t3.n=t3.n:=by rw[rX];rw[ag ad]);rw[xL] at Vr;refine zw rfl (ax.cE (By σ b p2 c2 e _ t3 l3 nh h3) rfl) ?_;rintro _ _ _ ⟨_,⟨rfl,p3,c3,Kx,rfl,rfl⟩,rfl⟩;refine az.cl ?_;refine eA ?_;refine XA.aI rfl (by first|rfl|exact aE y5) ?_;refine bt ?_;refine et 11 124254 [7,10] (ar.bB (R:=aw b _ _) zL (ar.bB (R:=aw g3 _ _) zL (ar.nil _))) ?_;refine a8 ?_;refine aP.fw rfl rfl Gd.free (ax.jY (ae rfl) rfl (ae rfl)) ?_;rintro _ _ _ ⟨g27,rfl,rfl,rfl⟩;refine stays ?_;refine aP.b7 rfl rfl Gd.free aC (ax.kM (ae rfl) rfl (ae rfl) rfl rfl rfl) ?_;rintro _ _ _ ⟨Xj,c28,rfl,rfl,rfl⟩;refine aU ?_;refine kS rfl (ax.st (ae rfl) rfl) ?_;refine cx ?_;have eR:cN 2 sB σ (rows++[[.string t2.text,i64 t3.n]]) (acc++[⟨t2.text,t3.n⟩]):=ep.snoc rfl ⟨rfl,hN3,n8⟩;refine⟨bQ,((i+1,l3.length),(Xj,c28)),_,zM,?_,⟨rfl,l3,acc++[⟨t2.text,t3.n⟩],p3,c3,rows++[[.string t2.text,i64 t3.n]],Vr,LD,rfl,(by rw[bq,dr];rfl),(by show i+1+l3.length≤10000;omega),Kx,eR,rfl⟩,(by show l3.length<(t1::t2::t3::l3).length;simp only[bF];omega)⟩
    ·rw[k6];exact zE
 |false=>
  rw[ag (by rw[hq];exact Bool.noConfusion)] at Dv;rw[Dv] at hR;simp only[aT] at hR;subst dr;refine bY ?_;refine yC (Dq σ b pp pc e _ lc tp rh hq) ?_;refine aR ?_;refine di (fun g5=>?_) (ae rfl);refine dc ?_;refine az.mX (R:=aS 134 2 _ _ _) zL cm aH ?_;rintro cO ⟨⟩ hf bz;have mK:bV 2 sB cO (.slice pl acc.length cl) acc:=(ep.mono (aj:=cO) (fun _ _ h=>h)).Cx rfl hf;obtain⟨U,hU⟩:∃U,ja (bH acc e 13) (lc.length+1) lc []=U:=⟨_,rfl⟩;rw[hU] at hR;(refine bt ?_;refine XA.gen [(0,_),(2,_),(5,_)] iX fun δ=>?_);dsimp only[List.foldl];refine XA.loop [(0,0),(36,48)] (fun i:Nat×Nat=>[(0,ptr b)]) (fun i aj al=>cO.sub aj∧∃(ld:List Tk) (An:List St) (pp:Option Addr) (pc:Nat) (pb:Option Addr) (cb:Nat) (rows:List (List Value)),U=ja (bH acc e 13) (ld.length+1) ld An∧(∀t∈ld,lH t)∧ld.length=i.2∧An.length=i.1∧i.1+i.2≤10000∧bV 4 je aj (.slice pp ld.length pc) ld∧cN 12 dF aj rows An∧al=[aS 140 12 (.slice pb i.1 cb) i.1 rows.flatten,aw g5 [.slice pl acc.length cl,.slice pb i.1 cb] 69,aw b [.slice pp ld.length pc,i64 e,.slice pl acc.length cl] 213,aw g2 OV.zero 69]) (fun i=>i.2) (0,lc.length) eb (Δ0:=_) ?_ (⟨.refl _,lc,[],pp,pc,none,0,[],hU.symm,y4,rfl,rfl,by show 0+lc.length≤10000;omega,rh.mono bz (fun _ _ h=>h),cN.nil _ _ _,rfl⟩) ?_
  ·exact zE
  rintro⟨i,n⟩ Dc cL _ ⟨bT,ld,An,pd,cd,pb,cb,vB,Ou,hFd,hn,FL,hid,y6,xM,rfl⟩;dsimp only[dq,List.foldl];simp only at hn FL hid;subst hn;have tq:=mK.mono bT (fun _ _ h=>h);rw[ja] at Ou;by_cases h0:ld.length=0
  ·rw[aq h0] at Ou;rw[Ou] at hR;simp only[aT] at hR;subst FL;refine cp ?_;refine ik ?_;refine bm ?_;refine DA.mX (R:=aS 140 12 _ _ _) zL cm aH ?_;rintro fZ ⟨⟩ sG cQ;exact ao.ret (aB.cell rfl rfl (Ld.bn (ae rfl) rfl zL rfl cK cJ)) zE ⟨_,_,jE.trans hR.symm,_,rfl,⟨_,_,rfl,tq.mono cQ (fun _ _ h=>h),(xM.mono (fun _ _ h=>h.mono cQ)).Cx rfl sG⟩,bz.trans (bT.trans cQ),_,rfl⟩
  ·rw[ag h0] at Ou
   cases hx:bH acc e 13 ld with
   |error x=>
    rw[hx] at Ou;simp only at Ou;rw[Ou] at hR;simp only[aT] at hR;refine cp ?_;refine iQ ?_;refine cx ?_;refine et 8 5079 [5,7] (ar.bB (R:=aw g5 _ _) zL (ar.nil _)) ?_;refine cx ?_;refine aP.die rfl rfl Gd.free ((FJ acc e 13).bad tq y6 hFd au au ad hx) rfl ?_;rintro _ fZ _ ⟨rfl,cQ,cs3,rfl⟩;refine DA.cl ?_;refine fL ?_;exact ao.panic zE ⟨_,jE.trans hR.symm,rfl,bz.trans (bT.trans cQ),_,rfl⟩
   |ok y=>
    obtain⟨x,l'⟩:=y;rw[hx] at Ou;simp only at Ou;have o6:=eI 13 _ _ _ hx;have aV:=o6.2
    have hUn:U=ja (bH acc e 13) (l'.length+1) l' (An++[x]):=by
     rw[Ou];exact xK (fun l x l' h=>(eI 13 l x l' h).2) _ _ _ _ aV ad
    refine cp ?_;refine iQ ?_;refine cx ?_;refine et 8 5079 [5,7] (ar.bB (R:=aw g5 _ _) zL (ar.nil _)) ?_;refine cx ?_;refine aP.fw rfl rfl Gd.free (ax.cE ((FJ acc e 13).ok tq y6 hFd au au ad hx) rfl) ?_;rintro _ fZ _ ⟨_,⟨cs3,p',c',rfl,S5,ux,cQ,rfl⟩,rfl⟩;refine stays (aP.cl ?_);have rV:=S5.len;have tg:=S5.dT;refine aP.fw rfl rfl Gd.free (ax.jY (ae rfl) rfl (ae rfl)) ?_;rintro _ _ _ ⟨g46,rfl,rfl,rfl⟩;refine stays ?_;refine aP.b7 rfl rfl Gd.free aC (ax.kM (ae rfl) rfl (ae rfl) rfl rfl rfl) ?_;rintro _ _ _ ⟨p47,c47,rfl,rfl,rfl⟩;refine bS ?_;refine kS rfl (ax.st (ae rfl) rfl) ?_;refine cx ?_;have eR:cN 12 dF fZ (vB++[cs3]) (An++[x]):=(xM.mono (fun _ _ h=>h.mono cQ)).snoc rV S5;refine⟨bQ,(i+1,l'.length),_,zM,?_,⟨bT.trans cQ,l',An++[x],p',c',p47,c47,vB++[cs3],hUn,(fun t ht=>hFd t (o6.1.1 t ht)),rfl,(by rw[bq,FL];rfl),(by show i+1+l'.length≤10000;omega),ux,eR,rfl⟩,(by show l'.length<ld.length;omega)⟩
    ·rw[k6];exact zE
end Go.Proofs.YtgeoiflbjcehcaaGreatDoor
