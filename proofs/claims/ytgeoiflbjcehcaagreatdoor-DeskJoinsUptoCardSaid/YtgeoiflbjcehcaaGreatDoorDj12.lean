import Derived.Test.YtgeoiflbjcehcaaGreatDoorDj11
set_option maxHeartbeats 4000000
set_option maxRecDepth 2000
set_option linter.unusedVariables false
set_option linter.unusedSimpArgs false
namespace Go.Proofs.YtgeoiflbjcehcaaGreatDoor
open Go X
def bf {α β:Type} (a:PR α) (k:α→List Tk→PR β):PR β:=match a with
 |.error x=>.error x
 |.ok (x,l)=>k x l
theorem di {α β:Type} {a:PR α} {k:α→List Tk→PR β} {y:β} {l':List Tk} (h:bf a k=.ok (y,l')):∃x l,a=.ok (x,l)∧k x l=.ok (y,l'):=by
 cases a with
 |error x=>cases h
 |ok z=>obtain⟨x,l⟩:=z;exact⟨x,l,rfl,h⟩
def ka:Ex:=.mk 0 0 0 []
def ij (S:List Tk→PR St):Nat→List Tk→List St→PR (List St)
 |0,_,_=>.error (0,0)
 |g+1,l,acc=>if lA eJ l=true then .ok (acc,l.tail) else match S l with
  |.error x=>.error x
  |.ok (s,l1)=>ij S g l1 (acc++[s])
def fM (S:List Tk→PR St) (e:Int) (l:List Tk):PR (List St):=if lA rD l=true then ij S (l.tail.length+1) l.tail [] else .error (bW e l 5)
def dj {α:Type} (b:Bool) (z:α) (a:List Tk→PR α) (l:List Tk):PR α:=if b=true then a l else .ok (z,l)
def cQ (vl:List Va) (e:Int):Nat→List Tk→PR St
 |0,l=>.error (bW e l 4)
 |f+1,l=>if lA rD l=true then match ia gm 7 l.tail with
  |none=>.error (bW e l.tail 5)
  |some k=>bf (dj (qQ k) 0 (j8 vl e) l.tail.tail) fun v l3=>bf (dj (dT k) ka (cm vl e f) l3) fun x l4=>bf (dj (j6 k) ka (cm vl e f) l4) fun y l5=>
   bf (dj (qR k) [] (fM (cQ vl e f) e) l5) fun bd l6=>bf (dj (qS k) [] (fM (cQ vl e f) e) l6) fun el l7=>dz e (.mk k v x y bd el) l7
  else .error (bW e l 5)
def Sub (l' l:List Tk):Prop:=(∀t∈l',t∈l)∧l'.length≤l.length
theorem Sub.refl (l:List Tk):Sub l l:=⟨fun _ h=>h,Nat.le_refl _⟩
theorem Sub.trans {a b c:List Tk} (h:Sub a b) (k:Sub b c):Sub a c:=⟨fun t ht=>k.1 t (h.1 t ht),Nat.le_trans h.2 k.2⟩
theorem Sub.tail (l:List Tk):Sub l.tail l:=⟨fun _ h=>oz h,by rw[List.length_tail];omega⟩
theorem xO {e:Int} {l l':List Tk} {n:Int} (h:kM e l=.ok (n,l')):Sub l' l:=by
 obtain⟨t,rfl,-,-⟩:=mr h;exact Sub.tail (t::l')
theorem oC {vl:List Va} {e:Int} {l l':List Tk} {n:Int} (h:j8 vl e l=.ok (n,l')):Sub l' l:=by
 obtain⟨t,i,rfl,-,-,-⟩:=mu h;exact Sub.tail (t::l')
theorem sE {α:Type} {e:Int} {x y:α} {l l':List Tk} (h:dz e x l=.ok (y,l')):Sub l' l:=by
 rw[dz] at h;split at h
 ·cases h;exact Sub.tail l
 ·cases h
theorem pS {vl:List Va} {e:Int} {k:Nat} {l l':List Tk} {vn:Int×Int} (h:gJ vl e k l=.ok (vn,l')):Sub l' l:=by
 rw[gJ] at h;split at h
 ·cases q:kM e l with
  |error x=>rw[q] at h;cases h
  |ok y=>obtain⟨n,r⟩:=y;rw[q] at h;cases h;exact xO q
 ·split at h
  ·cases q:j8 vl e l with
   |error x=>rw[q] at h;cases h
   |ok y=>obtain⟨n,r⟩:=y;rw[q] at h;cases h;exact oC q
  ·cases h;exact Sub.refl _
theorem pU {α:Type} {E:List Tk→PR α} (hE:∀l x l',E l=.ok (x,l')→Sub l' l):∀(m:Nat) (l:List Tk) (acc xs:List α) (l':List Tk),dh E m l acc=.ok (xs,l')→Sub l' l
 |0,l,acc,xs,l',h=>by cases h;exact Sub.refl _
 |m+1,l,acc,xs,l',h=>by
  rw[dh] at h
  cases q:E l with
  |error x=>rw[q] at h;cases h
  |ok y=>
   obtain⟨x,l1⟩:=y;rw[q] at h;exact(pU hE m l1 _ xs l' h).trans (hE l x l1 q)
theorem dv {vl:List Va} {e:Int}:∀(f:Nat) (l:List Tk) (x:Ex) (l':List Tk),cm vl e f l=.ok (x,l')→Sub l' l
 |0,l,x,l',h=>by cases h
 |f+1,l,x,l',h=>by
  rw[cm] at h;split at h
  ·cases hk:ia gQ 8 l.tail with
   |none=>rw[hk] at h;cases h
   |some k=>
    rw[hk] at h;simp only at h
    cases hh:gJ vl e k l.tail.tail with
    |error x=>rw[hh] at h;cases h
    |ok y=>
     obtain⟨vn,l3⟩:=y;rw[hh] at h;simp only at h
     cases hs:dh (cm vl e f) (partsOf k).toNat l3 [] with
     |error x=>rw[hs] at h;cases h
     |ok z=>
      obtain⟨xs,l4⟩:=z;rw[hs] at h;simp only at h;exact((sE h).trans (pU (dv f) _ _ _ _ _ hs)).trans ((pS hh).trans ((Sub.tail _).trans (Sub.tail _)))
  ·cases h
theorem uD {S:List Tk→PR St} (hS:∀l x l',S l=.ok (x,l')→Sub l' l):∀(g:Nat) (l:List Tk) (acc xs:List St) (l':List Tk),ij S g l acc=.ok (xs,l')→Sub l' l
 |0,l,acc,xs,l',h=>by cases h
 |g+1,l,acc,xs,l',h=>by
  rw[ij] at h;split at h
  ·cases h;exact Sub.tail _
  ·cases q:S l with
   |error x=>rw[q] at h;cases h
   |ok y=>
    obtain⟨x,l1⟩:=y;rw[q] at h;exact(uD hS g l1 _ xs l' h).trans (hS l x l1 q)
theorem iX {S:List Tk→PR St} {e:Int} (hS:∀l x l',S l=.ok (x,l')→Sub l' l) {l l':List Tk} {xs:List St} (h:fM S e l=.ok (xs,l')):Sub l' l:=by
 rw[fM] at h;split at h
 ·exact(uD hS _ _ _ _ _ h).trans (Sub.tail _)
 ·cases h
theorem fe {α:Type} {b:Bool} {z x:α} {a:List Tk→PR α} {l l':List Tk} (ha:∀l x l',a l=.ok (x,l')→Sub l' l) (h:dj b z a l=.ok (x,l')):Sub l' l:=by
 rw[dj] at h;split at h
 ·exact ha _ _ _ h
 ·cases h;exact Sub.refl _
theorem dR {vl:List Va} {e:Int}:∀(f:Nat) (l:List Tk) (x:St) (l':List Tk),cQ vl e f l=.ok (x,l')→Sub l' l∧l'.length<l.length
 |0,l,x,l',h=>by cases h
 |f+1,l,x,l',h=>by
  rw[cQ] at h;split at h
  ·rename_i hq;obtain⟨t,r,rfl⟩:=ca hq;rw[List.tail_cons] at h
   cases hk:ia gm 7 r with
   |none=>rw[hk] at h;cases h
   |some k=>
    rw[hk] at h;simp only at h;obtain⟨v,l3,h3,h⟩:=di h;obtain⟨x1,l4,h4,h⟩:=di h;obtain⟨x2,l5,h5,h⟩:=di h;obtain⟨x3,l6,h6,h⟩:=di h;obtain⟨x4,l7,h7,h⟩:=di h;(have hS:∀l x l',cQ vl e f l=.ok (x,l')→Sub l' l:=fun l x l' h=>(dR f l x l' h).1);have hr:Sub l' r:=(sE h).trans ((fe (fun _ _ _=>iX hS) h7).trans ((fe (fun _ _ _=>iX hS) h6).trans ((fe (dv f) h5).trans ((fe (dv f) h4).trans ((fe (fun _ _ _=>oC) h3).trans (Sub.tail _))))));exact⟨hr.trans (Sub.tail (t::r)),by have:=hr.2;simp only[List.length_cons];omega⟩
  ·cases h
theorem sF {S:List Tk→PR St} (hS:∀l x l',S l=.ok (x,l')→l'.length<l.length):∀(g g':Nat) (l:List Tk) (acc:List St),l.length<g→l.length<g'→ij S g l acc=ij S g' l acc
 |0,g',l,acc,h,h'=>by omega
 |g+1,0,l,acc,h,h'=>by omega
 |g+1,g'+1,l,acc,h,h'=>by
  rw[ij,ij];split
  ·rfl
  ·cases q:S l with
   |error x=>rfl
   |ok y=>
    obtain⟨x,l1⟩:=y;have:=hS l x l1 q;exact sF hS g g' l1 _ (by omega) (by omega)
theorem ik (σ:PH):dc σ [i64 0,i64 0,i64 0,.slice none 0 0] ka:=dc.of ⟨by decide,by decide⟩ ⟨by decide,by decide⟩ ⟨by decide,by decide⟩ (bO.nil _ _ _)
set_option maxRecDepth 4000
def mw (vl:List Va) (e:Int) (f:Nat):Prop:=∀(σ:PH) (b:Nat) (p:Option Addr) (c:Nat) (pv:Option Addr) (cv:Nat) (l:List Tk) (d:Int),bO 2 tU σ (.slice pv vl.length cv) vl→bO 4 iC σ (.slice p l.length c) l→(∀t∈l,kN t)→d+f=13→0≤d→l.length≤10000→
 ae Tryz.prog 180 #[ptr b,i64 d] σ [au b [.slice p l.length c,i64 e,.slice pv vl.length cv] 213] (KP
  (fun v ag ah=>∃x l',cQ vl e f l=.ok (x,l')∧∃cs p' c',v=.agg (List.toArray cs)∧cT ag cs x∧bO 4 iC ag (.slice p' l'.length c') l'∧σ.sub ag∧ah=[au b [.slice p' l'.length c',i64 e,.slice pv vl.length cv] 213])
  (fun ch ag ah=>∃x,cQ vl e f l=.error x∧ch=gI x∧σ.sub ag∧∃cs,ah=[au b cs 213]))
theorem mw.ok {vl:List Va} {e:Int} {f:Nat} (h:mw vl e f) {σ:PH} {b:Nat} {p:Option Addr} {c:Nat} {pv:Option Addr} {cv:Nat} {l:List Tk} {d:Int} (hv:bO 2 tU σ (.slice pv vl.length cv) vl) (hl:bO 4 iC σ (.slice p l.length c) l) (hF:∀t∈l,kN t) (hd:d+f=13) (tZ:0≤d) (hL:l.length≤10000) {x} {l':List Tk} (ho:cQ vl e f l=.ok (x,l')):
 ae Tryz.prog 180 #[ptr b,i64 d] σ [au b [.slice p l.length c,i64 e,.slice pv vl.length cv] 213] (aE fun v ag ah=>∃cs p' c',v=.agg (List.toArray cs)∧cT ag cs x∧bO 4 iC ag (.slice p' l'.length c') l'∧σ.sub ag∧ah=[au b [.slice p' l'.length c',i64 e,.slice pv vl.length cv] 213]):=by
 refine(h σ b p c pv cv l d hv hl hF hd tZ hL).mono fun en ag ah hr=>?_
 cases en with
 |returned v=>
  obtain⟨x',QJ,h1,h2⟩:=hr;rw[ho] at h1;cases h1;exact h2
 |panicked ch=>obtain⟨x',h1,-⟩:=hr;rw[ho] at h1;cases h1
 |outgrown=>exact False.elim hr
theorem mw.bad {vl:List Va} {e:Int} {f:Nat} (h:mw vl e f) {σ:PH} {b:Nat} {p:Option Addr} {c:Nat} {pv:Option Addr} {cv:Nat} {l:List Tk} {d:Int} (hv:bO 2 tU σ (.slice pv vl.length cv) vl) (hl:bO 4 iC σ (.slice p l.length c) l) (hF:∀t∈l,kN t) (hd:d+f=13) (tZ:0≤d) (hL:l.length≤10000) {x:Int×Int} (ho:cQ vl e f l=.error x):
 ae Tryz.prog 180 #[ptr b,i64 d] σ [au b [.slice p l.length c,i64 e,.slice pv vl.length cv] 213] (jP fun ch ag ah=>ch=gI x∧σ.sub ag∧∃cs,ah=[au b cs 213]):=by
 refine(h σ b p c pv cv l d hv hl hF hd tZ hL).mono fun en ag ah hr=>?_
 cases en with
 |returned v=>obtain⟨x',QJ,h1,-⟩:=hr;rw[ho] at h1;cases h1
 |panicked ch=>
  obtain⟨x',h1,h2⟩:=hr;rw[ho] at h1;cases h1;exact h2
 |outgrown=>exact False.elim hr
def oD (vl:List Va) (e:Int) (f:Nat):Prop:=∀(σ:PH) (b:Nat) (p:Option Addr) (c:Nat) (pv:Option Addr) (cv:Nat) (l:List Tk) (d:Int),bO 2 tU σ (.slice pv vl.length cv) vl→bO 4 iC σ (.slice p l.length c) l→(∀t∈l,kN t)→d+f=13→0≤d→l.length≤10000→
 ae Tryz.prog 212 #[ptr b,i64 d] σ [au b [.slice p l.length c,i64 e,.slice pv vl.length cv] 213] (KP
  (fun v ag ah=>∃x l',fM (cQ vl e f) e l=.ok (x,l')∧∃q m p' c',v=.slice q x.length m∧bO 12 cT ag (.slice q x.length m) x∧bO 4 iC ag (.slice p' l'.length c') l'∧σ.sub ag∧ah=[au b [.slice p' l'.length c',i64 e,.slice pv vl.length cv] 213])
  (fun ch ag ah=>∃x,fM (cQ vl e f) e l=.error x∧ch=gI x∧σ.sub ag∧∃cs,ah=[au b cs 213]))
theorem oD.ok {vl:List Va} {e:Int} {f:Nat} (h:oD vl e f) {σ:PH} {b:Nat} {p:Option Addr} {c:Nat} {pv:Option Addr} {cv:Nat} {l:List Tk} {d:Int} (hv:bO 2 tU σ (.slice pv vl.length cv) vl) (hl:bO 4 iC σ (.slice p l.length c) l) (hF:∀t∈l,kN t) (hd:d+f=13) (tZ:0≤d) (hL:l.length≤10000) {x} {l':List Tk} (ho:fM (cQ vl e f) e l=.ok (x,l')):
 ae Tryz.prog 212 #[ptr b,i64 d] σ [au b [.slice p l.length c,i64 e,.slice pv vl.length cv] 213] (aE fun v ag ah=>∃q m p' c',v=.slice q x.length m∧bO 12 cT ag (.slice q x.length m) x∧bO 4 iC ag (.slice p' l'.length c') l'∧σ.sub ag∧ah=[au b [.slice p' l'.length c',i64 e,.slice pv vl.length cv] 213]):=by
 refine(h σ b p c pv cv l d hv hl hF hd tZ hL).mono fun en ag ah hr=>?_
 cases en with
 |returned v=>
  obtain⟨x',QJ,h1,h2⟩:=hr;rw[ho] at h1;cases h1;exact h2
 |panicked ch=>obtain⟨x',h1,-⟩:=hr;rw[ho] at h1;cases h1
 |outgrown=>exact False.elim hr
theorem oD.bad {vl:List Va} {e:Int} {f:Nat} (h:oD vl e f) {σ:PH} {b:Nat} {p:Option Addr} {c:Nat} {pv:Option Addr} {cv:Nat} {l:List Tk} {d:Int} (hv:bO 2 tU σ (.slice pv vl.length cv) vl) (hl:bO 4 iC σ (.slice p l.length c) l) (hF:∀t∈l,kN t) (hd:d+f=13) (tZ:0≤d) (hL:l.length≤10000) {x:Int×Int} (ho:fM (cQ vl e f) e l=.error x):
 ae Tryz.prog 212 #[ptr b,i64 d] σ [au b [.slice p l.length c,i64 e,.slice pv vl.length cv] 213] (jP fun ch ag ah=>ch=gI x∧σ.sub ag∧∃cs,ah=[au b cs 213]):=by
 refine(h σ b p c pv cv l d hv hl hF hd tZ hL).mono fun en ag ah hr=>?_
 cases en with
 |returned v=>obtain⟨x',QJ,h1,-⟩:=hr;rw[ho] at h1;cases h1
 |panicked ch=>
  obtain⟨x',h1,h2⟩:=hr;rw[ho] at h1;cases h1;exact h2
 |outgrown=>exact False.elim hr
theorem QM (vl:List Va) (e:Int) (f:Nat) (ih:mw vl e f):oD vl e f:=by
 intro σ b p c pv cv l d hv hl hF hd tZ hL;obtain⟨R,hR⟩:∃R,fM (cQ vl e f) e l=R:=⟨_,rfl⟩;have fV:=hR;rw[fM] at hR;refine bS Tryz.func212 ?_;refine bC ?_
 cases hq:lA rD l with
 |false=>
  rw[if_neg (by rw[hq];exact Bool.noConfusion)] at hR;refine az.die rfl (dV σ b p c e _ l rD hl hq) rfl ?_;rintro _ _ _ ⟨rfl,rfl,rfl⟩;refine DA.cl ?_;(repeat (first|refine DA.ax ?_|refine DA.ay ?_));exact ao.panic zE ⟨_,fV.trans hR.symm,rfl,.refl _,_,rfl⟩
 |true=>
  obtain⟨t1,l1,rfl⟩:=ca hq;rw[if_pos hq,List.tail_cons] at hR;(have mK:l1.length≤10000:=by simp only[List.length_cons] at hL;omega);(have Ax:∀t∈l1,kN t:=fun t ht=>hF t (by simp[ht]));refine zw rfl (aC.cE (eT σ b p c e _ t1 l1 rD hl hq) rfl) ?_;rintro _ _ _ ⟨_,⟨rfl,p1,c1,zl,rfl,rfl⟩,rfl⟩;(refine az.cl ?_;refine a8 ?_;refine XA.gen [(0,_),(1,_),(4,_),(5,_)] jN fun δ=>?_);dsimp only[List.foldl];refine XA.loop [(5,5),(8,16)] (fun q:(Nat×Nat)×(Option Addr×Nat)=>[(5,.slice q.2.1 q.1.1 q.2.2)]) (fun q ag ah=>σ.sub ag∧∃(lc:List Tk) (acc:List St) (pp:Option Addr) (pc:Nat) (rows:List (List Value)),R=ij (cQ vl e f) (lc.length+1) lc acc∧(∀t∈lc,kN t)∧lc.length=q.1.2∧acc.length=q.1.1∧q.1.1+q.1.2≤10000∧bO 4 iC ag (.slice pp lc.length pc) lc∧cA 12 cT ag rows acc∧ah=[bn 140 12 (.slice q.2.1 q.1.1 q.2.2) q.1.1 rows.flatten,au b [.slice pp lc.length pc,i64 e,.slice pv vl.length cv] 213]) (fun q=>q.1.2) ((0,l1.length),(none,0)) (by exact⟨rfl,trivial⟩) (Δ0:=_) ?_ (⟨.refl _,l1,[],p1,c1,[],hR.symm,Ax,rfl,rfl,by simpa using mK,zl,cA.nil _ _ _,rfl⟩) ?_
  ·exact zE
  rintro⟨⟨i,n⟩,⟨pl,cl⟩⟩ δ dQ _ ⟨bQ,lc,acc,pp,pc,rows,H7,tL,hn,eR,kI,mR,eK,rfl⟩;dsimp only[eb,List.foldl];simp only at hn eR kI;subst hn;have nU:=hv.mono bQ (fun _ _ h=>h);rw[ij] at H7
  cases UM:lA eJ lc with
  |true=>
   obtain⟨t4,l4,rfl⟩:=ca UM;rw[if_pos UM,List.tail_cons] at H7;subst eR;refine bM ?_;refine zw rfl (aC.cE (vE dQ b pp pc e _ t4 l4 eJ mR UM) rfl) ?_;rintro _ _ _ ⟨_,⟨rfl,p5,c5,FP,rfl,rfl⟩,rfl⟩;refine az.cl ?_;refine bq ?_;refine eP ?_;refine DA.qM (R:=bn 140 12 _ _ _) zL dp aU ?_;rintro lB ⟨⟩ hf fc;exact b8 rfl rfl ⟨acc,l4,fV.trans H7,pl,cl,p5,c5,rfl,(eK.mono (fun _ _ h=>h.mono fc)).H4 rfl hf,FP.mono fc (fun _ _ h=>h),bQ.trans fc,rfl⟩
  |false=>
   rw[if_neg (by rw[UM];exact Bool.noConfusion)] at H7;refine bM ?_;refine yC (xK dQ b pp pc e _ lc eJ mR UM) ?_;refine bq ?_;refine bC ?_
   cases hx:cQ vl e f lc with
   |error x=>
    rw[hx] at H7;simp only at H7;refine az.die rfl (ih.bad nU mR tL hd tZ (by omega) hx) rfl ?_;rintro _ dq _ ⟨rfl,bT,vH,rfl⟩;refine DA.cl ?_;(repeat (first|refine DA.ax ?_|refine DA.ay ?_));exact ao.panic zE ⟨_,fV.trans H7,rfl,bQ.trans bT,_,rfl⟩
   |ok y=>
    obtain⟨x,l'⟩:=y;rw[hx] at H7;simp only at H7;have ml:=dR f _ _ _ hx
    have hRn:R=ij (cQ vl e f) (l'.length+1) l' (acc++[x]):=by
     rw[H7];exact sF (fun l x l' h=>(dR f l x l' h).2) _ _ _ _ ml.2 (by omega)
    have aT:=ml.2;refine zw rfl (aC.cE (ih.ok nU mR tL hd tZ (by omega) hx) rfl) ?_;rintro _ dq _ ⟨_,⟨vH,p',c',rfl,kR,pJ,bT,rfl⟩,rfl⟩;refine az.cl ?_;have sC:=kR.len;have sD:=kR.dn;refine zw rfl (aC.qO (ad rfl) rfl (ad rfl)) ?_;rintro _ _ _ ⟨g15,rfl,rfl,rfl⟩;refine zw rfl (aC.tS (ad rfl) rfl (ad rfl) rfl rfl rfl) ?_;rintro _ _ _ ⟨p16,c16,rfl,rfl,rfl⟩;refine bM ?_;have fI:cA 12 cT dq (rows++[vH]) (acc++[x]):=(eK.mono (fun _ _ h=>h.mono bT)).snoc sC kR;refine⟨cF,((i+1,l'.length),(p16,c16)),_,zM,?_,⟨bQ.trans bT,l',acc++[x],p',c',rows++[vH],hRn,(fun t ht=>tL t (ml.1.1 t ht)),rfl,(by rw[List.length_append,eR];rfl),(by show i+1+l'.length≤10000;omega),pJ,fI,rfl⟩,(by show l'.length<lc.length;omega)⟩
    ·rw[mP];exact zE
theorem Ay (vl:List Va) (e:Int):∀f:Nat,mw vl e f
 |0=>by
  intro σ b p c pv cv l d hv hl hF hd tZ hL;(have hd:d=13:=by simpa using hd);subst hd;refine bS Tryz.func180 ?_;refine aN ?_;refine cR (fun g4=>?_) (ad rfl);refine aO ?_;refine az.die rfl (xL σ b p c e _ 13 l hl (by decide)) rfl ?_;rintro _ _ _ ⟨rfl,rfl,rfl⟩;refine DA.cl ?_;(repeat (first|refine DA.ax ?_|refine DA.ay ?_));exact ao.panic zE ⟨_,rfl,rfl,.refl _,_,rfl⟩
 |f+1=>by
  intro σ b p c pv cv l d hv hl hF hd tZ hL;have wQ:=QM vl e f (Ay vl e f);(have Dt:d≤12:=by omega);obtain⟨R,hR⟩:∃R,cQ vl e (f+1) l=R:=⟨_,rfl⟩;have fV:=hR;rw[cQ] at hR;refine bS Tryz.func180 ?_;refine aN ?_;refine cR (fun g4=>?_) (ad rfl);refine aO ?_;refine yC (B1 σ b d _ Dt) ?_;refine b9 ?_
  cases hq:lA rD l with
  |false=>
   rw[if_neg (by rw[hq];exact Bool.noConfusion)] at hR;refine az.die rfl (dV σ b p c e _ l rD hl hq) rfl ?_;rintro _ _ _ ⟨rfl,rfl,rfl⟩;refine DA.cl ?_;(repeat (first|refine DA.ax ?_|refine DA.ay ?_));exact ao.panic zE ⟨_,fV.trans hR.symm,rfl,.refl _,_,rfl⟩
  |true=>
   obtain⟨t1,l1,rfl⟩:=ca hq;rw[if_pos hq,List.tail_cons] at hR;refine zw rfl (aC.cE (eT σ b p c e _ t1 l1 rD hl hq) rfl) ?_;rintro _ _ _ ⟨_,⟨rfl,p1,c1,zl,rfl,rfl⟩,rfl⟩;refine az.cl ?_;refine b9 ?_
   cases hk:ia gm 7 l1 with
   |none=>
    rw[hk] at hR;refine az.die rfl (xN σ b p1 c1 e _ 208 gm FJ 7 (by decide) l1 zl (fun j a b=>nt 7 1 hk j a (by omega))) rfl ?_;rintro _ _ _ ⟨rfl,rfl,rfl⟩;refine DA.cl ?_;(repeat (first|refine DA.ax ?_|refine DA.ay ?_));exact ao.panic zE ⟨_,fV.trans hR.symm,rfl,.refl _,_,rfl⟩
   |some k=>
    rw[hk] at hR;simp only at hR;obtain⟨k1,k2,k3,k4⟩:=kL 7 1 hk;(have k2:k≤7:=by omega);obtain⟨t2,l2,rfl⟩:=ca k3;rw[List.tail_cons] at hR;(have jQ:∀t∈l2,kN t:=fun t ht=>hF t (by simp[ht]));(have EV:l2.length≤10000:=by simp only[List.length_cons] at hL;omega);refine zw rfl (aC.cE (B6 σ b p1 c1 e _ 208 gm FJ 7 k (by decide) t2 l2 zl k1 k2 k3 k4) rfl) ?_;rintro _ _ _ ⟨_,⟨rfl,p2,c2,jy,rfl,rfl⟩,rfl⟩;refine az.cl ?_;refine b3 ?_;refine cR (fun g5=>?_) (ad rfl);refine bt ?_;(have hk7:k=1∨k=2∨k=3∨k=4∨k=5∨k=6∨k=7:=by omega);rcases hk7 with xP|xP|xP|xP|xP|xP|xP
    ·skip;subst xP;refine yC (fJ σ ((1:Nat):Int)) ?_;refine jM ?_;rw[dj,if_pos (by decide)] at hR;refine bq ?_
     cases B8:j8 vl e l2 with
     |error x=>
      rw[B8] at hR;simp only[bf] at hR;rcases jg B8 with ⟨rfl,hx⟩|⟨t3,l3,rfl,rfl,hx,hy⟩
      ·skip;refine az.die rfl (gq σ b p2 c2 e _ pv vl.length cv l2 jy (fun t ht=>(jQ t ht).1) hx) rfl ?_;rintro _ _ _ ⟨rfl,rfl,rfl⟩;refine DA.cl ?_;(repeat (first|refine DA.ax ?_|refine DA.ay ?_));exact ao.panic zE ⟨_,fV.trans hR.symm,rfl,.refl _,_,rfl⟩
      ·skip;refine az.die rfl (fD σ b p2 c2 e vl pv cv t3 l3 hv jy (jQ t3 (by simp)).1 hx hy) rfl ?_;rintro _ _ _ ⟨rfl,rfl,rfl⟩;refine DA.cl ?_;(repeat (first|refine DA.ax ?_|refine DA.ay ?_));exact ao.panic zE ⟨_,fV.trans hR.symm,rfl,.refl _,_,rfl⟩
     |ok y=>
      obtain⟨v3,lv⟩:=y;rw[B8] at hR;simp only[bf] at hR;obtain⟨t3,i3,rfl,rfl,h3,h4⟩:=mu B8;(have Oa:∀t∈lv,kN t:=fun t ht=>jQ t (by simp[ht]));(have Wp:lv.length≤10000:=by simp only[List.length_cons] at EV;omega);have Wo:=mq _ _ _ h4;have KC:=hv.sB;refine zw rfl (aC.cE (ig σ b p2 c2 e vl pv cv i3 t3 lv hv jy (jQ t3 (by simp)).1 h3 h4) rfl) ?_;rintro _ _ _ ⟨_,⟨rfl,Wq,Ws,Ob,rfl,rfl⟩,rfl⟩;refine az.cl ?_;refine aW ?_;rw[dj,if_pos (by decide)] at hR;refine b9 ?_
      cases iO:cm vl e f lv with
      |error x=>
       rw[iO] at hR;simp only[bf] at hR;refine az.die rfl ((gR vl e f).bad hv Ob Oa (by omega) (by omega) iO) rfl ?_;rintro _ Az _ ⟨rfl,jE,cse,rfl⟩;refine DA.cl ?_;(repeat (first|refine DA.ax ?_|refine DA.ay ?_));exact ao.panic zE ⟨_,fV.trans hR.symm,rfl,jE,_,rfl⟩
      |ok y=>
       obtain⟨xe,le⟩:=y;rw[iO] at hR;simp only[bf] at hR;have oE:=dv f _ _ _ iO;(have DC:∀t∈le,kN t:=fun t ht=>Oa t (oE.1 t ht));have FQ:le.length≤10000:=Nat.le_trans oE.2 Wp;refine zw rfl (aC.cE ((gR vl e f).ok hv Ob Oa (by omega) (by omega) iO) rfl) ?_;rintro _ Az _ ⟨_,⟨cse,Oc,Od,rfl,nV,hle,jE,rfl⟩,rfl⟩;refine az.cl ?_;obtain⟨KQ,KR,rfl,-,-,-,-⟩:=nV.inv;refine aW ?_;rw[dj,if_neg (by decide)] at hR;simp only[bf] at hR;refine a8 ?_;rw[dj,if_neg (by decide)] at hR;simp only[bf] at hR;refine a8 ?_;rw[dj,if_neg (by decide)] at hR;simp only[bf] at hR;refine aO ?_;rw[dz] at hR
       cases hc:lA eJ le with
       |false=>
        rw[if_neg (by rw[hc];exact Bool.noConfusion)] at hR;refine az.die rfl (dV Az b Oc Od e _ le eJ hle hc) rfl ?_;rintro _ _ _ ⟨rfl,rfl,rfl⟩;refine DA.cl ?_;(repeat (first|refine DA.ax ?_|refine DA.ay ?_));exact ao.panic zE ⟨_,fV.trans hR.symm,rfl,jE,_,rfl⟩
       |true=>
        obtain⟨t4,l8,rfl⟩:=ca hc;rw[if_pos hc,List.tail_cons] at hR;refine zw rfl (aC.cE (eT Az b Oc Od e _ t4 l8 eJ hle hc) rfl) ?_;rintro _ _ _ ⟨_,⟨rfl,p8,c8,zm,rfl,rfl⟩,rfl⟩;refine az.cl ?_;refine a8 ?_;have fS:cT Az [i64 ((1:Nat):Int),i64 (i3:Int),i64 xe.op,i64 xe.v,i64 xe.n,.slice KQ xe.l.length KR,i64 0,i64 0,i64 0,.slice none 0 0,.slice none 0 0,.slice none 0 0] (.mk ((1:Nat):Int) (i3:Int) xe ka [] []):=cT.of ⟨by decide,by decide⟩ ⟨by omega,by omega⟩ nV (ik _) (bO.nil _ _ _) (bO.nil _ _ _);exact ao.ret (aG.cell rfl rfl (Ld.bN (ad rfl) rfl zL rfl (by first|exact bJ (by first|rfl|assumption|(refine(aj _).trans ?_;assumption)|(simp[*];(first|done|fail)))|assumption|exact aI (by first|rfl|assumption|(refine(aj _).trans ?_;assumption)|(simp[*];(first|done|fail)))|(conv=>lhs;simp only[List.drop_succ_cons,List.drop_zero,List.take_succ_cons,List.take_zero])) (by first|rfl|assumption|(refine(aj _).trans ?_;assumption)|(simp[*];(first|done|fail))))) zE ⟨_,l8,fV.trans hR.symm,_,p8,c8,rfl,fS,zm,jE,rfl⟩
    ·skip;subst xP;refine yC (fJ σ ((2:Nat):Int)) ?_;refine jM ?_;rw[dj,if_pos (by decide)] at hR;refine bq ?_
     cases B8:j8 vl e l2 with
     |error x=>
      rw[B8] at hR;simp only[bf] at hR;rcases jg B8 with ⟨rfl,hx⟩|⟨t3,l3,rfl,rfl,hx,hy⟩
      ·skip;refine az.die rfl (gq σ b p2 c2 e _ pv vl.length cv l2 jy (fun t ht=>(jQ t ht).1) hx) rfl ?_;rintro _ _ _ ⟨rfl,rfl,rfl⟩;refine DA.cl ?_;(repeat (first|refine DA.ax ?_|refine DA.ay ?_));exact ao.panic zE ⟨_,fV.trans hR.symm,rfl,.refl _,_,rfl⟩
      ·skip;refine az.die rfl (fD σ b p2 c2 e vl pv cv t3 l3 hv jy (jQ t3 (by simp)).1 hx hy) rfl ?_;rintro _ _ _ ⟨rfl,rfl,rfl⟩;refine DA.cl ?_;(repeat (first|refine DA.ax ?_|refine DA.ay ?_));exact ao.panic zE ⟨_,fV.trans hR.symm,rfl,.refl _,_,rfl⟩
     |ok y=>
      obtain⟨v3,lv⟩:=y;rw[B8] at hR;simp only[bf] at hR;obtain⟨t3,i3,rfl,rfl,h3,h4⟩:=mu B8;(have Oa:∀t∈lv,kN t:=fun t ht=>jQ t (by simp[ht]));(have Wp:lv.length≤10000:=by simp only[List.length_cons] at EV;omega);have Wo:=mq _ _ _ h4;have KC:=hv.sB;refine zw rfl (aC.cE (ig σ b p2 c2 e vl pv cv i3 t3 lv hv jy (jQ t3 (by simp)).1 h3 h4) rfl) ?_;rintro _ _ _ ⟨_,⟨rfl,Wq,Ws,Ob,rfl,rfl⟩,rfl⟩;refine az.cl ?_;refine aW ?_;rw[dj,if_pos (by decide)] at hR;refine b9 ?_
      cases iO:cm vl e f lv with
      |error x=>
       rw[iO] at hR;simp only[bf] at hR;refine az.die rfl ((gR vl e f).bad hv Ob Oa (by omega) (by omega) iO) rfl ?_;rintro _ Az _ ⟨rfl,jE,cse,rfl⟩;refine DA.cl ?_;(repeat (first|refine DA.ax ?_|refine DA.ay ?_));exact ao.panic zE ⟨_,fV.trans hR.symm,rfl,jE,_,rfl⟩
      |ok y=>
       obtain⟨xe,le⟩:=y;rw[iO] at hR;simp only[bf] at hR;have oE:=dv f _ _ _ iO;(have DC:∀t∈le,kN t:=fun t ht=>Oa t (oE.1 t ht));have FQ:le.length≤10000:=Nat.le_trans oE.2 Wp;refine zw rfl (aC.cE ((gR vl e f).ok hv Ob Oa (by omega) (by omega) iO) rfl) ?_;rintro _ Az _ ⟨_,⟨cse,Oc,Od,rfl,nV,hle,jE,rfl⟩,rfl⟩;refine az.cl ?_;obtain⟨KQ,KR,rfl,-,-,-,-⟩:=nV.inv;refine aW ?_;rw[dj,if_pos (by decide)] at hR;refine b9 ?_
       cases Aq:cm vl e f le with
       |error x=>
        rw[Aq] at hR;simp only[bf] at hR;refine az.die rfl ((gR vl e f).bad (hv.mono (jE) (fun _ _ h=>h)) hle DC (by omega) (by omega) Aq) rfl ?_;rintro _ Wt _ ⟨rfl,UN,csf,rfl⟩;refine DA.cl ?_;(repeat (first|refine DA.ax ?_|refine DA.ay ?_));exact ao.panic zE ⟨_,fV.trans hR.symm,rfl,(jE).trans UN,_,rfl⟩
       |ok y=>
        obtain⟨xf,lf⟩:=y;rw[Aq] at hR;simp only[bf] at hR;have UO:=dv f _ _ _ Aq;(have hFf:∀t∈lf,kN t:=fun t ht=>DC t (UO.1 t ht));have hLf:lf.length≤10000:=Nat.le_trans UO.2 FQ;refine zw rfl (aC.cE ((gR vl e f).ok (hv.mono (jE) (fun _ _ h=>h)) hle DC (by omega) (by omega) Aq) rfl) ?_;rintro _ Wt _ ⟨_,⟨csf,pf1,cf1,rfl,hcf,DE,UN,rfl⟩,rfl⟩;refine az.cl ?_;obtain⟨xqf,xdf,rfl,-,-,-,-⟩:=hcf.inv;refine aW ?_;rw[dj,if_neg (by decide)] at hR;simp only[bf] at hR;refine a8 ?_;rw[dj,if_neg (by decide)] at hR;simp only[bf] at hR;refine aO ?_;rw[dz] at hR
        cases hc:lA eJ lf with
        |false=>
         rw[if_neg (by rw[hc];exact Bool.noConfusion)] at hR;refine az.die rfl (dV Wt b pf1 cf1 e _ lf eJ DE hc) rfl ?_;rintro _ _ _ ⟨rfl,rfl,rfl⟩;refine DA.cl ?_;(repeat (first|refine DA.ax ?_|refine DA.ay ?_));exact ao.panic zE ⟨_,fV.trans hR.symm,rfl,jE.trans UN,_,rfl⟩
        |true=>
         obtain⟨t4,l8,rfl⟩:=ca hc;rw[if_pos hc,List.tail_cons] at hR;refine zw rfl (aC.cE (eT Wt b pf1 cf1 e _ t4 l8 eJ DE hc) rfl) ?_;rintro _ _ _ ⟨_,⟨rfl,p8,c8,zm,rfl,rfl⟩,rfl⟩;refine az.cl ?_;refine a8 ?_;have fS:cT Wt [i64 ((2:Nat):Int),i64 (i3:Int),i64 xe.op,i64 xe.v,i64 xe.n,.slice KQ xe.l.length KR,i64 xf.op,i64 xf.v,i64 xf.n,.slice xqf xf.l.length xdf,.slice none 0 0,.slice none 0 0] (.mk ((2:Nat):Int) (i3:Int) xe xf [] []):=cT.of ⟨by decide,by decide⟩ ⟨by omega,by omega⟩ (nV.mono (UN)) hcf (bO.nil _ _ _) (bO.nil _ _ _);exact ao.ret (aG.cell rfl rfl (Ld.bN (ad rfl) rfl zL rfl (by first|exact bJ (by first|rfl|assumption|(refine(aj _).trans ?_;assumption)|(simp[*];(first|done|fail)))|assumption|exact aI (by first|rfl|assumption|(refine(aj _).trans ?_;assumption)|(simp[*];(first|done|fail)))|(conv=>lhs;simp only[List.drop_succ_cons,List.drop_zero,List.take_succ_cons,List.take_zero])) (by first|rfl|assumption|(refine(aj _).trans ?_;assumption)|(simp[*];(first|done|fail))))) zE ⟨_,l8,fV.trans hR.symm,_,p8,c8,rfl,fS,zm,jE.trans UN,rfl⟩
    ·skip;subst xP;refine yC (fJ σ ((3:Nat):Int)) ?_;refine jM ?_;rw[dj,if_neg (by decide)] at hR;simp only[bf] at hR;refine a8 ?_;rw[dj,if_pos (by decide)] at hR;refine b9 ?_
     cases iO:cm vl e f l2 with
     |error x=>
      rw[iO] at hR;simp only[bf] at hR;refine az.die rfl ((gR vl e f).bad hv jy jQ (by omega) (by omega) iO) rfl ?_;rintro _ Az _ ⟨rfl,jE,cse,rfl⟩;refine DA.cl ?_;(repeat (first|refine DA.ax ?_|refine DA.ay ?_));exact ao.panic zE ⟨_,fV.trans hR.symm,rfl,jE,_,rfl⟩
     |ok y=>
      obtain⟨xe,le⟩:=y;rw[iO] at hR;simp only[bf] at hR;have oE:=dv f _ _ _ iO;(have DC:∀t∈le,kN t:=fun t ht=>jQ t (oE.1 t ht));have FQ:le.length≤10000:=Nat.le_trans oE.2 EV;refine zw rfl (aC.cE ((gR vl e f).ok hv jy jQ (by omega) (by omega) iO) rfl) ?_;rintro _ Az _ ⟨_,⟨cse,Oc,Od,rfl,nV,hle,jE,rfl⟩,rfl⟩;refine az.cl ?_;obtain⟨KQ,KR,rfl,-,-,-,-⟩:=nV.inv;refine aW ?_;rw[dj,if_neg (by decide)] at hR;simp only[bf] at hR;refine a8 ?_;rw[dj,if_neg (by decide)] at hR;simp only[bf] at hR;refine a8 ?_;rw[dj,if_neg (by decide)] at hR;simp only[bf] at hR;refine aO ?_;rw[dz] at hR
      cases hc:lA eJ le with
      |false=>
       rw[if_neg (by rw[hc];exact Bool.noConfusion)] at hR;refine az.die rfl (dV Az b Oc Od e _ le eJ hle hc) rfl ?_;rintro _ _ _ ⟨rfl,rfl,rfl⟩;refine DA.cl ?_;(repeat (first|refine DA.ax ?_|refine DA.ay ?_));exact ao.panic zE ⟨_,fV.trans hR.symm,rfl,jE,_,rfl⟩
      |true=>
       obtain⟨t4,l8,rfl⟩:=ca hc;rw[if_pos hc,List.tail_cons] at hR;refine zw rfl (aC.cE (eT Az b Oc Od e _ t4 l8 eJ hle hc) rfl) ?_;rintro _ _ _ ⟨_,⟨rfl,p8,c8,zm,rfl,rfl⟩,rfl⟩;refine az.cl ?_;refine a8 ?_;have fS:cT Az [i64 ((3:Nat):Int),i64 0,i64 xe.op,i64 xe.v,i64 xe.n,.slice KQ xe.l.length KR,i64 0,i64 0,i64 0,.slice none 0 0,.slice none 0 0,.slice none 0 0] (.mk ((3:Nat):Int) 0 xe ka [] []):=cT.of ⟨by decide,by decide⟩ ⟨by decide,by decide⟩ nV (ik _) (bO.nil _ _ _) (bO.nil _ _ _);exact ao.ret (aG.cell rfl rfl (Ld.bN (ad rfl) rfl zL rfl (by first|exact bJ (by first|rfl|assumption|(refine(aj _).trans ?_;assumption)|(simp[*];(first|done|fail)))|assumption|exact aI (by first|rfl|assumption|(refine(aj _).trans ?_;assumption)|(simp[*];(first|done|fail)))|(conv=>lhs;simp only[List.drop_succ_cons,List.drop_zero,List.take_succ_cons,List.take_zero])) (by first|rfl|assumption|(refine(aj _).trans ?_;assumption)|(simp[*];(first|done|fail))))) zE ⟨_,l8,fV.trans hR.symm,_,p8,c8,rfl,fS,zm,jE,rfl⟩
    ·skip;subst xP;refine yC (fJ σ ((4:Nat):Int)) ?_;refine jM ?_;rw[dj,if_pos (by decide)] at hR;refine bq ?_
     cases B8:j8 vl e l2 with
     |error x=>
      rw[B8] at hR;simp only[bf] at hR;rcases jg B8 with ⟨rfl,hx⟩|⟨t3,l3,rfl,rfl,hx,hy⟩
      ·skip;refine az.die rfl (gq σ b p2 c2 e _ pv vl.length cv l2 jy (fun t ht=>(jQ t ht).1) hx) rfl ?_;rintro _ _ _ ⟨rfl,rfl,rfl⟩;refine DA.cl ?_;(repeat (first|refine DA.ax ?_|refine DA.ay ?_));exact ao.panic zE ⟨_,fV.trans hR.symm,rfl,.refl _,_,rfl⟩
      ·skip;refine az.die rfl (fD σ b p2 c2 e vl pv cv t3 l3 hv jy (jQ t3 (by simp)).1 hx hy) rfl ?_;rintro _ _ _ ⟨rfl,rfl,rfl⟩;refine DA.cl ?_;(repeat (first|refine DA.ax ?_|refine DA.ay ?_));exact ao.panic zE ⟨_,fV.trans hR.symm,rfl,.refl _,_,rfl⟩
     |ok y=>
      obtain⟨v3,lv⟩:=y;rw[B8] at hR;simp only[bf] at hR;obtain⟨t3,i3,rfl,rfl,h3,h4⟩:=mu B8;(have Oa:∀t∈lv,kN t:=fun t ht=>jQ t (by simp[ht]));(have Wp:lv.length≤10000:=by simp only[List.length_cons] at EV;omega);have Wo:=mq _ _ _ h4;have KC:=hv.sB;refine zw rfl (aC.cE (ig σ b p2 c2 e vl pv cv i3 t3 lv hv jy (jQ t3 (by simp)).1 h3 h4) rfl) ?_;rintro _ _ _ ⟨_,⟨rfl,Wq,Ws,Ob,rfl,rfl⟩,rfl⟩;refine az.cl ?_;refine aW ?_;rw[dj,if_neg (by decide)] at hR;simp only[bf] at hR;refine a8 ?_;rw[dj,if_neg (by decide)] at hR;simp only[bf] at hR;refine a8 ?_;rw[dj,if_neg (by decide)] at hR;simp only[bf] at hR;refine a8 ?_;rw[dj,if_neg (by decide)] at hR;simp only[bf] at hR;refine aO ?_;rw[dz] at hR
      cases hc:lA eJ lv with
      |false=>
       rw[if_neg (by rw[hc];exact Bool.noConfusion)] at hR;refine az.die rfl (dV σ b Wq Ws e _ lv eJ Ob hc) rfl ?_;rintro _ _ _ ⟨rfl,rfl,rfl⟩;refine DA.cl ?_;(repeat (first|refine DA.ax ?_|refine DA.ay ?_));exact ao.panic zE ⟨_,fV.trans hR.symm,rfl,.refl _,_,rfl⟩
      |true=>
       obtain⟨t4,l8,rfl⟩:=ca hc;rw[if_pos hc,List.tail_cons] at hR;refine zw rfl (aC.cE (eT σ b Wq Ws e _ t4 l8 eJ Ob hc) rfl) ?_;rintro _ _ _ ⟨_,⟨rfl,p8,c8,zm,rfl,rfl⟩,rfl⟩;refine az.cl ?_;refine a8 ?_;have fS:cT σ [i64 ((4:Nat):Int),i64 (i3:Int),i64 0,i64 0,i64 0,.slice none 0 0,i64 0,i64 0,i64 0,.slice none 0 0,.slice none 0 0,.slice none 0 0] (.mk ((4:Nat):Int) (i3:Int) ka ka [] []):=cT.of ⟨by decide,by decide⟩ ⟨by omega,by omega⟩ (ik _) (ik _) (bO.nil _ _ _) (bO.nil _ _ _);exact ao.ret (aG.cell rfl rfl (Ld.bN (ad rfl) rfl zL rfl (by first|exact bJ (by first|rfl|assumption|(refine(aj _).trans ?_;assumption)|(simp[*];(first|done|fail)))|assumption|exact aI (by first|rfl|assumption|(refine(aj _).trans ?_;assumption)|(simp[*];(first|done|fail)))|(conv=>lhs;simp only[List.drop_succ_cons,List.drop_zero,List.take_succ_cons,List.take_zero])) (by first|rfl|assumption|(refine(aj _).trans ?_;assumption)|(simp[*];(first|done|fail))))) zE ⟨_,l8,fV.trans hR.symm,_,p8,c8,rfl,fS,zm,.refl _,rfl⟩
    ·skip;subst xP;refine yC (fJ σ ((5:Nat):Int)) ?_;refine jM ?_;rw[dj,if_neg (by decide)] at hR;simp only[bf] at hR;refine a8 ?_;rw[dj,if_pos (by decide)] at hR;refine b9 ?_
     cases iO:cm vl e f l2 with
     |error x=>
      rw[iO] at hR;simp only[bf] at hR;refine az.die rfl ((gR vl e f).bad hv jy jQ (by omega) (by omega) iO) rfl ?_;rintro _ Az _ ⟨rfl,jE,cse,rfl⟩;refine DA.cl ?_;(repeat (first|refine DA.ax ?_|refine DA.ay ?_));exact ao.panic zE ⟨_,fV.trans hR.symm,rfl,jE,_,rfl⟩
     |ok y=>
      obtain⟨xe,le⟩:=y;rw[iO] at hR;simp only[bf] at hR;have oE:=dv f _ _ _ iO;(have DC:∀t∈le,kN t:=fun t ht=>jQ t (oE.1 t ht));have FQ:le.length≤10000:=Nat.le_trans oE.2 EV;refine zw rfl (aC.cE ((gR vl e f).ok hv jy jQ (by omega) (by omega) iO) rfl) ?_;rintro _ Az _ ⟨_,⟨cse,Oc,Od,rfl,nV,hle,jE,rfl⟩,rfl⟩;refine az.cl ?_;obtain⟨KQ,KR,rfl,-,-,-,-⟩:=nV.inv;refine aW ?_;rw[dj,if_neg (by decide)] at hR;simp only[bf] at hR;refine a8 ?_;rw[dj,if_pos (by decide)] at hR;refine b9 ?_
      cases tK:fM (cQ vl e f) e le with
      |error x=>
       rw[tK] at hR;simp only[bf] at hR;refine az.die rfl (wQ.bad (hv.mono (jE) (fun _ _ h=>h)) hle DC (by omega) (by omega) FQ tK) rfl ?_;rintro _ SI _ ⟨rfl,ml,csb,rfl⟩;refine DA.cl ?_;(repeat (first|refine DA.ax ?_|refine DA.ay ?_));exact ao.panic zE ⟨_,fV.trans hR.symm,rfl,(jE).trans ml,_,rfl⟩
      |ok y=>
       obtain⟨xb,lb⟩:=y;rw[tK] at hR;simp only[bf] at hR;have FR:=iX (fun l x l' h=>(dR f l x l' h).1) tK;(have Wu:∀t∈lb,kN t:=fun t ht=>DC t (FR.1 t ht));have Wv:lb.length≤10000:=Nat.le_trans FR.2 FQ;refine zw rfl (aC.cE (wQ.ok (hv.mono (jE) (fun _ _ h=>h)) hle DC (by omega) (by omega) FQ tK) rfl) ?_;rintro _ SI _ ⟨_,⟨qb,mb,X7,X8,rfl,Ww,UP,ml,rfl⟩,rfl⟩;refine az.cl ?_;refine aW ?_;rw[dj,if_neg (by decide)] at hR;simp only[bf] at hR;refine aO ?_;rw[dz] at hR
       cases hc:lA eJ lb with
       |false=>
        rw[if_neg (by rw[hc];exact Bool.noConfusion)] at hR;refine az.die rfl (dV SI b X7 X8 e _ lb eJ UP hc) rfl ?_;rintro _ _ _ ⟨rfl,rfl,rfl⟩;refine DA.cl ?_;(repeat (first|refine DA.ax ?_|refine DA.ay ?_));exact ao.panic zE ⟨_,fV.trans hR.symm,rfl,jE.trans ml,_,rfl⟩
       |true=>
        obtain⟨t4,l8,rfl⟩:=ca hc;rw[if_pos hc,List.tail_cons] at hR;refine zw rfl (aC.cE (eT SI b X7 X8 e _ t4 l8 eJ UP hc) rfl) ?_;rintro _ _ _ ⟨_,⟨rfl,p8,c8,zm,rfl,rfl⟩,rfl⟩;refine az.cl ?_;refine a8 ?_;have fS:cT SI [i64 ((5:Nat):Int),i64 0,i64 xe.op,i64 xe.v,i64 xe.n,.slice KQ xe.l.length KR,i64 0,i64 0,i64 0,.slice none 0 0,.slice qb xb.length mb,.slice none 0 0] (.mk ((5:Nat):Int) 0 xe ka xb []):=cT.of ⟨by decide,by decide⟩ ⟨by decide,by decide⟩ (nV.mono (ml)) (ik _) Ww (bO.nil _ _ _);exact ao.ret (aG.cell rfl rfl (Ld.bN (ad rfl) rfl zL rfl (by first|exact bJ (by first|rfl|assumption|(refine(aj _).trans ?_;assumption)|(simp[*];(first|done|fail)))|assumption|exact aI (by first|rfl|assumption|(refine(aj _).trans ?_;assumption)|(simp[*];(first|done|fail)))|(conv=>lhs;simp only[List.drop_succ_cons,List.drop_zero,List.take_succ_cons,List.take_zero])) (by first|rfl|assumption|(refine(aj _).trans ?_;assumption)|(simp[*];(first|done|fail))))) zE ⟨_,l8,fV.trans hR.symm,_,p8,c8,rfl,fS,zm,jE.trans ml,rfl⟩
    ·skip;subst xP;refine yC (fJ σ ((6:Nat):Int)) ?_;refine jM ?_;rw[dj,if_neg (by decide)] at hR;simp only[bf] at hR;refine a8 ?_;rw[dj,if_pos (by decide)] at hR;refine b9 ?_
     cases iO:cm vl e f l2 with
     |error x=>
      rw[iO] at hR;simp only[bf] at hR;refine az.die rfl ((gR vl e f).bad hv jy jQ (by omega) (by omega) iO) rfl ?_;rintro _ Az _ ⟨rfl,jE,cse,rfl⟩;refine DA.cl ?_;(repeat (first|refine DA.ax ?_|refine DA.ay ?_));exact ao.panic zE ⟨_,fV.trans hR.symm,rfl,jE,_,rfl⟩
     |ok y=>
      obtain⟨xe,le⟩:=y;rw[iO] at hR;simp only[bf] at hR;have oE:=dv f _ _ _ iO;(have DC:∀t∈le,kN t:=fun t ht=>jQ t (oE.1 t ht));have FQ:le.length≤10000:=Nat.le_trans oE.2 EV;refine zw rfl (aC.cE ((gR vl e f).ok hv jy jQ (by omega) (by omega) iO) rfl) ?_;rintro _ Az _ ⟨_,⟨cse,Oc,Od,rfl,nV,hle,jE,rfl⟩,rfl⟩;refine az.cl ?_;obtain⟨KQ,KR,rfl,-,-,-,-⟩:=nV.inv;refine aW ?_;rw[dj,if_neg (by decide)] at hR;simp only[bf] at hR;refine a8 ?_;rw[dj,if_pos (by decide)] at hR;refine b9 ?_
      cases tK:fM (cQ vl e f) e le with
      |error x=>
       rw[tK] at hR;simp only[bf] at hR;refine az.die rfl (wQ.bad (hv.mono (jE) (fun _ _ h=>h)) hle DC (by omega) (by omega) FQ tK) rfl ?_;rintro _ SI _ ⟨rfl,ml,csb,rfl⟩;refine DA.cl ?_;(repeat (first|refine DA.ax ?_|refine DA.ay ?_));exact ao.panic zE ⟨_,fV.trans hR.symm,rfl,(jE).trans ml,_,rfl⟩
      |ok y=>
       obtain⟨xb,lb⟩:=y;rw[tK] at hR;simp only[bf] at hR;have FR:=iX (fun l x l' h=>(dR f l x l' h).1) tK;(have Wu:∀t∈lb,kN t:=fun t ht=>DC t (FR.1 t ht));have Wv:lb.length≤10000:=Nat.le_trans FR.2 FQ;refine zw rfl (aC.cE (wQ.ok (hv.mono (jE) (fun _ _ h=>h)) hle DC (by omega) (by omega) FQ tK) rfl) ?_;rintro _ SI _ ⟨_,⟨qb,mb,X7,X8,rfl,Ww,UP,ml,rfl⟩,rfl⟩;refine az.cl ?_;refine aW ?_;rw[dj,if_pos (by decide)] at hR;refine b9 ?_
       cases UQ:fM (cQ vl e f) e lb with
       |error x=>
        rw[UQ] at hR;simp only[bf] at hR;refine az.die rfl (wQ.bad (hv.mono (jE.trans ml) (fun _ _ h=>h)) UP Wu (by omega) (by omega) Wv UQ) rfl ?_;rintro _ Wx _ ⟨rfl,QN,cso,rfl⟩;refine DA.cl ?_;(repeat (first|refine DA.ax ?_|refine DA.ay ?_));exact ao.panic zE ⟨_,fV.trans hR.symm,rfl,(jE.trans ml).trans QN,_,rfl⟩
       |ok y=>
        obtain⟨xo,lo⟩:=y;rw[UQ] at hR;simp only[bf] at hR;have UR:=iX (fun l x l' h=>(dR f l x l' h).1) UQ;(have hFo:∀t∈lo,kN t:=fun t ht=>Wu t (UR.1 t ht));have hLo:lo.length≤10000:=Nat.le_trans UR.2 Wv;refine zw rfl (aC.cE (wQ.ok (hv.mono (jE.trans ml) (fun _ _ h=>h)) UP Wu (by omega) (by omega) Wv UQ) rfl) ?_;rintro _ Wx _ ⟨_,⟨qo,mo,po1,co1,rfl,hco,hlo,QN,rfl⟩,rfl⟩;refine az.cl ?_;refine bt ?_;rw[dz] at hR
        cases hc:lA eJ lo with
        |false=>
         rw[if_neg (by rw[hc];exact Bool.noConfusion)] at hR;refine az.die rfl (dV Wx b po1 co1 e _ lo eJ hlo hc) rfl ?_;rintro _ _ _ ⟨rfl,rfl,rfl⟩;refine DA.cl ?_;(repeat (first|refine DA.ax ?_|refine DA.ay ?_));exact ao.panic zE ⟨_,fV.trans hR.symm,rfl,jE.trans (ml.trans QN),_,rfl⟩
        |true=>
         obtain⟨t4,l8,rfl⟩:=ca hc;rw[if_pos hc,List.tail_cons] at hR;refine zw rfl (aC.cE (eT Wx b po1 co1 e _ t4 l8 eJ hlo hc) rfl) ?_;rintro _ _ _ ⟨_,⟨rfl,p8,c8,zm,rfl,rfl⟩,rfl⟩;refine az.cl ?_;refine a8 ?_;have fS:cT Wx [i64 ((6:Nat):Int),i64 0,i64 xe.op,i64 xe.v,i64 xe.n,.slice KQ xe.l.length KR,i64 0,i64 0,i64 0,.slice none 0 0,.slice qb xb.length mb,.slice qo xo.length mo] (.mk ((6:Nat):Int) 0 xe ka xb xo):=cT.of ⟨by decide,by decide⟩ ⟨by decide,by decide⟩ (nV.mono (ml.trans QN)) (ik _) (Ww.mono (QN) (fun _ _ h=>h.mono (QN))) hco;exact ao.ret (aG.cell rfl rfl (Ld.bN (ad rfl) rfl zL rfl (by first|exact bJ (by first|rfl|assumption|(refine(aj _).trans ?_;assumption)|(simp[*];(first|done|fail)))|assumption|exact aI (by first|rfl|assumption|(refine(aj _).trans ?_;assumption)|(simp[*];(first|done|fail)))|(conv=>lhs;simp only[List.drop_succ_cons,List.drop_zero,List.take_succ_cons,List.take_zero])) (by first|rfl|assumption|(refine(aj _).trans ?_;assumption)|(simp[*];(first|done|fail))))) zE ⟨_,l8,fV.trans hR.symm,_,p8,c8,rfl,fS,zm,jE.trans (ml.trans QN),rfl⟩
    ·skip;subst xP;refine yC (fJ σ ((7:Nat):Int)) ?_;refine jM ?_;rw[dj,if_neg (by decide)] at hR;simp only[bf] at hR;refine a8 ?_;rw[dj,if_neg (by decide)] at hR;simp only[bf] at hR;refine a8 ?_;rw[dj,if_neg (by decide)] at hR;simp only[bf] at hR;refine a8 ?_;rw[dj,if_neg (by decide)] at hR;simp only[bf] at hR;refine a8 ?_;rw[dj,if_neg (by decide)] at hR;simp only[bf] at hR;refine aO ?_;rw[dz] at hR
     cases hc:lA eJ l2 with
     |false=>
      rw[if_neg (by rw[hc];exact Bool.noConfusion)] at hR;refine az.die rfl (dV σ b p2 c2 e _ l2 eJ jy hc) rfl ?_;rintro _ _ _ ⟨rfl,rfl,rfl⟩;refine DA.cl ?_;(repeat (first|refine DA.ax ?_|refine DA.ay ?_));exact ao.panic zE ⟨_,fV.trans hR.symm,rfl,.refl _,_,rfl⟩
     |true=>
      obtain⟨t4,l8,rfl⟩:=ca hc;rw[if_pos hc,List.tail_cons] at hR;refine zw rfl (aC.cE (eT σ b p2 c2 e _ t4 l8 eJ jy hc) rfl) ?_;rintro _ _ _ ⟨_,⟨rfl,p8,c8,zm,rfl,rfl⟩,rfl⟩;refine az.cl ?_;refine a8 ?_;have fS:cT σ [i64 ((7:Nat):Int),i64 0,i64 0,i64 0,i64 0,.slice none 0 0,i64 0,i64 0,i64 0,.slice none 0 0,.slice none 0 0,.slice none 0 0] (.mk ((7:Nat):Int) 0 ka ka [] []):=cT.of ⟨by decide,by decide⟩ ⟨by decide,by decide⟩ (ik _) (ik _) (bO.nil _ _ _) (bO.nil _ _ _);exact ao.ret (aG.cell rfl rfl (Ld.bN (ad rfl) rfl zL rfl (by first|exact bJ (by first|rfl|assumption|(refine(aj _).trans ?_;assumption)|(simp[*];(first|done|fail)))|assumption|exact aI (by first|rfl|assumption|(refine(aj _).trans ?_;assumption)|(simp[*];(first|done|fail)))|(conv=>lhs;simp only[List.drop_succ_cons,List.drop_zero,List.take_succ_cons,List.take_zero])) (by first|rfl|assumption|(refine(aj _).trans ?_;assumption)|(simp[*];(first|done|fail))))) zE ⟨_,l8,fV.trans hR.symm,_,p8,c8,rfl,fS,zm,.refl _,rfl⟩
end Go.Proofs.YtgeoiflbjcehcaaGreatDoor
