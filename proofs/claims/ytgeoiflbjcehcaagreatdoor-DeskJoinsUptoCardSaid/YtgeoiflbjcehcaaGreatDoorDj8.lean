import Derived.Test.YtgeoiflbjcehcaaGreatDoorDj7
set_option maxHeartbeats 4000000
set_option maxRecDepth 2000
set_option linter.unusedVariables false
set_option linter.unusedSimpArgs false
namespace Go.Proofs.YtgeoiflbjcehcaaGreatDoor
open Go X
structure Down (F:Int→JE→JE):Prop where
 err:∀d c,F d (.error c)=.error c
 ok:∀d a b,0≤a→F d (.ok a)=.ok b→0≤b∧b≤a∧∀d' a',d'≤d→a≤a'→F d' (.ok a')=.ok (a'-a+b)
 nz:∀d a c,F d (.ok a)=.error c→c≠0
theorem Down.id:Down fun _ e=>e:=⟨fun _ _=>rfl,fun d a b h e=>by
 simp only[Except.ok.injEq] at e;subst e
 exact⟨h,Int.le_refl _,fun d' a' _ _=>by simp⟩,fun _ _ _ e=>by cases e⟩
theorem Down.comp {F G:Int→JE→JE} (hF:Down F) (hG:Down G):Down fun d e=>G d (F d e):=by
 refine⟨fun d c=>by rw[hF.err,hG.err],fun d a b h e=>?_,fun d a c e=>?_⟩
 ·cases hf:F d (.ok a) with
  |error c=>rw[hf,hG.err] at e;cases e
  |ok m=>
   rw[hf] at e;obtain⟨h1,h2,h3⟩:=hF.ok d a m h hf;obtain⟨g1,g2,g3⟩:=hG.ok d m b h1 e;refine⟨g1,by omega,fun d' a' hd ha=>?_⟩;rw[h3 d' a' hd ha,g3 d' _ hd (by omega)];congr 1;omega
 ·cases hf:F d (.ok a) with
  |error c'=>rw[hf,hG.err] at e;simp only[Except.error.injEq] at e;subst e;exact hF.nz _ _ _ hf
  |ok m=>rw[hf] at e;exact hG.nz _ _ _ e
theorem Down.shift {F:Int→JE→JE} (hF:Down F):Down fun d e=>F (d+1) e:=
 ⟨fun d c=>hF.err _ _,fun d a b h e=>by
  obtain⟨h1,h2,h3⟩:=hF.ok _ _ _ h e
  exact⟨h1,h2,fun d' a' hd ha=>h3 _ _ (by omega) ha⟩,fun d a c e=>hF.nz _ _ _ e⟩
theorem Down.fail (b:Bool) {c:Int} (hc:c≠0):Down fun _ e=>JE.fail e b c:=by
 cases b with
 |false=>simpa using Down.id
 |true=>exact⟨fun _ _=>rfl,fun d a b h e=>by simp[JE.fail] at e,fun d a c' e=>by simp[JE.fail] at e;subst e;exact hc⟩
theorem Down.one:Down fun d e=>JE.one e d:=by
 refine⟨fun _ _=>rfl,fun d a b h e=>?_,fun d a c e=>?_⟩
 ·simp only[JE.one] at e;split at e
  ·cases e
  ·split at e
   ·cases e
   ·simp only[Except.ok.injEq] at e;subst e;refine⟨by omega,by omega,fun d' a' hd ha=>?_⟩;simp only[JE.one];rw[if_neg (by omega),if_neg (by omega)];congr 1;omega
 ·simp only[JE.one] at e;split at e
  ·simp only[Except.error.injEq] at e;omega
  ·split at e
   ·simp only[Except.error.injEq] at e;omega
   ·cases e
theorem Down.named (nv v:Int) (is:Bool):Down fun _ e=>JE.named e nv v is:=(Down.fail _ (by decide)).comp (Down.fail _ (by decide))
theorem Down.fz (nv op v n:Int) (k:Nat):Down fun d e=>fz nv d op v n k e:=((Down.one.comp (Down.fail _ (by decide))).comp (Down.fail _ (by decide))).comp (Down.named _ _ _)
theorem Down.Fw (nv:Int):∀(l:List Ex),(∀x∈l,Down fun d e=>la nv d x e)→Down fun d e=>gF nv d l e
 |[],_=>by simpa[Go.Proofs.YtgeoiflbjcehcaaGreatDoor.gF] using Down.id
 |x::l,h=>by
  have:=(h x (by simp)).comp (Down.Fw nv l (fun y hy=>h y (by simp[hy])));simpa[Go.Proofs.YtgeoiflbjcehcaaGreatDoor.gF] using this
theorem Down.la (nv:Int) (x:Ex):Down fun d e=>la nv d x e:=by
 refine Ex.ind (P:=fun x=>Down fun d e=>Go.Proofs.YtgeoiflbjcehcaaGreatDoor.la nv d x e) ?_ x;intro op v n l ih;have:=(Down.fz nv op v n l.length).comp (Down.Fw nv l ih).shift;simpa[Go.Proofs.YtgeoiflbjcehcaaGreatDoor.la] using this
theorem Down.gF (nv:Int) (l:List Ex):Down fun d e=>Go.Proofs.YtgeoiflbjcehcaaGreatDoor.gF nv d l e:=Down.Fw nv l (fun x _=>Down.la nv x)
theorem Down.oe (nv op:Int) (e f:Ex):Down fun d s=>oe nv d op e f s:=by
 unfold Go.Proofs.YtgeoiflbjcehcaaGreatDoor.oe;by_cases h1:dT op=true<;>by_cases h2:j6 op=true<;>simp only[h1,h2]
 ·exact(Down.la nv e).comp (Down.la nv f)
 ·exact Down.la nv e
 ·exact Down.la nv f
 ·exact Down.id
theorem Down.fb (nv op v:Int) (e f:Ex) (kb ke:Nat):Down fun d s=>fb nv d op v e f kb ke s:=((Down.one.comp (Down.fail _ (by decide))).comp (Down.fail _ (by decide))).comp (Down.named _ _ _)
theorem Down.BR (nv:Int):∀(l:List St),(∀x∈l,Down fun d e=>og nv d x e)→Down fun d e=>dL nv d l e
 |[],_=>by simpa[Go.Proofs.YtgeoiflbjcehcaaGreatDoor.dL] using Down.id
 |x::l,h=>by
  have:=(h x (by simp)).comp (Down.BR nv l (fun y hy=>h y (by simp[hy])));simpa[Go.Proofs.YtgeoiflbjcehcaaGreatDoor.dL] using this
theorem Down.og (nv:Int) (x:St):Down fun d e=>og nv d x e:=by
 refine St.ind (P:=fun x=>Down fun d e=>Go.Proofs.YtgeoiflbjcehcaaGreatDoor.og nv d x e) ?_ x;intro op v e f body cG ih jh;have:=(((Down.fb nv op v e f body.length cG.length).comp (Down.oe nv op e f).shift).comp (Down.BR nv body ih).shift).comp (Down.BR nv cG jh).shift;simpa[Go.Proofs.YtgeoiflbjcehcaaGreatDoor.og] using this
theorem Down.dL (nv:Int) (l:List St):Down fun d e=>dL nv d l e:=Down.BR nv l (fun x _=>Down.og nv x)
theorem Kw {nv:Int}:∀{l:List St} {x:St} (_:x∈l) {d a b:Int},0≤a→Go.Proofs.YtgeoiflbjcehcaaGreatDoor.dL nv d l (.ok a)=.ok b→∃a1 b1,0≤a1∧a1≤a∧Go.Proofs.YtgeoiflbjcehcaaGreatDoor.og nv d x (.ok a1)=.ok b1
 |y::l,x,hm,d,a,b,h0,e=>by
  rw[Go.Proofs.YtgeoiflbjcehcaaGreatDoor.dL] at e
  cases hx:Go.Proofs.YtgeoiflbjcehcaaGreatDoor.og nv d y (.ok a) with
  |error c=>rw[hx,gf] at e;cases e
  |ok m=>
   rw[hx] at e;obtain⟨h1,h2,-⟩:=(Down.og nv y).ok d a m h0 hx;simp only[List.mem_cons] at hm;rcases hm with rfl|hm
   ·exact⟨a,m,h0,Int.le_refl _,hx⟩
   ·obtain⟨a1,b1,k1,k2,k3⟩:=Kw hm h1 e;exact⟨a1,b1,k1,by omega,k3⟩
theorem Dq {e:JE} (hn:∀c,e=.error c→c≠0) (h:e.code=0):∃b,e=.ok b:=by
 cases e with
 |ok b=>exact⟨b,rfl⟩
 |error c=>exact absurd h (hn c rfl)
theorem Fx {p:Pr} (h:bR p=0):checkVars p.vars=0∧∃b,Go.Proofs.YtgeoiflbjcehcaaGreatDoor.dL p.vars.length 0 p.body (.ok 150)=.ok b:=by
 unfold bR at h;split at h
 ·exact absurd h (by assumption)
 ·rename_i hv;exact⟨by simpa using hv,Dq (fun c hc=>(Down.dL _ p.body).nz _ _ _ hc) h⟩
theorem kF (x:Va) (l:List Va):sizes (x::l)=x.size+sizes l:=by simp[sizes]
theorem Dr (l m:List Va):sizes (l++m)=sizes l+sizes m:=by simp[sizes,List.sum_append]
theorem BS:∀(l seen:List Va) (n:Int),n≤48→gN seen n l=0→(∀x∈l,1≤x.size)∧n+sizes l≤48
 |[],_,n,hn,_=>by simp[sizes];exact hn
 |x::l,seen,n,hn,h=>by
  rw[gN] at h;split at h
  ·cases h
  ·split at h
   ·cases h
   ·split at h
    ·cases h
    ·obtain⟨h1,h2⟩:=BS l _ _ (by omega) h;refine⟨fun y hy=>?_,by rw[kF];omega⟩;simp only[List.mem_cons] at hy;rcases hy with rfl|hy
     ·omega
     ·exact h1 y hy
theorem xB {l:List Va} (h:checkVars l=0):l.length≤8∧(∀x∈l,1≤x.size)∧sizes l≤48:=by
 unfold checkVars at h;split at h
 ·cases h
 ·obtain⟨h1,h2⟩:=BS l [] 0 (by decide) h;exact⟨by omega,h1,by omega⟩
theorem dU:∀{l:List Va},(∀x∈l,1≤x.size)→0≤sizes l
 |[],_=>Int.le_refl _
 |x::l,h=>by have:=dU (l:=l) (fun y hy=>h y (by simp[hy]));have:=h x (by simp);rw[kF];omega
theorem xC {l:List Va} (h:∀x∈l,1≤x.size) (v:Nat):0≤sizes (l.take v)∧sizes (l.take v)≤sizes l:=by
 refine⟨dU (fun y hy=>h y (List.mem_of_mem_take hy)),?_⟩;(have h1:sizes l=sizes (l.take v)+sizes (l.drop v):=by rw[←Dr,List.take_append_drop]);have:=dU (l:=l.drop v) (fun y hy=>h y (List.mem_of_mem_drop hy));omega
theorem kG (σ:PH) (op:Int):ae Tryz.prog 231 #[i64 op] σ [] (aE fun v ag ah=>v=i64 (partsOf op)∧σ=ag∧ah=[]):=by
 by_cases h0:op<1
 ·refine dF Tryz.func231 ?_;refine ic ?_;refine bC ?_;refine ao.ret (aG.one rfl rfl) (aw.refl _) ⟨?_,rfl,rfl⟩;rw[partsOf,if_neg (by omega),if_neg (by omega),if_neg (by omega)]
 ·refine dF Tryz.func231 ?_;refine ic ?_;refine XA.bI rfl (fun h1=>?_) (fun h1=>?_)
  ·refine bt ?_;refine ao.ret (aG.one rfl rfl) (aw.refl _) ⟨?_,rfl,rfl⟩;rw[partsOf,if_neg (by omega),if_neg (by omega),if_neg (by omega)]
  have tY:op=1∨op=2∨op=3∨op=4∨op=5∨op=6∨op=7∨op=8:=by omega
  have H3:(List.toArray [i64 0,i64 0,i64 0,i64 1,i64 2,i64 2,i64 2,i64 2,i64 2])[op.toNat]? =some (i64 (partsOf op)):=by
   rcases tY with rfl|rfl|rfl|rfl|rfl|rfl|rfl|rfl<;>rfl
  refine bM ?_;refine zO rfl (Rd.vq (cs:=[i64 0,i64 0,i64 0,i64 1,i64 2,i64 2,i64 2,i64 2,i64 2]) (fun _ _=>ad) rfl rfl rfl rfl (by kernel_rfl)) ?_;refine b3 ?_;refine zO rfl (by apply Rd.nX;exact ad rfl;rfl;exact ad rfl;rfl;rfl;rfl;rfl;exact(by omega);exact H3) ?_;refine bM ?_;exact ao.ret (aG.one rfl rfl) (aw.refl _) ⟨rfl,rfl,rfl⟩
theorem An (σ:PH) (s:ByteArray) (hs:s.size≤maxLen):ae Tryz.prog 184 #[.string s] σ [] (aE fun v ag ah=>v=.bool (eF s)∧σ=ag∧ah=[]):=by
 simp only[maxLen] at hs;(refine dF Tryz.func184 ?_;refine dJ ?_;refine XA.gen [(0,_),(2,_),(5,_),(6,_)] jN fun δ=>?_);dsimp only[List.foldl];refine XA.loop [(2,3),(6,19)] (fun k:Nat=>[(6,i64 k)]) (fun k ag ah=>σ=ag∧k≤s.size∧(∀i,i<k→97≤bc s i∧bc s i≤122)∧ah=[]) (fun k=>s.size-k) 0 (by exact⟨rfl,trivial⟩) (Δ0:=_) ?_ (⟨rfl,Nat.zero_le _,by intro i hi;omega,rfl⟩) ?_
 ·exact zE
 rintro k δ _ _ ⟨rfl,hk,bF,rfl⟩;dsimp only[eb,List.foldl];refine aO ?_;refine XA.bI rfl (fun aT=>?_) (fun aT=>?_)
 ·(have aT:k<s.size:=by omega);have hb:=pN s k;by_cases h1:bc s k<97
  ·refine dJ ?_;refine zO rfl (Rd.dS (ad rfl) rfl rfl rfl (by first|omega|decide|(simp;omega))) ?_;refine bM ?_;(first|(refine zG ?_;refine zO rfl (Rd.dS (ad rfl) rfl rfl rfl (by first|omega|decide|(simp;omega))) ?_)|refine zH ?_);refine bM ?_;refine bH ?_;refine ao.ret (aG.one rfl rfl) (aw.refl _) ⟨?_,rfl,rfl⟩;have:eF s=false:=decide_eq_false (fun h=>by have:=h.1 k aT;omega);rw[this]
  ·refine dJ ?_;refine zO rfl (Rd.dS (ad rfl) rfl rfl rfl (by first|omega|decide|(simp;omega))) ?_;refine bM ?_;(first|(refine zG ?_;refine zO rfl (Rd.dS (ad rfl) rfl rfl rfl (by first|omega|decide|(simp;omega))) ?_)|refine zH ?_);refine bM ?_;refine XA.bI rfl (fun h2=>?_) (fun h2=>?_)
   ·refine cg ?_;refine ao.ret (aG.one rfl rfl) (aw.refl _) ⟨?_,rfl,rfl⟩;have:eF s=false:=decide_eq_false (fun h=>by have:=h.1 k aT;omega);rw[this]
   have fI:∀i,i<k+1→97≤bc s i∧bc s i≤122:=fun i hi=>by
    rcases Nat.lt_or_ge i k with h|h
    ·exact bF i h
    ·(have:i=k:=by omega);subst this;omega
   refine bC ?_;refine⟨cF,k+1,_,zM,?_,⟨rfl,aT,fI,rfl⟩,(by omega)⟩
   ·exact zE
 (have tJ:k=s.size:=by omega);subst tJ;by_cases h0:s.size=0
 ·have hz:s=⟨#[]⟩:=ByteArray.ext (Array.eq_empty_of_size_eq_zero h0);subst hz;refine bC ?_;refine zO rfl (Rd.neqs rfl rfl) ?_;refine a8 ?_;exact ao.ret (aG.one rfl rfl) (aw.refl _) ⟨rfl,rfl,rfl⟩
 ·(have hz:s≠⟨#[]⟩:=fun e=>h0 (by rw[e];rfl));refine bC ?_;refine zO rfl (Rd.neqs rfl rfl) ?_;refine a8 ?_;refine ao.ret (aG.one rfl rfl) (aw.refl _) ⟨?_,rfl,rfl⟩
  have:eF s=decide ((s.size:Int)≤8):=by
   unfold eF;rw[decide_eq_decide];constructor
   ·intro h;omega
   ·intro h;exact⟨bF,by omega,by omega⟩
  rw[this]
def aB (b:Nat) (vs:Value) (e:JE):HP:=fun m=>∃l c,au b [vs,i64 l,i64 c] 233 m∧match e with|.ok l'=>l=l'∧c=0|.error d=>c=d∧c≠0
theorem Kx {R:HP} {m:PH} (h:R m):Sat [R] m:=⟨m,PH.none,h,trivial,PH.cK m,.refl m,PH.ej m⟩
theorem om {R:HP} {m:PH} (mono:∀m m',R m→m.sub m'→R m') (h:Sat [R] m):R m:=by
 obtain⟨m1,m2,a,-,-,b,-⟩:=h;exact mono _ _ a b
theorem lI {g:Nat} {l:List Value} {T:TypeId}:∀m m',au g l T m→PH.sub m m'→au g l T m':=fun _ _ h s=>s _ _ h
theorem aB.wO {b:Nat} {vs:Value} {l:Int}:∀m,aB b vs (.ok l) m→∃_:Unit,True∧Sat [au b [vs,i64 l,i64 0] 233] m:=by
 rintro m ⟨l',c,h,rfl,rfl⟩;exact⟨(),trivial,Kx h⟩
theorem aB.gO {b:Nat} {vs:Value} {c:Int}:∀m,aB b vs (.error c) m→∃l:Int,c≠0∧Sat [au b [vs,i64 l,i64 c] 233] m:=by
 rintro m ⟨l',c',h,rfl,h0⟩;exact⟨l',h0,Kx h⟩
theorem aB.UE {b:Nat} {vs:Value} {l:Int}:∀m,Sat [au b [vs,i64 l,i64 0] 233] m→aB b vs (.ok l) m:=fun m h=>⟨l,0,om lI h,rfl,rfl⟩
theorem aB.Ky {b:Nat} {vs:Value} {l c:Int} (h0:c≠0):∀m,Sat [au b [vs,i64 l,i64 c] 233] m→aB b vs (.error c) m:=fun m h=>⟨l,c,om lI h,rfl,h0⟩
theorem gh (σ:PH) (b:Nat) (vs:Value) (e:JE) (is:Bool) (c:Int) (hc:c≠0):
 ae Tryz.prog 218 #[ptr b,.bool is,i64 c] σ [aB b vs e] (aE fun v ag ah=>v=.tuple #[]∧σ=ag∧ah=[aB b vs (e.fail is c)]):=by
 cases is with
 |false=>
  refine ob Tryz.func218 ?_;refine bH ?_;refine aN ?_;exact ao.normal (aG.none rfl) (aw.refl _) ⟨rfl,rfl,by rw[nj]⟩
 |true=>
  cases e with
  |ok l=>
   refine ob Tryz.func218 ?_;refine b9 ?_;(first|refine XA.aY (R:=aB b vs (.ok l)) zL (aB.wO) ?_|refine az.aY (R:=aB b vs (.ok l)) zL (aB.wO) ?_|refine DA.aY (R:=aB b vs (.ok l)) zL (aB.wO) ?_);rintro⟨⟩-;(first|refine XA.cl ?_|refine az.cl ?_|refine DA.cl ?_);refine bt ?_;refine bC ?_;exact ao.normal (aG.none rfl) (aw.eC zE (aB.Ky hc)) ⟨rfl,rfl,rfl⟩
  |error d=>
   refine ob Tryz.func218 ?_;refine b9 ?_;(first|refine XA.aY (R:=aB b vs (.error d)) zL (aB.gO) ?_|refine az.aY (R:=aB b vs (.error d)) zL (aB.gO) ?_|refine DA.aY (R:=aB b vs (.error d)) zL (aB.gO) ?_);rintro l h0;(first|refine XA.cl ?_|refine az.cl ?_|refine DA.cl ?_);refine bt ?_;refine XA.aR rfl (decide_eq_false h0) ?_;refine b3 ?_;exact ao.normal (aG.none rfl) (aw.eC zE (aB.Ky h0)) ⟨rfl,rfl,rfl⟩
theorem xD (l c:Int):JE.fail (.ok l) true c=.error c:=rfl
def JE.isOk:JE→Bool|.ok _=>true|.error _=>false
def JE.Fy (e:JE):Prop:=∀l,e=.ok l→0≤l∧l≤150
theorem N1 (σ:PH) (b:Nat) (vs:Value) (e:JE) (deep:Int) (hl:e.Fy):
 ae Tryz.prog 217 #[ptr b,i64 deep] σ [aB b vs e] (aE fun v ag ah=>v=.bool (e.one deep).isOk∧σ=ag∧ah=[aB b vs (e.one deep)]):=by
 refine bS Tryz.func217 ?_;refine aW ?_;refine yC (gh σ b vs e (decide (12<deep)) 4 (by decide)) ?_
 cases e with
 |error c=>
  rw[jf];refine aO ?_;(first|refine XA.aY (R:=aB b vs (.error c)) zL (aB.gO) ?_|refine az.aY (R:=aB b vs (.error c)) zL (aB.gO) ?_|refine DA.aY (R:=aB b vs (.error c)) zL (aB.gO) ?_);rintro l h0;(first|refine XA.cl ?_|refine az.cl ?_|refine DA.cl ?_);refine bM ?_;refine az.eS (Δ:=[aB b vs (.error c)]) (aw.eC zE (aB.Ky h0)) ?_;refine yC (gh σ b vs (.error c) (decide (l=0)) 3 (by decide)) ?_;rw[jf];refine b9 ?_;(first|refine XA.aY (R:=aB b vs (.error c)) zL (aB.gO) ?_|refine az.aY (R:=aB b vs (.error c)) zL (aB.gO) ?_|refine DA.aY (R:=aB b vs (.error c)) zL (aB.gO) ?_);rintro l2 h2;(first|refine XA.cl ?_|refine az.cl ?_|refine DA.cl ?_);refine tX ?_;refine ao.ret (aG.one rfl rfl) (aw.eC zE (aB.Ky h0)) ⟨?_,rfl,rfl⟩;rw[decide_eq_false h0];rfl
 |ok l=>
  obtain⟨l0,l1⟩:=hl l rfl;by_cases hd:12<deep
  ·rw[decide_eq_true hd,xD];refine aO ?_;(first|refine XA.aY (R:=aB b vs (.error 4)) zL (aB.gO) ?_|refine az.aY (R:=aB b vs (.error 4)) zL (aB.gO) ?_|refine DA.aY (R:=aB b vs (.error 4)) zL (aB.gO) ?_);rintro l2-;(first|refine XA.cl ?_|refine az.cl ?_|refine DA.cl ?_);refine bM ?_;refine az.eS (Δ:=[aB b vs (.error 4)]) (aw.eC zE (aB.Ky (by decide))) ?_;refine yC (gh σ b vs (.error 4) (decide (l2=0)) 3 (by decide)) ?_;rw[jf];refine b9 ?_;(first|refine XA.aY (R:=aB b vs (.error 4)) zL (aB.gO) ?_|refine az.aY (R:=aB b vs (.error 4)) zL (aB.gO) ?_|refine DA.aY (R:=aB b vs (.error 4)) zL (aB.gO) ?_);rintro l3-;(first|refine XA.cl ?_|refine az.cl ?_|refine DA.cl ?_);refine tX ?_;refine ao.ret (aG.one rfl rfl) (aw.eC (Γ:=_) (Θ:=[au b [vs,_,i64 4] 233]) zE (aB.Ky (by decide))) ⟨?_,rfl,?_⟩
   ·simp[JE.one,hd,JE.isOk]
   ·simp[JE.one,hd]
  ·rw[decide_eq_false hd,nj];refine aO ?_;(first|refine XA.aY (R:=aB b vs (.ok l)) zL (aB.wO) ?_|refine az.aY (R:=aB b vs (.ok l)) zL (aB.wO) ?_|refine DA.aY (R:=aB b vs (.ok l)) zL (aB.wO) ?_);rintro⟨⟩-;(first|refine XA.cl ?_|refine az.cl ?_|refine DA.cl ?_);refine bM ?_;refine az.eS (Δ:=[aB b vs (.ok l)]) (aw.eC zE aB.UE) ?_;refine yC (gh σ b vs (.ok l) (decide (l=0)) 3 (by decide)) ?_;by_cases h0:l=0
   ·rw[decide_eq_true h0,xD];refine b9 ?_;(first|refine XA.aY (R:=aB b vs (.error 3)) zL (aB.gO) ?_|refine az.aY (R:=aB b vs (.error 3)) zL (aB.gO) ?_|refine DA.aY (R:=aB b vs (.error 3)) zL (aB.gO) ?_);rintro l3-;(first|refine XA.cl ?_|refine az.cl ?_|refine DA.cl ?_);refine tX ?_;refine ao.ret (aG.one rfl rfl) (aw.eC (Γ:=_) (Θ:=[au b [vs,_,i64 3] 233]) zE (aB.Ky (by decide))) ⟨?_,rfl,?_⟩
    ·simp[JE.one,hd,h0,JE.isOk]
    ·simp[JE.one,hd,h0]
   ·rw[decide_eq_false h0,nj];refine b9 ?_;(first|refine XA.aY (R:=aB b vs (.ok l)) zL (aB.wO) ?_|refine az.aY (R:=aB b vs (.ok l)) zL (aB.wO) ?_|refine DA.aY (R:=aB b vs (.ok l)) zL (aB.wO) ?_);rintro⟨⟩-;(first|refine XA.cl ?_|refine az.cl ?_|refine DA.cl ?_);refine tX ?_;refine ao.ret (aG.one rfl rfl) (aw.eC (Θ:=[au b [vs,i64 (l-1),i64 0] 233]) zE aB.UE) ⟨?_,rfl,?_⟩
    ·simp[JE.one,hd,h0,JE.isOk]
    ·simp[JE.one,hd,h0]
theorem aB.any {b:Nat} {vs:Value} {e:JE}:∀m,aB b vs e m→∃x:Int×Int,(∀m',Sat [au b [vs,i64 x.1,i64 x.2] 233] m'→aB b vs e m')∧Sat [au b [vs,i64 x.1,i64 x.2] 233] m:=by
 rintro m ⟨l',c,h,h0⟩;exact⟨(l',c),fun m' h'=>⟨l',c,om lI h',h0⟩,Kx h⟩
theorem aB.Ds {b:Nat} {vs:Value} {e:JE}:∀m,aB b vs e m→∃x:Int×Int,(decide (x.2=0)=e.isOk∧∀m',Sat [au b [vs,i64 x.1,i64 x.2] 233] m'→aB b vs e m')∧Sat [au b [vs,i64 x.1,i64 x.2] 233] m:=by
 rintro m ⟨l',c,h,h0⟩;refine⟨(l',c),⟨?_,fun m' h'=>⟨l',c,om lI h',h0⟩⟩,Kx h⟩
 cases e with
 |ok l=>obtain⟨-,rfl⟩:=h0;rfl
 |error d=>obtain⟨-,h0⟩:=h0;exact decide_eq_false h0
theorem BT (σ:PH) (b:Nat) (p:Option Addr) (n c:Nat) (e:JE) (v:Int) (is:Bool):
 ae Tryz.prog 220 #[ptr b,i64 v,.bool is] σ [aB b (.slice p n c) e] (aE fun r ag ah=>r=.tuple #[]∧σ=ag∧ah=[aB b (.slice p n c) (e.named n v is)]):=by
 cases is with
 |false=>
  refine ob Tryz.func220 ?_;refine dE ?_;refine yC (gh σ b _ e false 1 (by decide)) ?_;refine aW ?_;refine yC (gh σ b _ _ (decide (v≠0)) 5 (by decide)) ?_;refine b3 ?_;exact ao.normal (aG.none rfl) (aw.refl _) ⟨rfl,rfl,rfl⟩
 |true=>
  by_cases h0:v<0
  ·refine ob Tryz.func220 ?_;refine dE ?_;refine yC (gh σ b _ e true 1 (by decide)) ?_;refine aW ?_;refine yC (gh σ b _ _ false 5 (by decide)) ?_;refine b3 ?_;refine ao.normal (aG.none rfl) (aw.refl _) ⟨rfl,rfl,?_⟩;have:decide (v<0∨(n:Int)≤v)=true:=decide_eq_true (Or.inl h0);simp only[JE.named,this,Bool.true_and,Bool.not_true,Bool.false_and]
  ·refine ob Tryz.func220 ?_;refine aW ?_;(first|refine XA.aY (R:=aB b (.slice p n c) e) zL (aB.any) ?_|refine az.aY (R:=aB b (.slice p n c) e) zL (aB.any) ?_|refine DA.aY (R:=aB b (.slice p n c) e) zL (aB.any) ?_);rintro⟨l,cc⟩ hf;(first|refine XA.cl ?_|refine az.cl ?_|refine DA.cl ?_);refine bt ?_;refine az.eS (Δ:=[aB b (.slice p n c) e]) (aw.eC zE hf) ?_;refine yC (gh σ b _ e (decide ((n:Int)≤v)) 1 (by decide)) ?_;refine aW ?_;refine yC (gh σ b _ _ false 5 (by decide)) ?_;refine b3 ?_;refine ao.normal (aG.none rfl) (aw.refl _) ⟨rfl,rfl,?_⟩;(have:decide (v<0∨(n:Int)≤v)=decide ((n:Int)≤v):=by rw[decide_eq_decide];omega);simp only[JE.named,this,Bool.true_and,Bool.not_true,Bool.false_and]
theorem Fz (σ:PH) (cs:List Value) (x:Ex) (hx:dc σ cs x):ae Tryz.prog 219 #[.agg cs.toArray] σ [] (aE fun v ag ah=>v=.bool (od x)∧σ=ag∧ah=[]):=by
 obtain⟨p,c,rfl,-,-,-,-⟩:=hx.inv;by_cases h1:x.op=0
 ·by_cases h2:x.v=0
  ·by_cases h3:x.n=0
   ·(refine dF Tryz.func219 ?_;refine aN ?_;refine cN fun g1=>?_;refine nh ?_);refine b8 rfl rfl ⟨?_,rfl,rfl⟩;simp[od,h1,h2,h3]
   ·(refine dF Tryz.func219 ?_;refine aN ?_;refine cN fun g1=>?_;refine nh ?_);exact b8 rfl rfl ⟨by simp[od,h3],rfl,rfl⟩
  ·(refine dF Tryz.func219 ?_;refine aN ?_;refine cN fun g1=>?_;refine nh ?_);exact b8 rfl rfl ⟨by simp[od,h2],rfl,rfl⟩
 ·(refine dF Tryz.func219 ?_;refine aN ?_;refine cN fun g1=>?_;refine nh ?_);exact b8 rfl rfl ⟨by simp[od,h1],rfl,rfl⟩
theorem fJ (σ:PH) (op:Int):ae Tryz.prog 209 #[i64 op] σ [] (aE fun v ag ah=>v=.tuple #[.bool (dT op),.bool (j6 op),.bool (qQ op),.bool (qR op),.bool (qS op)]∧σ=ag∧ah=[]):=by
 refine dF Tryz.func209 ?_;refine oa ?_;refine XA.bI rfl (fun h1=>?_) (fun h1=>?_)
 ·refine bH ?_;subst h1;exact ao.ret (aG.five rfl rfl rfl rfl rfl rfl) (aw.refl _) ⟨rfl,rfl,rfl⟩
 refine aO ?_;refine XA.bI rfl (fun h2=>?_) (fun h2=>?_)
 ·refine bH ?_;subst h2;exact ao.ret (aG.five rfl rfl rfl rfl rfl rfl) (aw.refl _) ⟨rfl,rfl,rfl⟩
 refine aO ?_;refine XA.bI rfl (fun h3=>?_) (fun h3=>?_)
 ·refine bH ?_;subst h3;exact ao.ret (aG.five rfl rfl rfl rfl rfl rfl) (aw.refl _) ⟨rfl,rfl,rfl⟩
 refine aO ?_;refine XA.bI rfl (fun h4=>?_) (fun h4=>?_)
 ·refine bH ?_;subst h4;exact ao.ret (aG.five rfl rfl rfl rfl rfl rfl) (aw.refl _) ⟨rfl,rfl,rfl⟩
 refine aO ?_;refine XA.bI rfl (fun h5=>?_) (fun h5=>?_)
 ·refine bH ?_;subst h5;exact ao.ret (aG.five rfl rfl rfl rfl rfl rfl) (aw.refl _) ⟨rfl,rfl,rfl⟩
 refine aO ?_;refine XA.bI rfl (fun h6=>?_) (fun h6=>?_)
 ·refine bH ?_;subst h6;exact ao.ret (aG.five rfl rfl rfl rfl rfl rfl) (aw.refl _) ⟨rfl,rfl,rfl⟩
 refine bM ?_;refine ao.ret (aG.five rfl rfl rfl rfl rfl rfl) (aw.refl _) ⟨?_,rfl,rfl⟩;simp[dT,j6,qQ,qR,qS,h1,h2,h3,h4,h5,h6]
theorem su {F:Int→JE→JE} (hF:Down F) {e:JE} (h:e.Fy) (d:Int):(F d e).Fy:=by
 cases e with
 |error c=>rw[hF.err];intro l hl;cases hl
 |ok a=>
  intro l hl;obtain⟨h1,h2⟩:=h a rfl;obtain⟨h3,h4,-⟩:=hF.ok _ _ _ h1 hl;omega
def FA (σ:PH) (x:Ex):Prop:=∀(cs:List Value) (b:Nat) (p:Option Addr) (n c:Nat) (e:JE) (deep:Int),dc σ cs x→e.Fy→0≤deep→deep≤1000→
 ae Tryz.prog 221 #[ptr b,.agg cs.toArray,i64 deep] σ [aB b (.slice p n c) e] (aE fun r ag ah=>r=.tuple #[]∧σ=ag∧ah=[aB b (.slice p n c) (la n deep x e)])
theorem kH {e:JE} (h:e.isOk=false):∃c,e=.error c:=by
 cases e with
 |ok l=>cases h
 |error c=>exact⟨c,rfl⟩
theorem FB {e:JE} {d:Int} (h:(e.one d).isOk=true):d≤12:=by
 cases e with
 |error c=>cases h
 |ok l=>
  simp only[JE.one] at h;split at h
  ·cases h
  ·omega
theorem FC (σ:PH) (x:Ex):FA σ x:=by
 refine Ex.ind (P:=FA σ) ?_ x;intro op v k l ih cs b p n c e deep hx kI tZ Dt;obtain⟨pl,cl,rfl,-,-,-,hl⟩:=hx.inv;simp only[Ex.op,Ex.v,Ex.n,Ex.l] at hl⊢;obtain⟨-,-,-,hle,EO⟩:=hl.shape
 have hlen:l.length≤maxLen:=by
  obtain⟨q,d,e1,h1,h2⟩:=hl.shape;omega
 simp only[maxLen] at hlen;refine ob Tryz.func221 ?_;refine aN ?_;refine cN fun g4=>?_;refine bt ?_;refine yC (N1 σ b (.slice p n c) e deep kI) ?_
 cases cU:(e.one deep).isOk with
 |false=>
  obtain⟨c',EP⟩:=kH cU;(have hp:la n deep (.mk op v k l) e=.error c':=by rw[la,fz,EP,jf,jf,uy,so]);rw[EP,hp];refine bq ?_;refine bq ?_;exact N0 rfl ⟨rfl,rfl,rfl⟩
 |true=>
  have hd:=FB cU;refine bq ?_;refine bt ?_;refine yC (kG σ op) ?_;refine bC ?_;refine yC (gh σ b _ _ (decide (partsOf op<0)) 2 (by decide)) ?_;refine a8 ?_;refine az.join (List.take_append_drop 11 _).symm [(20,20),(25,35)] (fun _:Unit=>[(20,ptr b),(35,.bool (decide ((l.length:Int)≠partsOf op∨(k≠0∧op≠1))))]) (fun _ ag ah=>σ=ag∧ah=[aB b (.slice p n c) ((e.one deep).fail (decide (partsOf op<0)) 2),au g4 [i64 op,i64 v,i64 k,.slice pl l.length cl] 138]) ?_ ?_
  ·by_cases h1:(l.length:Int)=partsOf op
   ·by_cases h2:k=0
    ·have hb:decide ((l.length:Int)≠partsOf op∨(k≠0∧op≠1))=false:=decide_eq_false (by omega);rw[hb];refine eP ?_;refine⟨cF,(),_,zM,?_,⟨rfl,rfl⟩⟩
     ·exact zE
    ·(have hb:decide ((l.length:Int)≠partsOf op∨(k≠0∧op≠1))=decide (op≠1):=by rw[decide_eq_decide];omega);rw[hb];refine eP ?_;refine⟨cF,(),_,zM,?_,⟨rfl,rfl⟩⟩
     ·exact zE
   ·have hb:decide ((l.length:Int)≠partsOf op∨(k≠0∧op≠1))=true:=decide_eq_true (by omega);rw[hb];refine eP ?_;refine⟨cF,(),_,zM,?_,⟨rfl,rfl⟩⟩
    ·exact zE
  rintro-δ1 _ _ ⟨rfl,rfl⟩;dsimp only[eb,List.foldl];refine yC (gh σ b _ _ (decide ((l.length:Int)≠partsOf op∨(k≠0∧op≠1))) 5 (by decide)) ?_;refine aW ?_;refine az.join (List.take_append_drop 5 _).symm [(37,37),(39,39),(43,47)] (fun _:Unit=>[(37,ptr b),(39,i64 v),(47,.bool (decide (op=2∨op=3)))]) (fun _ ag ah=>σ=ag∧ah=[aB b (.slice p n c) (((e.one deep).fail (decide (partsOf op<0)) 2).fail (decide ((l.length:Int)≠partsOf op∨(k≠0∧op≠1))) 5),au g4 [i64 op,i64 v,i64 k,.slice pl l.length cl] 138]) ?_ ?_
  ·by_cases h1:op=2
   ·have hb:decide (op=2∨op=3)=true:=decide_eq_true (by omega);rw[hb];refine bt ?_;refine⟨cF,(),_,zM,?_,⟨rfl,rfl⟩⟩
    ·exact zE
   ·(have hb:decide (op=2∨op=3)=decide (op=3):=by rw[decide_eq_decide];omega);rw[hb];refine bt ?_;refine⟨cF,(),_,zM,?_,⟨rfl,rfl⟩⟩
    ·exact zE
  rintro-N2 _ _ ⟨rfl,rfl⟩;dsimp only[eb,List.foldl];(refine yC (BT σ b p n c _ v (decide (op=2∨op=3))) ?_;refine cg ?_;refine XA.gen [(0,_),(2,_),(50,_),(51,_),(52,_)] jN fun δ=>?_);dsimp only[List.foldl];refine XA.loop [(8,8),(52,66)] (fun q:Nat=>[(52,i64 q)]) (fun q ag ah=>σ=ag∧q≤l.length∧ah=[aB b (.slice p n c) (gF n (deep+1) (l.take q) (fz n deep op v k l.length e)),au g4 [i64 op,i64 v,i64 k,.slice pl l.length cl] 138]) (fun q=>l.length-q) 0 (by exact⟨rfl,trivial⟩) (Δ0:=_) ?_ (⟨rfl,Nat.zero_le _,rfl⟩) ?_
  ·rw[List.take_zero,gF];exact zE
  rintro q δ _ _ ⟨rfl,hq,rfl⟩;dsimp only[eb,List.foldl];refine aO ?_;refine XA.bI rfl (fun aT=>?_) (fun aT=>?_)
  ·(have aT:q<l.length:=by omega);obtain⟨x',mh⟩:∃x',l[q]? =some x':=⟨_,List.getElem?_eq_getElem aT⟩;obtain⟨g,o,row,rfl,pA,rC,bL⟩:=hl.at mh;have gG:=pA.dn;have e1:=Dn n (deep+1) l q x' (fz n deep op v k l.length e) mh;have FD:(gF n (deep+1) (l.take q) (fz n deep op v k l.length e)).Fy:=su (Down.gF n (l.take q)) (su (Down.fz n op v k l.length) kI deep) (deep+1);refine bC ?_;refine cR (fun g8=>?_) (ad rfl);refine aO ?_
   cases iM:gF n (deep+1) (l.take q) (fz n deep op v k l.length e) with
   |error c'=>
    rw[iM,mf] at e1;(first|refine XA.aY (R:=aB b (.slice p n c) (.error c')) zL (aB.gO) ?_|refine az.aY (R:=aB b (.slice p n c) (.error c')) zL (aB.gO) ?_|refine DA.aY (R:=aB b (.slice p n c) (.error c')) zL (aB.gO) ?_);rintro lf h0;(first|refine XA.cl ?_|refine az.cl ?_|refine DA.cl ?_);refine aO ?_;refine XA.aR rfl (decide_eq_false h0) ?_;refine bC ?_;refine⟨cF,q+1,[aB b (.slice p n c) (.error c'),_],zM,?_,⟨rfl,aT,by rw[e1]⟩,(by omega)⟩
    ·exact aw.e9 (Θ:=[_]) zD (aB.Ky h0) zE
   |ok a=>
    rw[iM] at e1 FD;(first|refine XA.aY (R:=aB b (.slice p n c) (.ok a)) zL (aB.wO) ?_|refine az.aY (R:=aB b (.slice p n c) (.ok a)) zL (aB.wO) ?_|refine DA.aY (R:=aB b (.slice p n c) (.ok a)) zL (aB.wO) ?_);rintro⟨⟩-;(first|refine XA.cl ?_|refine az.cl ?_|refine DA.cl ?_);refine aO ?_;refine aO ?_;refine az.eS (aw.e9 (Θ:=[_]) zD (aB.UE (l:=a)) (aw.refl _)) ?_;refine yC (ih x' (List.mem_of_getElem? mh) row b p n c (.ok a) (deep+1) pA FD (by omega) (by omega)) ?_;refine bC ?_;refine⟨cF,q+1,_,zM,?_,⟨rfl,aT,by rw[e1]⟩,(by omega)⟩
    ·exact zE
  (have XK:q=l.length:=by omega);subst XK;rw[List.take_length];refine bM ?_;exact fU rfl ⟨rfl,rfl,rfl⟩
def Ao (σ:PH) (x:St):Prop:=∀(cs:List Value) (b:Nat) (p:Option Addr) (n c:Nat) (e:JE) (deep:Int),cT σ cs x→e.Fy→0≤deep→deep≤900→
 ae Tryz.prog 187 #[ptr b,.agg cs.toArray,i64 deep] σ [aB b (.slice p n c) e] (aE fun r ag ah=>r=.tuple #[]∧σ=ag∧ah=[aB b (.slice p n c) (og n deep x e)])
theorem Ap (σ:PH) (l:List St) (ih:∀x∈l,Ao σ x) (sl:Value) (b:Nat) (p:Option Addr) (n c:Nat) (e:JE) (deep:Int) (hl:bO 12 cT σ sl l) (kI:e.Fy) (tZ:0≤deep) (Dt:deep≤900):
 ae Tryz.prog 153 #[ptr b,sl,i64 deep] σ [aB b (.slice p n c) e] (aE fun r ag ah=>r=.tuple #[]∧σ=ag∧ah=[aB b (.slice p n c) (dL n deep l e)]):=by
 obtain⟨pl,cl,rfl,hle,EO⟩:=hl.shape;(have hlen:l.length≤maxLen:=by omega);simp only[maxLen] at hlen;(refine ob Tryz.func153 ?_;refine bC ?_;refine XA.gen [(0,_),(2,_),(8,_),(9,_),(10,_)] jN fun δ=>?_);dsimp only[List.foldl];refine XA.loop [(7,7),(10,23)] (fun q:Nat=>[(10,i64 q)]) (fun q ag ah=>σ=ag∧q≤l.length∧ah=[aB b (.slice p n c) (dL n deep (l.take q) e)]) (fun q=>l.length-q) 0 (by exact⟨rfl,trivial⟩) (Δ0:=_) ?_ (⟨rfl,Nat.zero_le _,rfl⟩) ?_
 ·rw[List.take_zero,dL];exact zE
 rintro q δ _ _ ⟨rfl,hq,rfl⟩;dsimp only[eb,List.foldl];refine aO ?_;refine XA.bI rfl (fun aT=>?_) (fun aT=>?_)
 ·(have aT:q<l.length:=by omega);obtain⟨x',mh⟩:∃x',l[q]? =some x':=⟨_,List.getElem?_eq_getElem aT⟩;obtain⟨g,o,row,rfl,pA,rC,bL⟩:=hl.at mh;have gG:=pA.dn;have e1:=Dp n deep l q x' e mh;have FD:(dL n deep (l.take q) e).Fy:=su (Down.dL n (l.take q)) kI deep;refine bC ?_;refine cR (fun g7=>?_) (ad rfl);refine aO ?_
  cases iM:dL n deep (l.take q) e with
  |error c'=>
   rw[iM,BQ] at e1;(first|refine XA.aY (R:=aB b (.slice p n c) (.error c')) zL (aB.gO) ?_|refine az.aY (R:=aB b (.slice p n c) (.error c')) zL (aB.gO) ?_|refine DA.aY (R:=aB b (.slice p n c) (.error c')) zL (aB.gO) ?_);rintro lf h0;(first|refine XA.cl ?_|refine az.cl ?_|refine DA.cl ?_);refine aO ?_;refine XA.aR rfl (decide_eq_false h0) ?_;refine bC ?_;refine⟨cF,q+1,[aB b (.slice p n c) (.error c')],zM,?_,⟨rfl,aT,by rw[e1]⟩,(by omega)⟩
   ·exact aw.e9 (Θ:=[_]) zD (aB.Ky h0) zE
  |ok a=>
   rw[iM] at e1 FD;(first|refine XA.aY (R:=aB b (.slice p n c) (.ok a)) zL (aB.wO) ?_|refine az.aY (R:=aB b (.slice p n c) (.ok a)) zL (aB.wO) ?_|refine DA.aY (R:=aB b (.slice p n c) (.ok a)) zL (aB.wO) ?_);rintro⟨⟩-;(first|refine XA.cl ?_|refine az.cl ?_|refine DA.cl ?_);refine aO ?_;refine b9 ?_;refine az.eS (aw.e9 (Θ:=[_]) zD (aB.UE (l:=a)) (aw.refl _)) ?_;refine yC (ih x' (List.mem_of_getElem? mh) row b p n c (.ok a) deep pA FD (by omega) (by omega)) ?_;refine bC ?_;refine⟨cF,q+1,_,zM,?_,⟨rfl,aT,by rw[e1]⟩,(by omega)⟩
   ·exact zE
 (have XK:q=l.length:=by omega);subst XK;rw[List.take_length];refine bM ?_;exact fU rfl ⟨rfl,rfl,rfl⟩
theorem Qq (σ:PH) (x:St):Ao σ x:=by
 refine St.ind (P:=Ao σ) ?_ x;intro op v ex fx body cG ih jh cs b p n c e deep hx kI tZ Dt;obtain⟨pe,de,pf,df,pb,cb,pl,cl,rfl,-,-,iO,Aq,tK,vy⟩:=hx.BP;simp only[St.op,St.v,St.e,St.f,St.body,St.cG] at iO Aq tK vy⊢;clear hx;obtain⟨cells,dy⟩:∃l,l=[i64 op,i64 v,i64 ex.op,i64 ex.v,i64 ex.n,.slice pe ex.l.length de,i64 fx.op,i64 fx.v,i64 fx.n,.slice pf fx.l.length df,.slice pb body.length cb,.slice pl cG.length cl]:=⟨_,rfl⟩;obtain⟨ne,fW⟩:∃q,q=od ex:=⟨_,rfl⟩;obtain⟨nf,XL⟩:∃q,q=od fx:=⟨_,rfl⟩;obtain⟨A1,Wh⟩:∃A,A=(!dT op&&!ne):=⟨_,rfl⟩;obtain⟨A2,zk⟩:∃A,A=(!j6 op&&!nf):=⟨_,rfl⟩;obtain⟨A3,Wi⟩:∃A,A=(!qR op&&decide ((0:Int)<(body.length:Int))):=⟨_,rfl⟩;obtain⟨A4,Wj⟩:∃A,A=(!qS op&&decide ((0:Int)<(cG.length:Int))):=⟨_,rfl⟩;(have N3:pO op ex fx body.length cG.length=(((A1||A2)||A3)||A4):=by rw[Wh,zk,Wi,Wj,fW,XL];rfl);refine ob Tryz.func187 ?_;refine aN ?_;refine cN fun g4=>?_;refine bt ?_;refine yC (N1 σ b (.slice p n c) e deep kI) ?_
 cases cU:(e.one deep).isOk with
 |false=>
  obtain⟨c',EP⟩:=kH cU;(have hp:og n deep (.mk op v ex fx body cG) e=.error c':=by rw[og,fb,EP,jf,jf,uy,sq,gf,gf]);rw[EP,hp];refine bq ?_;refine bq ?_;exact N0 rfl ⟨rfl,rfl,rfl⟩
 |true=>
  have hd:=FB cU;refine bq ?_;refine bC ?_;refine az.join (List.take_append_drop 6 _).symm [(15,15),(18,23)] (fun _:Unit=>[(15,ptr b),(23,.bool (decide (op<1∨7<op)))]) (fun _ ag ah=>σ=ag∧ah=[aB b (.slice p n c) (e.one deep),au g4 cells 140]) ?_ ?_
  ·by_cases h1:op<1
   ·have hb:decide (op<1∨7<op)=true:=decide_eq_true (by omega);rw[hb];refine bC ?_;refine⟨cF,(),_,zM,?_,⟨rfl,rfl⟩⟩
    ·rw[dy];exact zE
   ·(have hb:decide (op<1∨7<op)=decide (7<op):=by rw[decide_eq_decide];omega);rw[hb];refine bC ?_;refine⟨cF,(),_,zM,?_,⟨rfl,rfl⟩⟩
    ·rw[dy];exact zE
  rintro-δ1 _ _ ⟨rfl,rfl⟩;dsimp only[eb,List.foldl];rw[dy];refine yC (gh σ b _ _ (decide (op<1∨7<op)) 2 (by decide)) ?_;refine aO ?_;refine yC (fJ σ op) ?_;refine cr ?_;obtain⟨E2,Du⟩:∃E,E=(e.one deep).fail (decide (op<1∨7<op)) 2:=⟨_,rfl⟩;rw[←Du,←dy];refine az.join (List.take_append_drop 10 _).symm [(34,43)] (fun _:Unit=>[(34,ptr b),(43,.bool A1)]) (fun _ ag ah=>σ=ag∧ah=[aB b (.slice p n c) E2,au g4 cells 140]) ?_ ?_
  ·rw[dy]
   cases hn:dT op with
   |true=>
    (have hb:A1=false:=by rw[Wh,hn];rfl);rw[hb];refine aO ?_;(first|refine zH ?_);refine b9 ?_;refine⟨cF,(),_,zM,?_,⟨rfl,rfl⟩⟩
    ·exact zE
   |false=>
    (have hb:A1=!ne:=by rw[Wh,hn];rfl);rw[hb];refine aO ?_;(first|refine az.wanted rfl rfl ?_|refine az.wq rfl rfl ?_);refine yC (Fz σ _ _ iO) ?_;rw[←fW];refine b9 ?_;refine⟨cF,(),_,zM,?_,⟨rfl,rfl⟩⟩
    ·exact zE
  rintro-N2 _ _ ⟨rfl,rfl⟩;dsimp only[eb,List.foldl];rw[dy];obtain⟨B2,ER⟩:∃A,A=(A1||A2):=⟨_,rfl⟩;rw[←dy];refine az.join (List.take_append_drop 10 _).symm [(34,34),(44,53)] (fun _:Unit=>[(34,ptr b),(53,.bool B2)]) (fun _ ag ah=>σ=ag∧ah=[aB b (.slice p n c) E2,au g4 cells 140]) ?_ ?_
  ·rw[dy]
   cases A1 with
   |true=>
    (have hb:B2=true:=by rw[ER];rfl);rw[hb];refine b9 ?_;(first|refine zH ?_);refine aO ?_;refine⟨cF,(),_,zM,?_,⟨rfl,rfl⟩⟩
    ·exact zE
   |false=>
    rw[Bool.false_or] at ER
    cases hn:j6 op with
    |true=>
     (have hb:B2=false:=by rw[ER,zk,hn];rfl);rw[hb];refine b9 ?_;(first|refine zH ?_);refine aO ?_;refine⟨cF,(),_,zM,?_,⟨rfl,rfl⟩⟩
     ·exact zE
    |false=>
     (have hb:B2=!nf:=by rw[ER,zk,hn];rfl);rw[hb];refine b9 ?_;(first|refine az.wanted rfl rfl ?_|refine az.wq rfl rfl ?_);refine yC (Fz σ _ _ Aq) ?_;rw[←XL];refine aO ?_;refine⟨cF,(),_,zM,?_,⟨rfl,rfl⟩⟩
     ·exact zE
  rintro-δ3 _ _ ⟨rfl,rfl⟩;dsimp only[eb,List.foldl];obtain⟨B3,SE⟩:∃A,A=(B2||A3):=⟨_,rfl⟩;refine az.join (List.take_append_drop 10 _).symm [(34,34),(54,63)] (fun _:Unit=>[(34,ptr b),(63,.bool B3)]) (fun _ ag ah=>σ=ag∧ah=[aB b (.slice p n c) E2,au g4 cells 140]) ?_ ?_
  ·rw[dy]
   cases hB:B2 with
   |true=>
    (have hb:B3=true:=by rw[SE,hB];rfl);rw[hb];refine bH ?_;refine⟨cF,(),_,zM,?_,⟨rfl,rfl⟩⟩
    ·exact zE
   |false=>
    rw[hB,Bool.false_or] at SE
    cases hn:qR op with
    |true=>
     (have hb:B3=false:=by rw[SE,Wi,hn];rfl);rw[hb];refine bH ?_;refine⟨cF,(),_,zM,?_,⟨rfl,rfl⟩⟩
     ·exact zE
    |false=>
     (have hb:B3=decide ((0:Int)<(body.length:Int)):=by rw[SE,Wi,hn];rfl);rw[hb];refine bH ?_;refine⟨cF,(),_,zM,?_,⟨rfl,rfl⟩⟩
     ·exact zE
  rintro-δ4 _ _ ⟨rfl,rfl⟩;dsimp only[eb,List.foldl];obtain⟨B4,SF⟩:∃A,A=(B3||A4):=⟨_,rfl⟩;refine az.join (List.take_append_drop 9 _).symm [(34,34),(64,72)] (fun _:Unit=>[(34,ptr b),(72,.bool B4)]) (fun _ ag ah=>σ=ag∧ah=[aB b (.slice p n c) E2,au g4 cells 140]) ?_ ?_
  ·rw[dy]
   cases hB:B3 with
   |true=>
    (have hb:B4=true:=by rw[SF,hB];rfl);rw[hb];refine cg ?_;refine⟨cF,(),_,zM,?_,⟨rfl,rfl⟩⟩
    ·exact zE
   |false=>
    rw[hB,Bool.false_or] at SF
    cases hn:qS op with
    |true=>
     (have hb:B4=false:=by rw[SF,Wj,hn];rfl);rw[hb];refine cg ?_;refine⟨cF,(),_,zM,?_,⟨rfl,rfl⟩⟩
     ·exact zE
    |false=>
     (have hb:B4=decide ((0:Int)<(cG.length:Int)):=by rw[SF,Wj,hn];rfl);rw[hb];refine cg ?_;refine⟨cF,(),_,zM,?_,⟨rfl,rfl⟩⟩
     ·exact zE
  rintro-δ5 _ _ ⟨rfl,rfl⟩;dsimp only[eb,List.foldl];rw[show B4=pO op ex fx body.length cG.length by rw[N3,SF,SE,ER],dy];refine yC (gh σ b _ _ (pO op ex fx body.length cG.length) 5 (by decide)) ?_;refine bC ?_;refine yC (BT σ b p n c _ v (qQ op)) ?_;obtain⟨H,hH⟩:∃H,H=fb n deep op v ex fx body.length cG.length e:=⟨_,rfl⟩;(have Wk:H.Fy:=by rw[hH];exact su (Down.fb n op v ex fx body.length cG.length) kI deep);rw[show JE.named (JE.fail E2 (pO op ex fx body.length cG.length) 5) n v (qQ op)=H by rw[hH,fb,Du]];(have N4:og n deep (.mk op v ex fx body cG) e=dL n (deep+1) cG (dL n (deep+1) body (oe n (deep+1) op ex fx H)):=by rw[og,hH]);rw[N4];clear N4 N3 SF SE ER Wh zk Wi Wj fW XL hH Du;rw[←dy];obtain⟨H1,XM⟩:∃H1,H1=if dT op then la n (deep+1) ex H else H:=⟨_,rfl⟩
  have XS:H1.Fy:=by
   rw[XM];split
   ·exact su (Down.la n ex) Wk (deep+1)
   ·exact Wk
  obtain⟨H2,XU⟩:∃H2,H2=oe n (deep+1) op ex fx H:=⟨_,rfl⟩;(have UF:H2.Fy:=by rw[XU];exact su (Down.oe n op ex fx) Wk (deep+1));have UG:=XM;(have UH:H2=if j6 op then la n (deep+1) fx H1 else H1:=by rw[XU,XM];rfl);rw[←XU];refine b9 ?_;refine az.join (List.take_append_drop 8 _).symm [(79,86)] (fun _:Unit=>[(86,.bool (dT op&&H.isOk))]) (fun _ ag ah=>σ=ag∧ah=[aB b (.slice p n c) H,au g4 cells 140]) ?_ ?_
  ·cases hn:dT op with
   |false=>
    rw[Bool.false_and];refine aW ?_;refine⟨cF,(),_,zM,?_,⟨rfl,rfl⟩⟩
    ·exact zE
   |true=>
    rw[Bool.true_and];refine bq ?_;(first|refine XA.aY (R:=aB b (.slice p n c) H) zL (aB.Ds) ?_|refine az.aY (R:=aB b (.slice p n c) H) zL (aB.Ds) ?_|refine DA.aY (R:=aB b (.slice p n c) H) zL (aB.Ds) ?_);rintro⟨l,cc⟩ ⟨Qr,hf⟩;(first|refine XA.cl ?_|refine az.cl ?_|refine DA.cl ?_);rw[←Qr];refine bt ?_;refine⟨cF,(),_,zM,?_,⟨rfl,rfl⟩⟩
    ·exact aw.e9 (Θ:=[_]) zD hf zE
  rintro-δ6 _ _ ⟨rfl,rfl⟩;dsimp only[eb,List.foldl];refine aN ?_;refine XA.join [(87,92)] (fun _:Unit=>[]) (fun _ ag ah=>σ=ag∧ah=[aB b (.slice p n c) H1,au g4 cells 140]) ?_ ?_
  ·refine XA.cond rfl (fun hq=>?_) (fun hq=>?_)
   ·(have XV:dT op=true∧H.isOk=true:=by simpa using hq);rw[dy];refine aO ?_;refine yC (FC σ ex _ b p n c H (deep+1) iO Wk (by omega) (by omega)) ?_;refine aN ?_;rw[show H1=la n (deep+1) ex H by rw[UG,if_pos XV.1]];refine⟨cF,(),_,zM,?_,⟨rfl,rfl⟩⟩
    ·exact zE
   ·have e1:H1=H:=by
     rw[UG];split
     ·rename_i hn;rw[hn,Bool.true_and] at hq;obtain⟨c',EP⟩:=kH hq;rw[EP,mf]
     ·rfl
    rw[e1];refine aN ?_;refine⟨cF,(),_,zM,?_,⟨rfl,rfl⟩⟩
    ·exact zE
  rintro-acI _ _ ⟨rfl,rfl⟩;dsimp only[eb,List.foldl];refine b3 ?_;refine bq ?_;refine az.join (List.take_append_drop 8 _).symm [(93,100)] (fun _:Unit=>[(100,.bool (j6 op&&H1.isOk))]) (fun _ ag ah=>σ=ag∧ah=[aB b (.slice p n c) H1,au g4 cells 140]) ?_ ?_
  ·cases hn:j6 op with
   |false=>
    rw[Bool.false_and];refine aW ?_;refine⟨cF,(),_,zM,?_,⟨rfl,rfl⟩⟩
    ·exact zE
   |true=>
    rw[Bool.true_and];refine bq ?_;(first|refine XA.aY (R:=aB b (.slice p n c) H1) zL (aB.Ds) ?_|refine az.aY (R:=aB b (.slice p n c) H1) zL (aB.Ds) ?_|refine DA.aY (R:=aB b (.slice p n c) H1) zL (aB.Ds) ?_);rintro⟨l,cc⟩ ⟨Qr,hf⟩;(first|refine XA.cl ?_|refine az.cl ?_|refine DA.cl ?_);rw[←Qr];refine bt ?_;refine⟨cF,(),_,zM,?_,⟨rfl,rfl⟩⟩
    ·exact aw.e9 (Θ:=[_]) zD hf zE
  rintro-δ7 _ _ ⟨rfl,rfl⟩;dsimp only[eb,List.foldl];refine aN ?_;refine XA.join [(101,106)] (fun _:Unit=>[]) (fun _ ag ah=>σ=ag∧ah=[aB b (.slice p n c) H2,au g4 cells 140]) ?_ ?_
  ·refine XA.cond rfl (fun hq=>?_) (fun hq=>?_)
   ·(have XV:j6 op=true∧H1.isOk=true:=by simpa using hq);rw[dy];refine aO ?_;refine yC (FC σ fx _ b p n c H1 (deep+1) Aq XS (by omega) (by omega)) ?_;refine aN ?_;rw[show H2=la n (deep+1) fx H1 by rw[UH,if_pos XV.1]];refine⟨cF,(),_,zM,?_,⟨rfl,rfl⟩⟩
    ·exact zE
   ·have e1:H2=H1:=by
     rw[UH];split
     ·rename_i hn;rw[hn,Bool.true_and] at hq;obtain⟨c',EP⟩:=kH hq;rw[EP,mf]
     ·rfl
    rw[e1];refine aN ?_;refine⟨cF,(),_,zM,?_,⟨rfl,rfl⟩⟩
    ·exact zE
  rintro-acJ _ _ ⟨rfl,rfl⟩;dsimp only[eb,List.foldl];refine b3 ?_;rw[dy];refine bt ?_;refine yC (Ap σ body ih _ b p n c H2 (deep+1) tK UF (by omega) (by omega)) ?_;refine bC ?_;refine yC (Ap σ cG jh _ b p n c _ (deep+1) vy (su (Down.dL n body) UF (deep+1)) (by omega) (by omega)) ?_;refine b3 ?_;exact fU rfl ⟨rfl,rfl,rfl⟩
theorem Kz (σ:PH) (g:Nat) (v w:Va):ae Tryz.prog 186 #[Wf w,ptr g] σ [au g [.string v.name,i64 v.size] 134] (aE fun r ag ah=>r=.bool (decide (w.name=v.name))∧σ=ag∧ah=[au g [.string v.name,i64 v.size] 134]):=by
 unfold Wf;(refine bS Tryz.func186 ?_;refine aN ?_;refine cN fun g2=>?_;refine a8 ?_;refine zO rfl (Rd.eE rfl rfl) ?_;refine bM ?_);exact b8 rfl rfl ⟨rfl,rfl,rfl⟩
theorem Ar (σ:PH) (g:Nat) (v:Va) (sl:Value) (l:List Va) (hl:bO 2 tU σ sl l):ae Tryz.prog 216 #[sl,.func (.func 186) #[] #[ptr g]] σ [au g [.string v.name,i64 v.size] 134] (aE fun r ag ah=>∃k:Int,r=i64 k∧(0≤k↔∃w∈l,w.name=v.name)∧σ=ag∧ah=[au g [.string v.name,i64 v.size] 134]):=by
 obtain⟨pl,cl,rfl,hle,EO⟩:=hl.shape;(have hlen:l.length≤maxLen:=by omega);simp only[maxLen] at hlen;(refine bS Tryz.func216 ?_;refine dJ ?_;refine XA.gen [(0,_),(1,_),(4,_),(7,_),(8,_)] jN fun δ=>?_);dsimp only[List.foldl];refine XA.loop [(4,5),(8,18)] (fun k:Nat=>[(8,i64 k)]) (fun k ag ah=>σ=ag∧k≤l.length∧(∀(j:Nat) w,j<k→l[j]? =some w→w.name≠v.name)∧ah=[au g [.string v.name,i64 v.size] 134]) (fun k=>l.length-k) 0 (by exact⟨rfl,trivial⟩) (Δ0:=_) ?_ (⟨rfl,Nat.zero_le _,fun j w h=>absurd h (Nat.not_lt_zero _),rfl⟩) ?_
 ·exact zE
 rintro k δ _ _ ⟨rfl,hk,bF,rfl⟩;dsimp only[eb,List.foldl];refine aO ?_;refine XA.bI rfl (fun aT=>?_) (fun aT=>?_)
 ·(have aT:k<l.length:=by omega);obtain⟨x',mh⟩:∃x',l[k]? =some x':=⟨_,List.getElem?_eq_getElem aT⟩;obtain⟨gg,o,row,rfl,⟨rfl,-,-⟩,rC,bL⟩:=hl.at mh;refine dE ?_;refine zw rfl (aC.cV (first:=[]) (cap:=[ptr g]) rfl (Kz σ g v x') rfl) ?_;rintro _ _ _ ⟨_,⟨rfl,rfl,rfl⟩,rfl⟩;refine az.cl ?_;refine aN ?_;refine XA.bI rfl (fun hc=>?_) (fun hc=>?_)
  ·refine bH ?_;exact b8 rfl rfl ⟨(k:Int),rfl,⟨fun _=>⟨x',List.mem_of_getElem? mh,hc⟩,fun _=>by omega⟩,rfl,rfl⟩
  ·have fI:∀(j:Nat) w,j<k+1→l[j]? =some w→w.name≠v.name:=fun j w hj hw=>by
    rcases Nat.lt_or_ge j k with h|h
    ·exact bF j w h hw
    ·(have:j=k:=by omega);subst this;rw[mh] at hw;simp only[Option.some.injEq] at hw;subst hw;exact hc
   refine bC ?_;refine⟨cF,k+1,_,zM,?_,⟨rfl,aT,fI,rfl⟩,(by omega)⟩
   ·exact zE
 (have tJ:k=l.length:=by omega);subst tJ;refine cg ?_;refine b8 rfl rfl ⟨-1,rfl,⟨fun h=>absurd h (by decide),fun⟨w,hw,e⟩=>?_⟩,rfl,rfl⟩;obtain⟨j,hj,e2⟩:=List.mem_iff_getElem.1 hw;exact absurd e (bF j w hj (by rw[List.getElem?_eq_getElem hj,e2]))
theorem ua (σ:PH) (g:Nat) (v:Va) (sl:Value) (l:List Va) (hl:bO 2 tU σ sl l):ae Tryz.prog 185 #[sl,.func (.func 186) #[] #[ptr g]] σ [au g [.string v.name,i64 v.size] 134] (aE fun r ag ah=>r=.bool (decide (∃w∈l,w.name=v.name))∧σ=ag∧ah=[au g [.string v.name,i64 v.size] 134]):=by
 refine bS Tryz.func185 ?_;refine a8 ?_;refine zw rfl (aC.cE (Ar σ g v sl l hl) rfl) ?_;rintro _ _ _ ⟨_,⟨k,rfl,hk,rfl,rfl⟩,rfl⟩;refine az.cl ?_;refine b9 ?_;exact b8 rfl rfl ⟨congrArg Value.bool (decide_eq_decide.2 hk),rfl,rfl⟩
end Go.Proofs.YtgeoiflbjcehcaaGreatDoor
