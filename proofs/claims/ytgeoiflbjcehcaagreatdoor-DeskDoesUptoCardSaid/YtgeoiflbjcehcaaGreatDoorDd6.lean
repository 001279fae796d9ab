import Derived.Test.YtgeoiflbjcehcaaGreatDoorDd5
set_option maxHeartbeats 4000000
set_option maxRecDepth 2000
set_option linter.unusedVariables false
set_option linter.unusedSimpArgs false
namespace Go.Proofs.YtgeoiflbjcehcaaGreatDoor
open Go X
def partsOf (op:Int):Int:=if op=1∨op=2 then 0 else if op=3 then 1 else if 4≤op∧op≤8 then 2 else-1
def dE (op:Int):Bool:=decide (op=1∨op=2∨op=3∨op=5∨op=6)
def fS (op:Int):Bool:=decide (op=2)
def k7 (op:Int):Bool:=decide (op=1∨op=2∨op=4)
def jw (op:Int):Bool:=decide (op=5∨op=6)
def jj (op:Int):Bool:=decide (op=6)
abbrev JE:=Except Int Int
def JE.fail (e:JE) (b:Bool) (c:Int):JE:=match e with|.ok l=>if b then .error c else .ok l|.error d=>.error d
def JE.one (e:JE) (deep:Int):JE:=match e with|.ok l=>if 12<deep then .error 4 else if l=0 then .error 3 else .ok (l-1)|.error d=>.error d
def JE.named (e:JE) (nv v:Int) (is:Bool):JE:=(e.fail (is&&decide (v<0∨nv≤v)) 1).fail (!is&&decide (v≠0)) 5
def ec (nv deep op v n:Int) (k:Nat) (e:JE):JE:=(((e.one deep).fail (decide (partsOf op<0)) 2).fail (decide ((k:Int)≠partsOf op∨(n≠0∧op≠1))) 5).named nv v (decide (op=2∨op=3))
mutual
def lT (nv:Int):Int→Ex→JE→JE
 |deep,.mk op v n l,e=>iD nv (deep+1) l (ec nv deep op v n l.length e)
def iD (nv:Int):Int→List Ex→JE→JE
 |_,[],e=>e
 |deep,x::l,e=>iD nv deep l (lT nv deep x e)
end
def j0 (x:Ex):Bool:=decide (x.op=0∧x.v=0∧x.n=0∧x.l.length=0)
def lU (op:Int) (e f:Ex) (kb ke:Nat):Bool:=(!dE op&&!j0 e)||(!fS op&&!j0 f)||(!jw op&&decide ((0:Int)<(kb:Int)))||(!jj op&&decide ((0:Int)<(ke:Int)))
def gh (nv deep op v:Int) (e f:Ex) (kb ke:Nat) (s:JE):JE:=(((s.one deep).fail (decide (op<1∨7<op)) 2).fail (lU op e f kb ke) 5).named nv v (k7 op)
def rN (nv deep op:Int) (e f:Ex) (s:JE):JE:=
 let s1:=if dE op then lT nv deep e s else s
 if fS op then lT nv deep f s1 else s1
mutual
def rO (nv:Int):Int→St→JE→JE
 |deep,.mk op v e f body dn,s=>ej nv (deep+1) dn (ej nv (deep+1) body (rN nv (deep+1) op e f (gh nv deep op v e f body.length dn.length s)))
def ej (nv:Int):Int→List St→JE→JE
 |_,[],s=>s
 |deep,x::l,s=>ej nv deep l (rO nv deep x s)
end
def dW (s:ByteArray):Bool:=decide ((∀i,i<s.size→97≤aJ s i∧aJ s i≤122)∧1≤s.size∧s.size≤8)
def sizes (l:List Va):Int:=(l.map (·.size)).sum
def gj (seen:List Va) (n:Int):List Va→Int
 |[]=>0
 |v::l=>if dW v.name=false then 8 else if ∃w∈seen,w.name=v.name then 9 else if v.size<1∨48-n<v.size then 1 else gj (seen++[v]) (n+v.size) l
def JE.code:JE→Int|.ok _=>0|.error c=>c
def checkVars (l:List Va):Int:=if 8<l.length then 3 else gj [] 0 l
def bZ (p:Pr):Int:=if checkVars p.vars≠0 then checkVars p.vars else (ej p.vars.length 0 p.body (.ok 150)).code
def cellOf (l:List Va) (v:Int):Int:=sizes (l.take v.toNat)
mutual
def uD:Ex→Nat
 |.mk _ _ _ l=>1+lV l
def lV:List Ex→Nat
 |[]=>0
 |x::l=>uD x+lV l
end
mutual
def Bq:St→Nat
 |.mk _ _ e f body dn=>1+uD e+uD f+fh body+fh dn
def fh:List St→Nat
 |[]=>0
 |x::l=>Bq x+fh l
end
theorem lj (x:Ex):1≤uD x:=by cases x;simp[uD]
theorem O9 (x:St):3≤Bq x:=by
 cases x with
 |mk op v e f b l=>have:=lj e;have:=lj f;simp only[Bq];omega
theorem xm:∀l:List Ex,l.length≤lV l
 |[]=>bX _
 |x::l=>by have:=xm l;have:=lj x;simp only[lV,bF];omega
theorem xp:∀l:List St,l.length*3≤fh l
 |[]=>bX _
 |x::l=>by have:=xp l;have:=O9 x;simp only[fh,bF];omega
theorem sX:∀(l m:List Ex),lV (l++m)=lV l+lV m
 |[],m=>by simp[lV]
 |x::l,m=>by have:=sX l m;simp only[List.cons_append,lV,this];omega
theorem pI:∀(l m:List St),fh (l++m)=fh l+fh m
 |[],m=>by simp[fh]
 |x::l,m=>by have:=pI l m;simp only[List.cons_append,fh,this];omega
@[simp] theorem iE (c:Int) (b:Bool) (d:Int):JE.fail (.error c) b d=.error c:=rfl
@[simp] theorem Ze (c d:Int):JE.one (.error c) d=.error c:=rfl
@[simp] theorem qA (c nv v:Int) (is:Bool):JE.named (.error c) nv v is=.error c:=rfl
@[simp] theorem j9 (e:JE) (d:Int):JE.fail e false d=e:=by cases e<;>rfl
@[simp] theorem Fy (nv deep op v n:Int) (k:Nat) (c:Int):ec nv deep op v n k (.error c)=.error c:=rfl
@[simp] theorem Fz (nv deep op v:Int) (e f:Ex) (kb ke:Nat) (c:Int):gh nv deep op v e f kb ke (.error c)=.error c:=rfl
theorem uE (nv c:Int):∀(l:List Ex),(∀x∈l,∀deep,lT nv deep x (.error c)=.error c)→∀deep,iD nv deep l (.error c)=.error c
 |[],_,_=>rfl
 |x::l,h,deep=>by rw[iD,h x aZ];exact uE nv c l (fun y hy=>h y (by simp[hy])) deep
@[simp] theorem oq (nv c:Int) (x:Ex):∀deep,lT nv deep x (.error c)=.error c:=by
 refine Ex.ind (P:=fun x=>∀deep,lT nv deep x (.error c)=.error c) ?_ x;intro op v n l ih deep;rw[lT,Fy];exact uE nv c l ih _
@[simp] theorem pJ (nv c:Int) (l:List Ex) (deep:Int):iD nv deep l (.error c)=.error c:=uE nv c l (fun x _=>oq nv c x) deep
@[simp] theorem xq (nv deep op:Int) (e f:Ex) (c:Int):rN nv deep op e f (.error c)=.error c:=by simp[rN]
theorem qC (nv c:Int):∀(l:List St),(∀x∈l,∀deep,rO nv deep x (.error c)=.error c)→∀deep,ej nv deep l (.error c)=.error c
 |[],_,_=>rfl
 |x::l,h,deep=>by rw[ej,h x aZ];exact qC nv c l (fun y hy=>h y (by simp[hy])) deep
@[simp] theorem G8 (nv c:Int) (x:St):∀deep,rO nv deep x (.error c)=.error c:=by
 refine St.ind (P:=fun x=>∀deep,rO nv deep x (.error c)=.error c) ?_ x;intro op v e f body dn ih jh deep;rw[rO,Fz,xq,qC nv c body ih,qC nv c dn jh]
@[simp] theorem gY (nv c:Int) (l:List St) (deep:Int):ej nv deep l (.error c)=.error c:=qC nv c l (fun x _=>G8 nv c x) deep
theorem xr (nv deep:Int):∀(l m:List Ex) (s:JE),iD nv deep (l++m) s=iD nv deep m (iD nv deep l s)
 |[],_,_=>rfl
 |x::l,m,s=>by rw[List.cons_append,iD,iD,xr nv deep l m]
theorem xt (nv deep:Int):∀(l m:List St) (s:JE),ej nv deep (l++m) s=ej nv deep m (ej nv deep l s)
 |[],_,_=>rfl
 |x::l,m,s=>by rw[List.cons_append,ej,ej,xt nv deep l m]
theorem Ae (nv deep:Int) (l:List Ex) (k:Nat) (x:Ex) (s:JE) (h:l[k]? =some x):iD nv deep (l.take (k+1)) s=lT nv deep x (iD nv deep (l.take k) s):=by
 rw[List.take_add_one,h];simp[xr,iD]
theorem Af (nv deep:Int) (l:List St) (k:Nat) (x:St) (s:JE) (h:l[k]? =some x):ej nv deep (l.take (k+1)) s=rO nv deep x (ej nv deep (l.take k) s):=by
 rw[List.take_add_one,h];simp[xt,ej]
theorem rP (l:List Va) (k:Nat) (x:Va) (h:l[k]? =some x):sizes (l.take (k+1))=sizes (l.take k)+x.size:=by
 rw[List.take_add_one,h];simp[sizes,List.sum_append]
structure Down (F:Int→JE→JE):Prop where
 err:∀d c,F d (.error c)=.error c
 ok:∀d a b,0≤a→F d (.ok a)=.ok b→0≤b∧b≤a∧∀d' a',d'≤d→a≤a'→F d' (.ok a')=.ok (a'-a+b)
 nz:∀d a c,F d (.ok a)=.error c→c≠0
theorem Down.id:Down fun _ e=>e:=⟨fun _ _=>rfl,fun d a b h e=>by
 simp only[Except.ok.injEq] at e;subst e
 exact⟨h,Int.le_refl _,fun d' a' _ _=>by simp⟩,fun _ _ _ e=>by cases e⟩
theorem Down.comp {F G:Int→JE→JE} (hF:Down F) (hG:Down G):Down fun d e=>G d (F d e):=by
 refine⟨fun d c=>by rw[hF.err,hG.err],fun d a b h e=>?_,fun d a c e=>?_⟩
 ·cases hf:F d (.ok a) with
  |error c=>rw[hf,hG.err] at e;cases e
  |ok m=>
   rw[hf] at e;obtain⟨h1,h2,h3⟩:=hF.ok d a m h hf;obtain⟨g1,g2,g3⟩:=hG.ok d m b h1 e;refine⟨g1,ad,fun d' a' hd ha=>?_⟩;rw[h3 d' a' hd ha,g3 d' _ hd ad];congr 1;omega
 ·cases hf:F d (.ok a) with
  |error c'=>rw[hf,hG.err] at e;simp only[Except.error.injEq] at e;subst e;exact hF.nz _ _ _ hf
  |ok m=>rw[hf] at e;exact hG.nz _ _ _ e
theorem Down.shift {F:Int→JE→JE} (hF:Down F):Down fun d e=>F (d+1) e:=
 ⟨fun d c=>hF.err _ _,fun d a b h e=>by
  obtain⟨h1,h2,h3⟩:=hF.ok _ _ _ h e
  exact⟨h1,h2,fun d' a' hd ha=>h3 _ _ ad ha⟩,fun d a c e=>hF.nz _ _ _ e⟩
theorem Down.fail (b:Bool) {c:Int} (hc:c≠0):Down fun _ e=>JE.fail e b c:=by
 cases b with
 |false=>simpa using Down.id
 |true=>exact⟨fun _ _=>rfl,fun d a b h e=>by simp[JE.fail] at e,fun d a c' e=>by simp[JE.fail] at e;subst e;exact hc⟩
theorem Down.one:Down fun d e=>JE.one e d:=by
 refine⟨fun _ _=>rfl,fun d a b h e=>?_,fun d a c e=>?_⟩
 ·simp only[JE.one] at e;split at e
  ·cases e
  ·split at e
   ·cases e
   ·simp only[Except.ok.injEq] at e;subst e;refine⟨ad,ad,fun d' a' hd ha=>?_⟩;simp only[JE.one];rw[ag ad,ag ad];congr 1;omega
 ·simp only[JE.one] at e;split at e
  ·simp only[Except.error.injEq] at e;omega
  ·split at e
   ·simp only[Except.error.injEq] at e;omega
   ·cases e
theorem Down.named (nv v:Int) (is:Bool):Down fun _ e=>JE.named e nv v is:=(Down.fail _ au).comp (Down.fail _ au)
theorem Down.ec (nv op v n:Int) (k:Nat):Down fun d e=>ec nv d op v n k e:=((Down.one.comp (Down.fail _ au)).comp (Down.fail _ au)).comp (Down.named _ _ _)
theorem Down.Lg (nv:Int):∀(l:List Ex),(∀x∈l,Down fun d e=>lT nv d x e)→Down fun d e=>iD nv d l e
 |[],_=>by simpa[Go.Proofs.YtgeoiflbjcehcaaGreatDoor.iD] using Down.id
 |x::l,h=>by
  have:=(h x aZ).comp (Down.Lg nv l (fun y hy=>h y (by simp[hy])));simpa[Go.Proofs.YtgeoiflbjcehcaaGreatDoor.iD] using this
theorem Down.lT (nv:Int) (x:Ex):Down fun d e=>lT nv d x e:=by
 refine Ex.ind (P:=fun x=>Down fun d e=>Go.Proofs.YtgeoiflbjcehcaaGreatDoor.lT nv d x e) ?_ x;intro op v n l ih;have:=(Down.ec nv op v n l.length).comp (Down.Lg nv l ih).shift;simpa[Go.Proofs.YtgeoiflbjcehcaaGreatDoor.lT] using this
theorem Down.iD (nv:Int) (l:List Ex):Down fun d e=>Go.Proofs.YtgeoiflbjcehcaaGreatDoor.iD nv d l e:=Down.Lg nv l (fun x _=>Down.lT nv x)
theorem Down.rN (nv op:Int) (e f:Ex):Down fun d s=>rN nv d op e f s:=by
 unfold Go.Proofs.YtgeoiflbjcehcaaGreatDoor.rN;by_cases h1:dE op=true<;>by_cases h2:fS op=true<;>simp only[h1,h2]
 ·exact(Down.lT nv e).comp (Down.lT nv f)
 ·exact Down.lT nv e
 ·exact Down.lT nv f
 ·exact Down.id
theorem Down.gh (nv op v:Int) (e f:Ex) (kb ke:Nat):Down fun d s=>gh nv d op v e f kb ke s:=((Down.one.comp (Down.fail _ au)).comp (Down.fail _ au)).comp (Down.named _ _ _)
theorem Down.G9 (nv:Int):∀(l:List St),(∀x∈l,Down fun d e=>rO nv d x e)→Down fun d e=>ej nv d l e
 |[],_=>by simpa[Go.Proofs.YtgeoiflbjcehcaaGreatDoor.ej] using Down.id
 |x::l,h=>by
  have:=(h x aZ).comp (Down.G9 nv l (fun y hy=>h y (by simp[hy])));simpa[Go.Proofs.YtgeoiflbjcehcaaGreatDoor.ej] using this
theorem Down.rO (nv:Int) (x:St):Down fun d e=>rO nv d x e:=by
 refine St.ind (P:=fun x=>Down fun d e=>Go.Proofs.YtgeoiflbjcehcaaGreatDoor.rO nv d x e) ?_ x;intro op v e f body dn ih jh;have:=(((Down.gh nv op v e f body.length dn.length).comp (Down.rN nv op e f).shift).comp (Down.G9 nv body ih).shift).comp (Down.G9 nv dn jh).shift;simpa[Go.Proofs.YtgeoiflbjcehcaaGreatDoor.rO] using this
theorem Down.ej (nv:Int) (l:List St):Down fun d e=>ej nv d l e:=Down.G9 nv l (fun x _=>Down.rO nv x)
theorem Pa {nv:Int}:∀{l:List St} {x:St} (_:x∈l) {d a b:Int},0≤a→Go.Proofs.YtgeoiflbjcehcaaGreatDoor.ej nv d l (.ok a)=.ok b→∃a1 b1,0≤a1∧a1≤a∧Go.Proofs.YtgeoiflbjcehcaaGreatDoor.rO nv d x (.ok a1)=.ok b1
 |y::l,x,hm,d,a,b,h0,e=>by
  rw[Go.Proofs.YtgeoiflbjcehcaaGreatDoor.ej] at e
  cases hx:Go.Proofs.YtgeoiflbjcehcaaGreatDoor.rO nv d y (.ok a) with
  |error c=>rw[hx,gY] at e;cases e
  |ok m=>
   rw[hx] at e;obtain⟨h1,h2,-⟩:=(Down.rO nv y).ok d a m h0 hx;simp only[List.mem_cons] at hm;rcases hm with rfl|hm
   ·exact⟨a,m,h0,Int.le_refl _,hx⟩
   ·obtain⟨a1,b1,k1,k2,k3⟩:=Pa hm h1 e;exact⟨a1,b1,k1,ad,k3⟩
theorem Jg {e:JE} (hn:∀c,e=.error c→c≠0) (h:e.code=0):∃b,e=.ok b:=by
 cases e with
 |ok b=>exact⟨b,rfl⟩
 |error c=>exact absurd h (hn c rfl)
theorem Lh {p:Pr} (h:bZ p=0):checkVars p.vars=0∧∃b,Go.Proofs.YtgeoiflbjcehcaaGreatDoor.ej p.vars.length 0 p.body (.ok 150)=.ok b:=by
 unfold bZ at h;split at h
 ·exact absurd h (by assumption)
 ·rename_i hv;exact⟨by simpa using hv,Jg (fun c hc=>(Down.ej _ p.body).nz _ _ _ hc) h⟩
theorem ot (x:Va) (l:List Va):sizes (x::l)=x.size+sizes l:=by simp[sizes]
theorem Jh (l m:List Va):sizes (l++m)=sizes l+sizes m:=by simp[sizes,List.sum_append]
theorem Ha:∀(l seen:List Va) (n:Int),n≤48→gj seen n l=0→(∀x∈l,1≤x.size)∧n+sizes l≤48
 |[],_,n,hn,_=>by simp[sizes];exact hn
 |x::l,seen,n,hn,h=>by
  rw[gj] at h;split at h
  ·cases h
  ·split at h
   ·cases h
   ·split at h
    ·cases h
    ·obtain⟨h1,h2⟩:=Ha l _ _ ad h;refine⟨fun y hy=>?_,by rw[ot];omega⟩;simp only[List.mem_cons] at hy;rcases hy with rfl|hy
     ·omega
     ·exact h1 y hy
theorem C9 {l:List Va} (h:checkVars l=0):l.length≤8∧(∀x∈l,1≤x.size)∧sizes l≤48:=by
 unfold checkVars at h;split at h
 ·cases h
 ·obtain⟨h1,h2⟩:=Ha l [] 0 au h;exact⟨ad,h1,ad⟩
theorem ef:∀{l:List Va},(∀x∈l,1≤x.size)→0≤sizes l
 |[],_=>Int.le_refl _
 |x::l,h=>by have:=ef (l:=l) (fun y hy=>h y (by simp[hy]));have:=h x aZ;rw[ot];omega
theorem Da {l:List Va} (h:∀x∈l,1≤x.size) (v:Nat):0≤sizes (l.take v)∧sizes (l.take v)≤sizes l:=by
 refine⟨ef (fun y hy=>h y (List.mem_of_mem_take hy)),?_⟩;(have h1:sizes l=sizes (l.take v)+sizes (l.drop v):=by rw[←Jh,List.take_append_drop]);have:=ef (l:=l.drop v) (fun y hy=>h y (List.mem_of_mem_drop hy));omega
theorem ox (σ:PH) (op:Int):ah Tryz.prog 231 #[i64 op] σ [] (aA fun v aj al=>v=i64 (partsOf op)∧σ=aj∧al=[]):=by
 by_cases h0:op<1
 ·refine cM Tryz.func231 ?_;refine rb ?_;refine ao.ret (aB.one rfl rfl) (ar.refl _) ⟨?_,rfl,rfl⟩;rw[partsOf,ag ad,ag ad,ag ad]
 ·refine cM Tryz.func231 ?_;refine dC ?_;refine XA.bE rfl (fun h1=>?_) (fun h1=>?_)
  ·refine bg ?_;refine ao.ret (aB.one rfl rfl) (ar.refl _) ⟨?_,rfl,rfl⟩;rw[partsOf,ag ad,ag ad,ag ad]
  have uF:op=1∨op=2∨op=3∨op=4∨op=5∨op=6∨op=7∨op=8:=by omega
  have Om:(List.toArray [i64 0,i64 0,i64 0,i64 1,i64 2,i64 2,i64 2,i64 2,i64 2])[op.toNat]? =some (i64 (partsOf op)):=by
   rcases uF with rfl|rfl|rfl|rfl|rfl|rfl|rfl|rfl<;>rfl
  refine bY ?_;refine zO rfl (Rd.Bj (cs:=[i64 0,i64 0,i64 0,i64 1,i64 2,i64 2,i64 2,i64 2,i64 2]) (fun _ _=>ae) rfl rfl rfl rfl aC) ?_;refine bS ?_;refine zO rfl (by apply Rd.sJ;exact ae rfl;rfl;exact ae rfl;rfl;rfl;rfl;rfl;exact ad;exact Om) ?_;refine bY ?_;exact ao.ret (aB.one rfl rfl) (ar.refl _) ⟨rfl,rfl,rfl⟩
theorem FA (σ:PH) (s:ByteArray) (hs:s.size≤maxLen):ah Tryz.prog 184 #[.string s] σ [] (aA fun v aj al=>v=.bool (dW s)∧σ=aj∧al=[]):=by
 simp only[maxLen] at hs;(refine cM Tryz.func184 ?_;refine eA ?_;refine XA.gen [(0,_),(2,_),(5,_),(6,_)] iX fun δ=>?_);dsimp only[List.foldl];refine XA.loop [(2,3),(6,19)] (fun k:Nat=>[(6,i64 k)]) (fun k aj al=>σ=aj∧k≤s.size∧(∀i,i<k→97≤aJ s i∧aJ s i≤122)∧al=[]) (fun k=>s.size-k) 0 eb (Δ0:=_) ?_ (⟨rfl,cg _,by intro i hi;omega,rfl⟩) ?_
 ·exact zE
 rintro k δ _ _ ⟨rfl,hk,bu,rfl⟩;dsimp only[dq,List.foldl];refine a8 ?_;refine XA.bE rfl (fun aV=>?_) (fun aV=>?_)
 ·(have aV:k<s.size:=by omega);have hb:=jv s k;by_cases h1:aJ s k<97
  ·refine eA ?_;refine zO rfl (Rd.bh (ae rfl) rfl rfl rfl gD) ?_;refine bY ?_;(first|(refine zG ?_;refine zO rfl (Rd.bh (ae rfl) rfl rfl rfl gD) ?_)|refine zH ?_);refine dC ?_;refine ao.ret (aB.one rfl rfl) (ar.refl _) ⟨?_,rfl,rfl⟩;have:dW s=false:=aE (fun h=>by have:=h.1 k aV;omega);rw[this]
  ·refine eA ?_;refine zO rfl (Rd.bh (ae rfl) rfl rfl rfl gD) ?_;refine bY ?_;(first|(refine zG ?_;refine zO rfl (Rd.bh (ae rfl) rfl rfl rfl gD) ?_)|refine zH ?_);refine bY ?_;refine XA.bE rfl (fun h2=>?_) (fun h2=>?_)
   ·refine cp ?_;refine ao.ret (aB.one rfl rfl) (ar.refl _) ⟨?_,rfl,rfl⟩;have:dW s=false:=aE (fun h=>by have:=h.1 k aV;omega);rw[this]
   have eR:∀i,i<k+1→97≤aJ s i∧aJ s i≤122:=fun i hi=>by
    rcases Nat.lt_or_ge i k with h|h
    ·exact bu i h
    ·(have:i=k:=by omega);subst this;omega
   refine bJ ?_;refine⟨bQ,k+1,_,zM,?_,⟨rfl,aV,eR,rfl⟩,ad⟩
   ·exact zE
 (have sC:k=s.size:=by omega);subst sC;by_cases h0:s.size=0
 ·have hz:s=⟨#[]⟩:=ByteArray.ext (Array.eq_empty_of_size_eq_zero h0);subst hz;refine bJ ?_;refine zO rfl (Rd.neqs rfl rfl) ?_;refine bt ?_;exact ao.ret (aB.one rfl rfl) (ar.refl _) ⟨rfl,rfl,rfl⟩
 ·(have hz:s≠⟨#[]⟩:=fun e=>h0 (by rw[e];rfl));refine bJ ?_;refine zO rfl (Rd.neqs rfl rfl) ?_;refine bt ?_;refine ao.ret (aB.one rfl rfl) (ar.refl _) ⟨?_,rfl,rfl⟩
  have:dW s=decide ((s.size:Int)≤8):=by
   unfold dW;rw[decide_eq_decide];constructor
   ·intro h;omega
   ·intro h;exact⟨bu,ad,ad⟩
  rw[this]
def aD (b:Nat) (vs:Value) (e:JE):HP:=fun m=>∃l c,aw b [vs,i64 l,i64 c] 233 m∧match e with|.ok l'=>l=l'∧c=0|.error d=>c=d∧c≠0
theorem zk {R:HP} {m:PH} (h:R m):Sat [R] m:=⟨m,PH.none,h,trivial,PH.ez m,.refl m,PH.gL m⟩
theorem lk {R:HP} {m:PH} (mono:∀m m',R m→m.sub m'→R m') (h:Sat [R] m):R m:=by
 obtain⟨m1,m2,a,-,-,b,-⟩:=h;exact mono _ _ a b
theorem jF {g:Nat} {l:List Value} {T:TypeId}:∀m m',aw g l T m→PH.sub m m'→aw g l T m':=fun _ _ h s=>s _ _ h
theorem aD.ll {b:Nat} {vs:Value} {l:Int}:∀m,aD b vs (.ok l) m→∃_:Unit,True∧Sat [aw b [vs,i64 l,i64 0] 233] m:=by
 rintro m ⟨l',c,h,rfl,rfl⟩;exact⟨(),trivial,zk h⟩
theorem aD.fT {b:Nat} {vs:Value} {c:Int}:∀m,aD b vs (.error c) m→∃l:Int,c≠0∧Sat [aw b [vs,i64 l,i64 c] 233] m:=by
 rintro m ⟨l',c',h,rfl,h0⟩;exact⟨l',h0,zk h⟩
theorem aD.Hb {b:Nat} {vs:Value} {l:Int}:∀m,Sat [aw b [vs,i64 l,i64 0] 233] m→aD b vs (.ok l) m:=fun m h=>⟨l,0,lk jF h,rfl,rfl⟩
theorem aD.Ag {b:Nat} {vs:Value} {l c:Int} (h0:c≠0):∀m,Sat [aw b [vs,i64 l,i64 c] 233] m→aD b vs (.error c) m:=fun m h=>⟨l,c,lk jF h,rfl,h0⟩
theorem jG (σ:PH) (b:Nat) (vs:Value) (e:JE) (is:Bool) (c:Int) (hc:c≠0):
 ah Tryz.prog 218 #[ptr b,.bool is,i64 c] σ [aD b vs e] (aA fun v aj al=>v=.tuple #[]∧σ=aj∧al=[aD b vs (e.fail is c)]):=by
 cases is with
 |false=>
  refine lS Tryz.func218 ?_;refine eA ?_;exact ao.normal (aB.none rfl) (ar.refl _) ⟨rfl,rfl,by rw[j9]⟩
 |true=>
  cases e with
  |ok l=>
   refine lS Tryz.func218 ?_;refine dc ?_;(first|refine XA.aW (R:=aD b vs (.ok l)) zL (aD.ll) ?_|refine az.aW (R:=aD b vs (.ok l)) zL (aD.ll) ?_|refine DA.aW (R:=aD b vs (.ok l)) zL (aD.ll) ?_);rintro⟨⟩-;refine gX ?_;refine dh ?_;exact ao.normal (aB.none rfl) (ar.eS zE (aD.Ag hc)) ⟨rfl,rfl,rfl⟩
  |error d=>
   refine lS Tryz.func218 ?_;refine dc ?_;(first|refine XA.aW (R:=aD b vs (.error d)) zL (aD.fT) ?_|refine az.aW (R:=aD b vs (.error d)) zL (aD.fT) ?_|refine DA.aW (R:=aD b vs (.error d)) zL (aD.fT) ?_);rintro l h0;refine gX ?_;refine bg ?_;refine XA.aI rfl (aE h0) ?_;refine bS ?_;exact ao.normal (aB.none rfl) (ar.eS zE (aD.Ag h0)) ⟨rfl,rfl,rfl⟩
theorem Db (l c:Int):JE.fail (.ok l) true c=.error c:=rfl
def JE.isOk:JE→Bool|.ok _=>true|.error _=>false
def JE.Ah (e:JE):Prop:=∀l,e=.ok l→0≤l∧l≤150
theorem Re (σ:PH) (b:Nat) (vs:Value) (e:JE) (deep:Int) (hl:e.Ah):
 ah Tryz.prog 217 #[ptr b,i64 deep] σ [aD b vs e] (aA fun v aj al=>v=.bool (e.one deep).isOk∧σ=aj∧al=[aD b vs (e.one deep)]):=by
 refine cw Tryz.func217 ?_;refine aR ?_;refine yC (jG σ b vs e (decide (12<deep)) 4 au) ?_
 cases e with
 |error c=>
  rw[iE];refine a8 ?_;(first|refine XA.aW (R:=aD b vs (.error c)) zL (aD.fT) ?_|refine az.aW (R:=aD b vs (.error c)) zL (aD.fT) ?_|refine DA.aW (R:=aD b vs (.error c)) zL (aD.fT) ?_);rintro l h0;refine gX ?_;refine bY ?_;refine az.eX (Δ:=[aD b vs (.error c)]) (ar.eS zE (aD.Ag h0)) ?_;refine yC (jG σ b vs (.error c) (decide (l=0)) 3 au) ?_;rw[iE];refine dc ?_;(first|refine XA.aW (R:=aD b vs (.error c)) zL (aD.fT) ?_|refine az.aW (R:=aD b vs (.error c)) zL (aD.fT) ?_|refine DA.aW (R:=aD b vs (.error c)) zL (aD.fT) ?_);rintro l2 h2;refine gX ?_;refine mI ?_;refine ao.ret (aB.one rfl rfl) (ar.eS zE (aD.Ag h0)) ⟨?_,rfl,rfl⟩;rw[aE h0];rfl
 |ok l=>
  obtain⟨l0,l1⟩:=hl l rfl;by_cases hd:12<deep
  ·rw[aM hd,Db];refine a8 ?_;(first|refine XA.aW (R:=aD b vs (.error 4)) zL (aD.fT) ?_|refine az.aW (R:=aD b vs (.error 4)) zL (aD.fT) ?_|refine DA.aW (R:=aD b vs (.error 4)) zL (aD.fT) ?_);rintro l2-;refine gX ?_;refine bY ?_;refine az.eX (Δ:=[aD b vs (.error 4)]) (ar.eS zE (aD.Ag au)) ?_;refine yC (jG σ b vs (.error 4) (decide (l2=0)) 3 au) ?_;rw[iE];refine dc ?_;(first|refine XA.aW (R:=aD b vs (.error 4)) zL (aD.fT) ?_|refine az.aW (R:=aD b vs (.error 4)) zL (aD.fT) ?_|refine DA.aW (R:=aD b vs (.error 4)) zL (aD.fT) ?_);rintro l3-;refine gX ?_;refine mI ?_;refine ao.ret (aB.one rfl rfl) (ar.eS (Γ:=_) (Θ:=[aw b [vs,_,i64 4] 233]) zE (aD.Ag au)) ⟨?_,rfl,?_⟩
   ·simp[JE.one,hd,JE.isOk]
   ·simp[JE.one,hd]
  ·rw[aE hd,j9];refine a8 ?_;(first|refine XA.aW (R:=aD b vs (.ok l)) zL (aD.ll) ?_|refine az.aW (R:=aD b vs (.ok l)) zL (aD.ll) ?_|refine DA.aW (R:=aD b vs (.ok l)) zL (aD.ll) ?_);rintro⟨⟩-;refine gX ?_;refine bY ?_;refine az.eX (Δ:=[aD b vs (.ok l)]) (ar.eS zE aD.Hb) ?_;refine yC (jG σ b vs (.ok l) (decide (l=0)) 3 au) ?_;by_cases h0:l=0
   ·rw[aM h0,Db];refine dc ?_;(first|refine XA.aW (R:=aD b vs (.error 3)) zL (aD.fT) ?_|refine az.aW (R:=aD b vs (.error 3)) zL (aD.fT) ?_|refine DA.aW (R:=aD b vs (.error 3)) zL (aD.fT) ?_);rintro l3-;refine gX ?_;refine mI ?_;refine ao.ret (aB.one rfl rfl) (ar.eS (Γ:=_) (Θ:=[aw b [vs,_,i64 3] 233]) zE (aD.Ag au)) ⟨?_,rfl,?_⟩
    ·simp[JE.one,hd,h0,JE.isOk]
    ·simp[JE.one,hd,h0]
   ·rw[aE h0,j9];refine dc ?_;(first|refine XA.aW (R:=aD b vs (.ok l)) zL (aD.ll) ?_|refine az.aW (R:=aD b vs (.ok l)) zL (aD.ll) ?_|refine DA.aW (R:=aD b vs (.ok l)) zL (aD.ll) ?_);rintro⟨⟩-;refine gX ?_;refine mI ?_;refine ao.ret (aB.one rfl rfl) (ar.eS (Θ:=[aw b [vs,i64 (l-1),i64 0] 233]) zE aD.Hb) ⟨?_,rfl,?_⟩
    ·simp[JE.one,hd,h0,JE.isOk]
    ·simp[JE.one,hd,h0]
theorem aD.any {b:Nat} {vs:Value} {e:JE}:∀m,aD b vs e m→∃x:Int×Int,(∀m',Sat [aw b [vs,i64 x.1,i64 x.2] 233] m'→aD b vs e m')∧Sat [aw b [vs,i64 x.1,i64 x.2] 233] m:=by
 rintro m ⟨l',c,h,h0⟩;exact⟨(l',c),fun m' h'=>⟨l',c,lk jF h',h0⟩,zk h⟩
theorem aD.zl {b:Nat} {vs:Value} {e:JE}:∀m,aD b vs e m→∃x:Int×Int,(decide (x.2=0)=e.isOk∧∀m',Sat [aw b [vs,i64 x.1,i64 x.2] 233] m'→aD b vs e m')∧Sat [aw b [vs,i64 x.1,i64 x.2] 233] m:=by
 rintro m ⟨l',c,h,h0⟩;refine⟨(l',c),⟨?_,fun m' h'=>⟨l',c,lk jF h',h0⟩⟩,zk h⟩
 cases e with
 |ok l=>obtain⟨-,rfl⟩:=h0;rfl
 |error d=>obtain⟨-,h0⟩:=h0;exact aE h0
theorem Hc (σ:PH) (b:Nat) (p:Option Addr) (n c:Nat) (e:JE) (v:Int) (is:Bool):
 ah Tryz.prog 220 #[ptr b,i64 v,.bool is] σ [aD b (.slice p n c) e] (aA fun r aj al=>r=.tuple #[]∧σ=aj∧al=[aD b (.slice p n c) (e.named n v is)]):=by
 cases is with
 |false=>
  refine lS Tryz.func220 ?_;refine dV ?_;refine yC (jG σ b _ e false 1 au) ?_;refine aR ?_;refine yC (jG σ b _ _ (decide (v≠0)) 5 au) ?_;refine bS ?_;exact ao.normal (aB.none rfl) (ar.refl _) ⟨rfl,rfl,rfl⟩
 |true=>
  by_cases h0:v<0
  ·refine lS Tryz.func220 ?_;refine dV ?_;refine yC (jG σ b _ e true 1 au) ?_;refine aR ?_;refine yC (jG σ b _ _ false 5 au) ?_;refine bS ?_;refine ao.normal (aB.none rfl) (ar.refl _) ⟨rfl,rfl,?_⟩;have:decide (v<0∨(n:Int)≤v)=true:=aM (Or.inl h0);simp only[JE.named,this,Bool.true_and,Bool.not_true,Bool.false_and]
  ·refine lS Tryz.func220 ?_;refine aR ?_;(first|refine XA.aW (R:=aD b (.slice p n c) e) zL (aD.any) ?_|refine az.aW (R:=aD b (.slice p n c) e) zL (aD.any) ?_|refine DA.aW (R:=aD b (.slice p n c) e) zL (aD.any) ?_);rintro⟨l,cc⟩ hf;refine gX ?_;refine bg ?_;refine az.eX (Δ:=[aD b (.slice p n c) e]) (ar.eS zE hf) ?_;refine yC (jG σ b _ e (decide ((n:Int)≤v)) 1 au) ?_;refine aR ?_;refine yC (jG σ b _ _ false 5 au) ?_;refine bS ?_;refine ao.normal (aB.none rfl) (ar.refl _) ⟨rfl,rfl,?_⟩;(have:decide (v<0∨(n:Int)≤v)=decide ((n:Int)≤v):=by rw[decide_eq_decide];omega);simp only[JE.named,this,Bool.true_and,Bool.not_true,Bool.false_and]
theorem Lj (σ:PH) (cs:List Value) (x:Ex) (hx:dL σ cs x):ah Tryz.prog 219 #[.agg cs.toArray] σ [] (aA fun v aj al=>v=.bool (j0 x)∧σ=aj∧al=[]):=by
 obtain⟨p,c,rfl,-,-,-,-⟩:=hx.inv;by_cases h1:x.op=0
 ·by_cases h2:x.v=0
  ·by_cases h3:x.n=0
   ·(refine cM Tryz.func219 ?_;refine aU ?_;refine cP fun g1=>?_;refine nC ?_);refine bC rfl rfl ⟨?_,rfl,rfl⟩;simp[j0,h1,h2,h3]
   ·(refine cM Tryz.func219 ?_;refine aU ?_;refine cP fun g1=>?_;refine nC ?_);exact bC rfl rfl ⟨by simp[j0,h3],rfl,rfl⟩
  ·(refine cM Tryz.func219 ?_;refine aU ?_;refine cP fun g1=>?_;refine nC ?_);exact bC rfl rfl ⟨by simp[j0,h2],rfl,rfl⟩
 ·(refine cM Tryz.func219 ?_;refine aU ?_;refine cP fun g1=>?_;refine nC ?_);exact bC rfl rfl ⟨by simp[j0,h1],rfl,rfl⟩
theorem jt (σ:PH) (op:Int):ah Tryz.prog 209 #[i64 op] σ [] (aA fun v aj al=>v=.tuple #[.bool (dE op),.bool (fS op),.bool (k7 op),.bool (jw op),.bool (jj op)]∧σ=aj∧al=[]):=by
 refine cM Tryz.func209 ?_;refine px ?_;refine XA.bE rfl (fun h1=>?_) (fun h1=>?_)
 ·refine bm ?_;subst h1;exact ao.ret (aB.five rfl rfl rfl rfl rfl rfl) (ar.refl _) ⟨rfl,rfl,rfl⟩
 refine a8 ?_;refine XA.bE rfl (fun h2=>?_) (fun h2=>?_)
 ·refine bm ?_;subst h2;exact ao.ret (aB.five rfl rfl rfl rfl rfl rfl) (ar.refl _) ⟨rfl,rfl,rfl⟩
 refine a8 ?_;refine XA.bE rfl (fun h3=>?_) (fun h3=>?_)
 ·refine bm ?_;subst h3;exact ao.ret (aB.five rfl rfl rfl rfl rfl rfl) (ar.refl _) ⟨rfl,rfl,rfl⟩
 refine a8 ?_;refine XA.bE rfl (fun h4=>?_) (fun h4=>?_)
 ·refine bm ?_;subst h4;exact ao.ret (aB.five rfl rfl rfl rfl rfl rfl) (ar.refl _) ⟨rfl,rfl,rfl⟩
 refine a8 ?_;refine XA.bE rfl (fun h5=>?_) (fun h5=>?_)
 ·refine bm ?_;subst h5;exact ao.ret (aB.five rfl rfl rfl rfl rfl rfl) (ar.refl _) ⟨rfl,rfl,rfl⟩
 refine a8 ?_;refine XA.bE rfl (fun h6=>?_) (fun h6=>?_)
 ·refine bm ?_;subst h6;exact ao.ret (aB.five rfl rfl rfl rfl rfl rfl) (ar.refl _) ⟨rfl,rfl,rfl⟩
 refine bY ?_;refine ao.ret (aB.five rfl rfl rfl rfl rfl rfl) (ar.refl _) ⟨?_,rfl,rfl⟩;simp[dE,fS,k7,jw,jj,h1,h2,h3,h4,h5,h6]
theorem lW {F:Int→JE→JE} (hF:Down F) {e:JE} (h:e.Ah) (d:Int):(F d e).Ah:=by
 cases e with
 |error c=>rw[hF.err];intro l hl;cases hl
 |ok a=>
  intro l hl;obtain⟨h1,h2⟩:=h a rfl;obtain⟨h3,h4,-⟩:=hF.ok _ _ _ h1 hl;omega
def Lk (σ:PH) (x:Ex):Prop:=∀(cs:List Value) (b:Nat) (p:Option Addr) (n c:Nat) (e:JE) (deep:Int),dL σ cs x→e.Ah→0≤deep→deep≤1000→
 ah Tryz.prog 221 #[ptr b,.agg cs.toArray,i64 deep] σ [aD b (.slice p n c) e] (aA fun r aj al=>r=.tuple #[]∧σ=aj∧al=[aD b (.slice p n c) (lT n deep x e)])
theorem oy {e:JE} (h:e.isOk=false):∃c,e=.error c:=by
 cases e with
 |ok l=>cases h
 |error c=>exact⟨c,rfl⟩
theorem Br {e:JE} {d:Int} (h:(e.one d).isOk=true):d≤12:=by
 cases e with
 |error c=>cases h
 |ok l=>
  simp only[JE.one] at h;split at h
  ·cases h
  ·omega
theorem Ll (σ:PH) (x:Ex):Lk σ x:=by
 refine Ex.ind (P:=Lk σ) ?_ x;intro op v k l ih cs b p n c e deep hx j3 xu Cy;obtain⟨pl,cl,rfl,-,-,-,hl⟩:=hx.inv;simp only[Ex.op,Ex.v,Ex.n,Ex.l] at hl⊢;obtain⟨-,-,-,hle,Hd⟩:=hl.shape
 have hlen:l.length≤maxLen:=by
  obtain⟨q,d,e1,h1,h2⟩:=hl.shape;omega
 simp only[maxLen] at hlen;refine lS Tryz.func221 ?_;refine aU ?_;refine cP fun g4=>?_;refine bg ?_;refine yC (Re σ b (.slice p n c) e deep j3) ?_
 cases cR:(e.one deep).isOk with
 |false=>
  obtain⟨c',Ku⟩:=oy cR;(have hp:lT n deep (.mk op v k l) e=.error c':=by rw[lT,ec,Ku,iE,iE,qA,pJ]);rw[Ku,hp];refine a8 ?_;exact On rfl ⟨rfl,rfl,rfl⟩
 |true=>
  have hd:=Br cR;refine aR ?_;refine yC (ox σ op) ?_;refine bJ ?_;refine yC (jG σ b _ _ (decide (partsOf op<0)) 2 au) ?_;refine bt ?_;refine az.join (List.take_append_drop 11 _).symm [(20,20),(25,35)] (fun _:Unit=>[(20,ptr b),(35,.bool (decide ((l.length:Int)≠partsOf op∨(k≠0∧op≠1))))]) (fun _ aj al=>σ=aj∧al=[aD b (.slice p n c) ((e.one deep).fail (decide (partsOf op<0)) 2),aw g4 [i64 op,i64 v,i64 k,.slice pl l.length cl] 138]) ?_ ?_
  ·by_cases h1:(l.length:Int)=partsOf op
   ·by_cases h2:k=0
    ·have hb:decide ((l.length:Int)≠partsOf op∨(k≠0∧op≠1))=false:=aE ad;rw[hb];refine dB ?_;refine⟨bQ,(),_,zM,?_,⟨rfl,rfl⟩⟩
     ·exact zE
    ·(have hb:decide ((l.length:Int)≠partsOf op∨(k≠0∧op≠1))=decide (op≠1):=by rw[decide_eq_decide];omega);rw[hb];refine dB ?_;refine⟨bQ,(),_,zM,?_,⟨rfl,rfl⟩⟩
     ·exact zE
   ·have hb:decide ((l.length:Int)≠partsOf op∨(k≠0∧op≠1))=true:=aM ad;rw[hb];refine dB ?_;refine⟨bQ,(),_,zM,?_,⟨rfl,rfl⟩⟩
    ·exact zE
  rintro-δ1 _ _ ⟨rfl,rfl⟩;dsimp only[dq,List.foldl];refine yC (jG σ b _ _ (decide ((l.length:Int)≠partsOf op∨(k≠0∧op≠1))) 5 au) ?_;refine aR ?_;refine az.join (List.take_append_drop 5 _).symm [(37,37),(39,39),(43,47)] (fun _:Unit=>[(37,ptr b),(39,i64 v),(47,.bool (decide (op=2∨op=3)))]) (fun _ aj al=>σ=aj∧al=[aD b (.slice p n c) (((e.one deep).fail (decide (partsOf op<0)) 2).fail (decide ((l.length:Int)≠partsOf op∨(k≠0∧op≠1))) 5),aw g4 [i64 op,i64 v,i64 k,.slice pl l.length cl] 138]) ?_ ?_
  ·by_cases h1:op=2
   ·have hb:decide (op=2∨op=3)=true:=aM ad;rw[hb];refine bg ?_;refine⟨bQ,(),_,zM,?_,⟨rfl,rfl⟩⟩
    ·exact zE
   ·(have hb:decide (op=2∨op=3)=decide (op=3):=by rw[decide_eq_decide];omega);rw[hb];refine bg ?_;refine⟨bQ,(),_,zM,?_,⟨rfl,rfl⟩⟩
    ·exact zE
  rintro-Dc _ _ ⟨rfl,rfl⟩;dsimp only[dq,List.foldl];(refine yC (Hc σ b p n c _ v (decide (op=2∨op=3))) ?_;refine cp ?_;refine XA.gen [(0,_),(2,_),(50,_),(51,_),(52,_)] iX fun δ=>?_);dsimp only[List.foldl];refine XA.loop [(8,8),(52,66)] (fun q:Nat=>[(52,i64 q)]) (fun q aj al=>σ=aj∧q≤l.length∧al=[aD b (.slice p n c) (iD n (deep+1) (l.take q) (ec n deep op v k l.length e)),aw g4 [i64 op,i64 v,i64 k,.slice pl l.length cl] 138]) (fun q=>l.length-q) 0 eb (Δ0:=_) ?_ (⟨rfl,cg _,rfl⟩) ?_
  ·rw[List.take_zero,iD];exact zE
  rintro q δ _ _ ⟨rfl,hq,rfl⟩;dsimp only[dq,List.foldl];refine a8 ?_;refine XA.bE rfl (fun aV=>?_) (fun aV=>?_)
  ·(have aV:q<l.length:=by omega);obtain⟨x',lF⟩:∃x',l[q]? =some x':=⟨_,b9 aV⟩;obtain⟨g,o,row,rfl,mJ,mZ,bG⟩:=hl.at lF;have jd:=mJ.dT;have e1:=Ae n (deep+1) l q x' (ec n deep op v k l.length e) lF;have uG:(iD n (deep+1) (l.take q) (ec n deep op v k l.length e)).Ah:=lW (Down.iD n (l.take q)) (lW (Down.ec n op v k l.length) j3 deep) (deep+1);refine bJ ?_;refine di (fun g8=>?_) (ae rfl);refine a8 ?_
   cases gP:iD n (deep+1) (l.take q) (ec n deep op v k l.length e) with
   |error c'=>
    rw[gP,oq] at e1;(first|refine XA.aW (R:=aD b (.slice p n c) (.error c')) zL (aD.fT) ?_|refine az.aW (R:=aD b (.slice p n c) (.error c')) zL (aD.fT) ?_|refine DA.aW (R:=aD b (.slice p n c) (.error c')) zL (aD.fT) ?_);rintro lf h0;refine gX ?_;refine a8 ?_;refine XA.aI rfl (aE h0) ?_;refine bJ ?_;refine⟨bQ,q+1,[aD b (.slice p n c) (.error c'),_],zM,?_,⟨rfl,aV,by rw[e1]⟩,ad⟩
    ·exact ar.eT (Θ:=[_]) zD (aD.Ag h0) zE
   |ok a=>
    rw[gP] at e1 uG;(first|refine XA.aW (R:=aD b (.slice p n c) (.ok a)) zL (aD.ll) ?_|refine az.aW (R:=aD b (.slice p n c) (.ok a)) zL (aD.ll) ?_|refine DA.aW (R:=aD b (.slice p n c) (.ok a)) zL (aD.ll) ?_);rintro⟨⟩-;refine gX ?_;refine bm ?_;refine az.eX (ar.eT (Θ:=[_]) zD (aD.Hb (l:=a)) (ar.refl _)) ?_;refine yC (ih x' (fg lF) row b p n c (.ok a) (deep+1) mJ uG ad ad) ?_;refine bJ ?_;refine⟨bQ,q+1,_,zM,?_,⟨rfl,aV,by rw[e1]⟩,ad⟩
    ·exact zE
  (have SH:q=l.length:=by omega);subst SH;rw[List.take_length];refine bY ?_;exact iN rfl ⟨rfl,rfl,rfl⟩
def FB (σ:PH) (x:St):Prop:=∀(cs:List Value) (b:Nat) (p:Option Addr) (n c:Nat) (e:JE) (deep:Int),dF σ cs x→e.Ah→0≤deep→deep≤900→
 ah Tryz.prog 187 #[ptr b,.agg cs.toArray,i64 deep] σ [aD b (.slice p n c) e] (aA fun r aj al=>r=.tuple #[]∧σ=aj∧al=[aD b (.slice p n c) (rO n deep x e)])
theorem FC (σ:PH) (l:List St) (ih:∀x∈l,FB σ x) (sl:Value) (b:Nat) (p:Option Addr) (n c:Nat) (e:JE) (deep:Int) (hl:bV 12 dF σ sl l) (j3:e.Ah) (xu:0≤deep) (Cy:deep≤900):
 ah Tryz.prog 153 #[ptr b,sl,i64 deep] σ [aD b (.slice p n c) e] (aA fun r aj al=>r=.tuple #[]∧σ=aj∧al=[aD b (.slice p n c) (ej n deep l e)]):=by
 obtain⟨pl,cl,rfl,hle,Hd⟩:=hl.shape;(have hlen:l.length≤maxLen:=by omega);simp only[maxLen] at hlen;(refine lS Tryz.func153 ?_;refine bJ ?_;refine XA.gen [(0,_),(2,_),(8,_),(9,_),(10,_)] iX fun δ=>?_);dsimp only[List.foldl];refine XA.loop [(7,7),(10,23)] (fun q:Nat=>[(10,i64 q)]) (fun q aj al=>σ=aj∧q≤l.length∧al=[aD b (.slice p n c) (ej n deep (l.take q) e)]) (fun q=>l.length-q) 0 eb (Δ0:=_) ?_ (⟨rfl,cg _,rfl⟩) ?_
 ·rw[List.take_zero,ej];exact zE
 rintro q δ _ _ ⟨rfl,hq,rfl⟩;dsimp only[dq,List.foldl];refine a8 ?_;refine XA.bE rfl (fun aV=>?_) (fun aV=>?_)
 ·(have aV:q<l.length:=by omega);obtain⟨x',lF⟩:∃x',l[q]? =some x':=⟨_,b9 aV⟩;obtain⟨g,o,row,rfl,mJ,mZ,bG⟩:=hl.at lF;have jd:=mJ.dT;have e1:=Af n deep l q x' e lF;have uG:(ej n deep (l.take q) e).Ah:=lW (Down.ej n (l.take q)) j3 deep;refine bJ ?_;refine di (fun g7=>?_) (ae rfl);refine a8 ?_
  cases gP:ej n deep (l.take q) e with
  |error c'=>
   rw[gP,G8] at e1;(first|refine XA.aW (R:=aD b (.slice p n c) (.error c')) zL (aD.fT) ?_|refine az.aW (R:=aD b (.slice p n c) (.error c')) zL (aD.fT) ?_|refine DA.aW (R:=aD b (.slice p n c) (.error c')) zL (aD.fT) ?_);rintro lf h0;refine gX ?_;refine a8 ?_;refine XA.aI rfl (aE h0) ?_;refine bJ ?_;refine⟨bQ,q+1,[aD b (.slice p n c) (.error c')],zM,?_,⟨rfl,aV,by rw[e1]⟩,ad⟩
   ·exact ar.eT (Θ:=[_]) zD (aD.Ag h0) zE
  |ok a=>
   rw[gP] at e1 uG;(first|refine XA.aW (R:=aD b (.slice p n c) (.ok a)) zL (aD.ll) ?_|refine az.aW (R:=aD b (.slice p n c) (.ok a)) zL (aD.ll) ?_|refine DA.aW (R:=aD b (.slice p n c) (.ok a)) zL (aD.ll) ?_);rintro⟨⟩-;refine gX ?_;refine cp ?_;refine az.eX (ar.eT (Θ:=[_]) zD (aD.Hb (l:=a)) (ar.refl _)) ?_;refine yC (ih x' (fg lF) row b p n c (.ok a) deep mJ uG ad ad) ?_;refine bJ ?_;refine⟨bQ,q+1,_,zM,?_,⟨rfl,aV,by rw[e1]⟩,ad⟩
   ·exact zE
 (have SH:q=l.length:=by omega);subst SH;rw[List.take_length];refine bY ?_;exact iN rfl ⟨rfl,rfl,rfl⟩
theorem SI (σ:PH) (x:St):FB σ x:=by
 refine St.ind (P:=FB σ) ?_ x;intro op v ex fx body dn ih jh cs b p n c e deep hx j3 xu Cy;obtain⟨pe,de,pf,df,pb,cb,pl,cl,rfl,-,-,jB,y0,sY,wc⟩:=hx.Ad;simp only[St.op,St.v,St.e,St.f,St.body,St.dn] at jB y0 sY wc⊢;clear hx;obtain⟨cells,cB⟩:∃l,l=[i64 op,i64 v,i64 ex.op,i64 ex.v,i64 ex.n,.slice pe ex.l.length de,i64 fx.op,i64 fx.v,i64 fx.n,.slice pf fx.l.length df,.slice pb body.length cb,.slice pl dn.length cl]:=⟨_,rfl⟩;obtain⟨ne,ix⟩:∃q,q=j0 ex:=⟨_,rfl⟩;obtain⟨nf,SJ⟩:∃q,q=j0 fx:=⟨_,rfl⟩;obtain⟨A1,zm⟩:∃A,A=(!dE op&&!ne):=⟨_,rfl⟩;obtain⟨A2,rf⟩:∃A,A=(!fS op&&!nf):=⟨_,rfl⟩;obtain⟨A3,Pb⟩:∃A,A=(!jw op&&decide ((0:Int)<(body.length:Int))):=⟨_,rfl⟩;obtain⟨A4,Lm⟩:∃A,A=(!jj op&&decide ((0:Int)<(dn.length:Int))):=⟨_,rfl⟩;(have Dd:lU op ex fx body.length dn.length=(((A1||A2)||A3)||A4):=by rw[zm,rf,Pb,Lm,ix,SJ];rfl);refine lS Tryz.func187 ?_;refine aU ?_;refine cP fun g4=>?_;refine bg ?_;refine yC (Re σ b (.slice p n c) e deep j3) ?_
 cases cR:(e.one deep).isOk with
 |false=>
  obtain⟨c',Ku⟩:=oy cR;(have hp:rO n deep (.mk op v ex fx body dn) e=.error c':=by rw[rO,gh,Ku,iE,iE,qA,xq,gY,gY]);rw[Ku,hp];refine a8 ?_;exact On rfl ⟨rfl,rfl,rfl⟩
 |true=>
  have hd:=Br cR;refine cp ?_;refine az.join (List.take_append_drop 6 _).symm [(15,15),(18,23)] (fun _:Unit=>[(15,ptr b),(23,.bool (decide (op<1∨7<op)))]) (fun _ aj al=>σ=aj∧al=[aD b (.slice p n c) (e.one deep),aw g4 cells 140]) ?_ ?_
  ·by_cases h1:op<1
   ·have hb:decide (op<1∨7<op)=true:=aM ad;rw[hb];refine bJ ?_;refine⟨bQ,(),_,zM,?_,⟨rfl,rfl⟩⟩
    ·rw[cB];exact zE
   ·(have hb:decide (op<1∨7<op)=decide (7<op):=by rw[decide_eq_decide];omega);rw[hb];refine bJ ?_;refine⟨bQ,(),_,zM,?_,⟨rfl,rfl⟩⟩
    ·rw[cB];exact zE
  rintro-δ1 _ _ ⟨rfl,rfl⟩;dsimp only[dq,List.foldl];rw[cB];refine yC (jG σ b _ _ (decide (op<1∨7<op)) 2 au) ?_;refine a8 ?_;refine yC (jt σ op) ?_;refine dh ?_;obtain⟨E2,xx⟩:∃E,E=(e.one deep).fail (decide (op<1∨7<op)) 2:=⟨_,rfl⟩;rw[←xx,←cB];refine az.join (List.take_append_drop 10 _).symm [(34,43)] (fun _:Unit=>[(34,ptr b),(43,.bool A1)]) (fun _ aj al=>σ=aj∧al=[aD b (.slice p n c) E2,aw g4 cells 140]) ?_ ?_
  ·rw[cB]
   cases hn:dE op with
   |true=>
    (have hb:A1=false:=by rw[zm,hn];rfl);rw[hb];refine bm ?_;refine⟨bQ,(),_,zM,?_,⟨rfl,rfl⟩⟩
    ·exact zE
   |false=>
    (have hb:A1=!ne:=by rw[zm,hn];rfl);rw[hb];refine a8 ?_;refine zG ?_;refine yC (Lj σ _ _ jB) ?_;rw[←ix];refine dc ?_;refine⟨bQ,(),_,zM,?_,⟨rfl,rfl⟩⟩
    ·exact zE
  rintro-Dc _ _ ⟨rfl,rfl⟩;dsimp only[dq,List.foldl];rw[cB];obtain⟨B2,mP⟩:∃A,A=(A1||A2):=⟨_,rfl⟩;rw[←cB];refine az.join (List.take_append_drop 10 _).symm [(34,34),(44,53)] (fun _:Unit=>[(34,ptr b),(53,.bool B2)]) (fun _ aj al=>σ=aj∧al=[aD b (.slice p n c) E2,aw g4 cells 140]) ?_ ?_
  ·rw[cB]
   cases A1 with
   |true=>
    (have hb:B2=true:=by rw[mP];rfl);rw[hb];refine bm ?_;refine⟨bQ,(),_,zM,?_,⟨rfl,rfl⟩⟩
    ·exact zE
   |false=>
    rw[Bool.false_or] at mP
    cases hn:fS op with
    |true=>
     (have hb:B2=false:=by rw[mP,rf,hn];rfl);rw[hb];refine bm ?_;refine⟨bQ,(),_,zM,?_,⟨rfl,rfl⟩⟩
     ·exact zE
    |false=>
     (have hb:B2=!nf:=by rw[mP,rf,hn];rfl);rw[hb];refine dc ?_;refine zG ?_;refine yC (Lj σ _ _ y0) ?_;rw[←SJ];refine a8 ?_;refine⟨bQ,(),_,zM,?_,⟨rfl,rfl⟩⟩
     ·exact zE
  rintro-Zf _ _ ⟨rfl,rfl⟩;dsimp only[dq,List.foldl];obtain⟨B3,ry⟩:∃A,A=(B2||A3):=⟨_,rfl⟩;refine az.join (List.take_append_drop 10 _).symm [(34,34),(54,63)] (fun _:Unit=>[(34,ptr b),(63,.bool B3)]) (fun _ aj al=>σ=aj∧al=[aD b (.slice p n c) E2,aw g4 cells 140]) ?_ ?_
  ·rw[cB]
   cases hB:B2 with
   |true=>
    (have hb:B3=true:=by rw[ry,hB];rfl);rw[hb];refine bm ?_;refine⟨bQ,(),_,zM,?_,⟨rfl,rfl⟩⟩
    ·exact zE
   |false=>
    rw[hB,Bool.false_or] at ry
    cases hn:jw op with
    |true=>
     (have hb:B3=false:=by rw[ry,Pb,hn];rfl);rw[hb];refine bm ?_;refine⟨bQ,(),_,zM,?_,⟨rfl,rfl⟩⟩
     ·exact zE
    |false=>
     (have hb:B3=decide ((0:Int)<(body.length:Int)):=by rw[ry,Pb,hn];rfl);rw[hb];refine bm ?_;refine⟨bQ,(),_,zM,?_,⟨rfl,rfl⟩⟩
     ·exact zE
  rintro-δ4 _ _ ⟨rfl,rfl⟩;dsimp only[dq,List.foldl];obtain⟨B4,y3⟩:∃A,A=(B3||A4):=⟨_,rfl⟩;refine az.join (List.take_append_drop 9 _).symm [(34,34),(64,72)] (fun _:Unit=>[(34,ptr b),(72,.bool B4)]) (fun _ aj al=>σ=aj∧al=[aD b (.slice p n c) E2,aw g4 cells 140]) ?_ ?_
  ·rw[cB]
   cases hB:B3 with
   |true=>
    (have hb:B4=true:=by rw[y3,hB];rfl);rw[hb];refine cp ?_;refine⟨bQ,(),_,zM,?_,⟨rfl,rfl⟩⟩
    ·exact zE
   |false=>
    rw[hB,Bool.false_or] at y3
    cases hn:jj op with
    |true=>
     (have hb:B4=false:=by rw[y3,Lm,hn];rfl);rw[hb];refine cp ?_;refine⟨bQ,(),_,zM,?_,⟨rfl,rfl⟩⟩
     ·exact zE
    |false=>
     (have hb:B4=decide ((0:Int)<(dn.length:Int)):=by rw[y3,Lm,hn];rfl);rw[hb];refine cp ?_;refine⟨bQ,(),_,zM,?_,⟨rfl,rfl⟩⟩
     ·exact zE
  rintro-δ5 _ _ ⟨rfl,rfl⟩;dsimp only[dq,List.foldl];rw[show B4=lU op ex fx body.length dn.length by rw[Dd,y3,ry,mP],cB];refine yC (jG σ b _ _ (lU op ex fx body.length dn.length) 5 au) ?_;refine bJ ?_;refine yC (Hc σ b p n c _ v (k7 op)) ?_;obtain⟨H,hH⟩:∃H,H=gh n deep op v ex fx body.length dn.length e:=⟨_,rfl⟩;(have Rf:H.Ah:=by rw[hH];exact lW (Down.gh n op v ex fx body.length dn.length) j3 deep);rw[show JE.named (JE.fail E2 (lU op ex fx body.length dn.length) 5) n v (k7 op)=H by rw[hH,gh,xx]];(have De:rO n deep (.mk op v ex fx body dn) e=ej n (deep+1) dn (ej n (deep+1) body (rN n (deep+1) op ex fx H)):=by rw[rO,hH]);rw[De];clear De Dd y3 ry mP zm rf Pb Lm ix SJ hH xx;rw[←cB];obtain⟨H1,Pc⟩:∃H1,H1=if dE op then lT n (deep+1) ex H else H:=⟨_,rfl⟩
  have Ln:H1.Ah:=by
   rw[Pc];split
   ·exact lW (Down.lT n ex) Rf (deep+1)
   ·exact Rf
  obtain⟨H2,Pd⟩:∃H2,H2=rN n (deep+1) op ex fx H:=⟨_,rfl⟩;(have Lo:H2.Ah:=by rw[Pd];exact lW (Down.rN n op ex fx) Rf (deep+1));have W5:=Pc;(have W6:H2=if fS op then lT n (deep+1) fx H1 else H1:=by rw[Pd,Pc];rfl);rw[←Pd];refine dc ?_;refine az.join (List.take_append_drop 8 _).symm [(79,86)] (fun _:Unit=>[(86,.bool (dE op&&H.isOk))]) (fun _ aj al=>σ=aj∧al=[aD b (.slice p n c) H,aw g4 cells 140]) ?_ ?_
  ·cases hn:dE op with
   |false=>
    rw[Bool.false_and];refine aR ?_;refine⟨bQ,(),_,zM,?_,⟨rfl,rfl⟩⟩
    ·exact zE
   |true=>
    rw[Bool.true_and];refine cx ?_;(first|refine XA.aW (R:=aD b (.slice p n c) H) zL (aD.zl) ?_|refine az.aW (R:=aD b (.slice p n c) H) zL (aD.zl) ?_|refine DA.aW (R:=aD b (.slice p n c) H) zL (aD.zl) ?_);rintro⟨l,cc⟩ ⟨xy,hf⟩;refine gX ?_;rw[←xy];refine bg ?_;refine⟨bQ,(),_,zM,?_,⟨rfl,rfl⟩⟩
    ·exact ar.eT (Θ:=[_]) zD hf zE
  rintro-δ6 _ _ ⟨rfl,rfl⟩;dsimp only[dq,List.foldl];refine aU ?_;refine XA.join [(87,92)] (fun _:Unit=>[]) (fun _ aj al=>σ=aj∧al=[aD b (.slice p n c) H1,aw g4 cells 140]) ?_ ?_
  ·refine XA.cond rfl (fun hq=>?_) (fun hq=>?_)
   ·(have He:dE op=true∧H.isOk=true:=by simpa using hq);rw[cB];refine a8 ?_;refine yC (Ll σ ex _ b p n c H (deep+1) jB Rf ad ad) ?_;refine aU ?_;rw[show H1=lT n (deep+1) ex H by rw[W5,aq He.1]];refine⟨bQ,(),_,zM,?_,⟨rfl,rfl⟩⟩
    ·exact zE
   ·have e1:H1=H:=by
     rw[W5];split
     ·rename_i hn;rw[hn,Bool.true_and] at hq;obtain⟨c',Ku⟩:=oy hq;rw[Ku,oq]
     ·rfl
    rw[e1];refine aU ?_;refine⟨bQ,(),_,zM,?_,⟨rfl,rfl⟩⟩
    ·exact zE
  rintro-agr _ _ ⟨rfl,rfl⟩;dsimp only[dq,List.foldl];refine bY ?_;refine az.join (List.take_append_drop 8 _).symm [(93,100)] (fun _:Unit=>[(100,.bool (fS op&&H1.isOk))]) (fun _ aj al=>σ=aj∧al=[aD b (.slice p n c) H1,aw g4 cells 140]) ?_ ?_
  ·cases hn:fS op with
   |false=>
    rw[Bool.false_and];refine aR ?_;refine⟨bQ,(),_,zM,?_,⟨rfl,rfl⟩⟩
    ·exact zE
   |true=>
    rw[Bool.true_and];refine cx ?_;(first|refine XA.aW (R:=aD b (.slice p n c) H1) zL (aD.zl) ?_|refine az.aW (R:=aD b (.slice p n c) H1) zL (aD.zl) ?_|refine DA.aW (R:=aD b (.slice p n c) H1) zL (aD.zl) ?_);rintro⟨l,cc⟩ ⟨xy,hf⟩;refine gX ?_;rw[←xy];refine bg ?_;refine⟨bQ,(),_,zM,?_,⟨rfl,rfl⟩⟩
    ·exact ar.eT (Θ:=[_]) zD hf zE
  rintro-δ7 _ _ ⟨rfl,rfl⟩;dsimp only[dq,List.foldl];refine aU ?_;refine XA.join [(101,106)] (fun _:Unit=>[]) (fun _ aj al=>σ=aj∧al=[aD b (.slice p n c) H2,aw g4 cells 140]) ?_ ?_
  ·refine XA.cond rfl (fun hq=>?_) (fun hq=>?_)
   ·(have He:fS op=true∧H1.isOk=true:=by simpa using hq);rw[cB];refine a8 ?_;refine yC (Ll σ fx _ b p n c H1 (deep+1) y0 Ln ad ad) ?_;refine aU ?_;rw[show H2=lT n (deep+1) fx H1 by rw[W6,aq He.1]];refine⟨bQ,(),_,zM,?_,⟨rfl,rfl⟩⟩
    ·exact zE
   ·have e1:H2=H1:=by
     rw[W6];split
     ·rename_i hn;rw[hn,Bool.true_and] at hq;obtain⟨c',Ku⟩:=oy hq;rw[Ku,oq]
     ·rfl
    rw[e1];refine aU ?_;refine⟨bQ,(),_,zM,?_,⟨rfl,rfl⟩⟩
    ·exact zE
  rintro-agt _ _ ⟨rfl,rfl⟩;dsimp only[dq,List.foldl];refine bS ?_;rw[cB];refine bg ?_;refine yC (FC σ body ih _ b p n c H2 (deep+1) sY Lo ad ad) ?_;refine bJ ?_;refine yC (FC σ dn jh _ b p n c _ (deep+1) wc (lW (Down.ej n body) Lo (deep+1)) ad ad) ?_;refine bS ?_;exact iN rfl ⟨rfl,rfl,rfl⟩
theorem Pe (σ:PH) (g:Nat) (v w:Va):ah Tryz.prog 186 #[Zc w,ptr g] σ [aw g [.string v.name,i64 v.size] 134] (aA fun r aj al=>r=.bool (decide (w.name=v.name))∧σ=aj∧al=[aw g [.string v.name,i64 v.size] 134]):=by
 unfold Zc;(refine cw Tryz.func186 ?_;refine aU ?_;refine cP fun g2=>?_;refine bt ?_;refine zO rfl (Rd.fE rfl rfl) ?_;refine bY ?_);exact bC rfl rfl ⟨rfl,rfl,rfl⟩
theorem FD (σ:PH) (g:Nat) (v:Va) (sl:Value) (l:List Va) (hl:bV 2 sB σ sl l):ah Tryz.prog 216 #[sl,.func (.func 186) #[] #[ptr g]] σ [aw g [.string v.name,i64 v.size] 134] (aA fun r aj al=>∃k:Int,r=i64 k∧(0≤k↔∃w∈l,w.name=v.name)∧σ=aj∧al=[aw g [.string v.name,i64 v.size] 134]):=by
 obtain⟨pl,cl,rfl,hle,Hd⟩:=hl.shape;(have hlen:l.length≤maxLen:=by omega);simp only[maxLen] at hlen;(refine cw Tryz.func216 ?_;refine eA ?_;refine XA.gen [(0,_),(1,_),(4,_),(7,_),(8,_)] iX fun δ=>?_);dsimp only[List.foldl];refine XA.loop [(4,5),(8,18)] (fun k:Nat=>[(8,i64 k)]) (fun k aj al=>σ=aj∧k≤l.length∧(∀(j:Nat) w,j<k→l[j]? =some w→w.name≠v.name)∧al=[aw g [.string v.name,i64 v.size] 134]) (fun k=>l.length-k) 0 eb (Δ0:=_) ?_ (⟨rfl,cg _,fun j w h=>absurd h (Nat.not_lt_zero _),rfl⟩) ?_
 ·exact zE
 rintro k δ _ _ ⟨rfl,hk,bu,rfl⟩;dsimp only[dq,List.foldl];refine a8 ?_;refine XA.bE rfl (fun aV=>?_) (fun aV=>?_)
 ·(have aV:k<l.length:=by omega);obtain⟨x',lF⟩:∃x',l[k]? =some x':=⟨_,b9 aV⟩;obtain⟨gg,o,row,rfl,⟨rfl,-,-⟩,mZ,bG⟩:=hl.at lF;refine dV ?_;refine zw rfl (ax.cV (first:=[]) (cap:=[ptr g]) rfl (Pe σ g v x') rfl) ?_;rintro _ _ _ ⟨_,⟨rfl,rfl,rfl⟩,rfl⟩;refine az.cl ?_;refine aU ?_;refine XA.bE rfl (fun hc=>?_) (fun hc=>?_)
  ·refine bm ?_;exact bC rfl rfl ⟨(k:Int),rfl,⟨fun _=>⟨x',fg lF,hc⟩,fun _=>by omega⟩,rfl,rfl⟩
  ·have eR:∀(j:Nat) w,j<k+1→l[j]? =some w→w.name≠v.name:=fun j w hj hw=>by
    rcases Nat.lt_or_ge j k with h|h
    ·exact bu j w h hw
    ·(have:j=k:=by omega);subst this;rw[lF] at hw;simp only[Option.some.injEq] at hw;subst hw;exact hc
   refine bJ ?_;refine⟨bQ,k+1,_,zM,?_,⟨rfl,aV,eR,rfl⟩,ad⟩
   ·exact zE
 (have sC:k=l.length:=by omega);subst sC;refine cp ?_;refine bC rfl rfl ⟨-1,rfl,⟨fun h=>absurd h au,fun⟨w,hw,e⟩=>?_⟩,rfl,rfl⟩;obtain⟨j,hj,e2⟩:=List.mem_iff_getElem.1 hw;exact absurd e (bu j w hj (by rw[b9 hj,e2]))
theorem zn (σ:PH) (g:Nat) (v:Va) (sl:Value) (l:List Va) (hl:bV 2 sB σ sl l):ah Tryz.prog 185 #[sl,.func (.func 186) #[] #[ptr g]] σ [aw g [.string v.name,i64 v.size] 134] (aA fun r aj al=>r=.bool (decide (∃w∈l,w.name=v.name))∧σ=aj∧al=[aw g [.string v.name,i64 v.size] 134]):=by
 refine cw Tryz.func185 ?_;refine bt ?_;refine zw rfl (ax.cE (FD σ g v sl l hl) rfl) ?_;rintro _ _ _ ⟨_,⟨k,rfl,hk,rfl,rfl⟩,rfl⟩;refine az.cl ?_;refine dc ?_;exact bC rfl rfl ⟨congrArg Value.bool (decide_eq_decide.2 hk),rfl,rfl⟩
theorem X.bV.take {α:Type} {s n c k:Nat} {R:RT α} {σ:PH} {p:Option Addr} {xs:List α} (h:bV s R σ (.slice p n c) xs) (hk:k≤n):bV s R σ (.slice p k c) (xs.take k):=by
 obtain⟨p',c',rows,h1,h2,h3,h4,h5,h6,h7⟩:=h;simp only[Value.slice.injEq] at h1;obtain⟨rfl,rfl,rfl⟩:=h1;(have hl:(xs.take k).length=k:=by rw[List.length_take];exact Nat.min_eq_left hk);refine⟨p,c,rows.take k,by rw[hl],ad,h3,by rw[hl,List.length_take];omega,fun r hr=>h5 r (List.mem_of_mem_take hr),fun i row x a b=>?_,fun hp=>?_⟩
 ·rw[List.getElem?_take] at a b;split at a
  ·rename_i hi;rw[aq hi] at b;exact h6 i row x a b
  ·cases a
 ·obtain⟨g,o,e,hr⟩:=h7 ad;refine⟨g,o,e,?_⟩
  have:=hr.sub (j:=0) (us:=(rows.take k).flatten) (by
   (have e:rows.flatten=(rows.take k).flatten++(rows.drop k).flatten:=by rw[←List.flatten_append,List.take_append_drop]);rw[List.drop_zero,e]
   exact List.take_left)
  simpa using this
theorem eC {α:Type} {l:List α} {k:Nat} {x:α} (h:l[k]? =some x):l.drop k=x::l.drop (k+1):=by
 obtain⟨h1,h2⟩:=List.getElem?_eq_some_iff.1 h;rw[List.drop_eq_getElem_cons h1,h2]
theorem SK (σ:PH) (sl:Value) (l:List Va) (hl:bV 2 sB σ sl l):ah Tryz.prog 152 #[sl] σ [] (aA fun v aj al=>v=i64 (checkVars l)∧σ=aj∧al=[]):=by
 obtain⟨pl,cl,rfl,hle,Hd⟩:=hl.shape;(have hlen:l.length≤maxLen:=by omega);simp only[maxLen] at hlen;refine cM Tryz.func152 ?_;refine dB ?_;refine XA.bE rfl (fun h8=>?_) (fun h8=>?_)
 ·refine bg ?_;(have hr:checkVars l=3:=by rw[checkVars,aq ad]);exact bC rfl rfl ⟨by rw[hr],rfl,rfl⟩
 (have Bs:checkVars l=gj [] 0 l:=by rw[checkVars,ag ad]);rw[Bs];(refine dC ?_;refine XA.gen [(0,_),(2,_),(3,_),(9,_),(10,_),(11,_)] iX fun δ=>?_);dsimp only[List.foldl];refine XA.loop [(2,5),(11,42)] (fun q:Nat×Int=>[(11,i64 q.1),(3,i64 q.2)]) (fun q aj al=>σ=aj∧q.1≤l.length∧(0≤q.2∧q.2≤48∧gj (l.take q.1) q.2 (l.drop q.1)=gj [] 0 l)∧al=[]) (fun q=>l.length-q.1) (0,0) mO (Δ0:=_) ?_ (⟨rfl,cg _,⟨Int.le_refl _,au,rfl⟩,rfl⟩) ?_
 ·exact zE
 rintro⟨k,n⟩ δ _ _ ⟨rfl,hk,⟨o5,rQ,jC⟩,rfl⟩;dsimp only[dq,List.foldl];have hk:k≤l.length:=hk;have o5:0≤n:=o5;have rQ:n≤48:=rQ;have jC:gj (l.take k) n (l.drop k)=gj [] 0 l:=jC;refine a8 ?_;refine XA.bE rfl (fun aV=>?_) (fun aV=>?_)
 ·(have aV:k<l.length:=by omega);obtain⟨x,hx⟩:∃x,l[k]? =some x:=⟨_,b9 aV⟩;obtain⟨gg,o,row,rfl,⟨rfl,⟨Bt,Cu⟩,Bu⟩,mZ,bG⟩:=hl.at hx;have SL:=hl.take (k:=k) hk;rw[eC hx,gj] at jC;refine bt ?_;refine di (fun g5=>?_) (ae rfl);refine aR ?_;refine yC (FA σ x.name Bu) ?_
  cases W7:dW x.name with
  |false=>
   rw[aq W7] at jC;refine lR ?_;exact bC rfl rfl ⟨by rw[←jC],rfl,rfl⟩
  |true=>
   rw[ag (by simp[W7])] at jC;refine bt ?_;refine zO rfl (Rd.sS (ae rfl) rfl (ae rfl) rfl rfl ad) ?_;refine zO rfl (Rd.nw xl) ?_;refine yC (zn σ g5 x _ _ SL) ?_;refine cx ?_;refine XA.bE rfl (fun Oo=>?_) (fun Oo=>?_)
   ·rw[aq Oo] at jC;refine dB ?_;exact bC rfl rfl ⟨by rw[←jC],rfl,rfl⟩
   rw[ag Oo] at jC;by_cases hz:x.size<1
   ·rw[aq (.inl hz)] at jC;refine C5 ?_;exact bC rfl rfl ⟨by rw[←jC],rfl,rfl⟩
   ·refine dh ?_;refine XA.bE rfl (fun FE=>?_) (fun FE=>?_)
    ·rw[aq (.inr FE)] at jC;refine dB ?_;exact bC rfl rfl ⟨by rw[←jC],rfl,rfl⟩
    rw[ag ad] at jC;refine dV ?_;refine⟨bQ,(k+1,n+x.size),_,zM,?_,⟨rfl,aV,⟨gF,gF,by rw[Ac hx];exact jC⟩,rfl⟩,gF⟩
    ·exact zE
 (have sC:k=l.length:=by omega);subst sC;rw[List.drop_length,gj] at jC;refine cp ?_;exact bC rfl rfl ⟨by rw[←jC],rfl,rfl⟩
theorem oz (σ:PH) (cs:List Value) (p:Pr) (hp:gT σ cs p):ah Tryz.prog 109 #[.agg cs.toArray] σ [] (aA fun v aj al=>v=i64 (bZ p)∧σ=aj∧al=[]):=by
 obtain⟨vs,bs,rfl,hv,hb⟩:=hp;obtain⟨pv,cv,rfl,jx,Hf⟩:=hv.shape;refine cM Tryz.func109 ?_;refine aU ?_;refine cP fun g1=>?_;refine bJ ?_;refine yC (SK σ _ _ hv) ?_;refine bt ?_;refine XA.bE rfl (fun hc=>?_) (fun hc=>?_)
 ·refine bJ ?_;exact bC rfl rfl ⟨by rw[bZ,aq hc],rfl,rfl⟩
 (refine bg ?_;refine cP fun g14=>?_;refine bJ ?_;refine az.eX (ar.eT (Θ:=[_]) zD (aD.Hb (l:=150)) (ar.refl _)) ?_);refine yC (FC σ p.body (fun x _=>SI σ x) bs g14 pv p.vars.length cv (.ok 150) 0 hb (fun l hl=>by simp only[Except.ok.injEq] at hl;omega) au au) ?_;(have Rh:bZ p=(ej p.vars.length 0 p.body (.ok 150)).code:=by rw[bZ,ag hc]);rw[Rh];refine dc ?_
 cases gP:ej p.vars.length 0 p.body (.ok 150) with
 |ok a=>
  (first|refine XA.aW (R:=aD g14 _ (.ok a)) zL (aD.ll) ?_|refine az.aW (R:=aD g14 _ (.ok a)) zL (aD.ll) ?_|refine DA.aW (R:=aD g14 _ (.ok a)) zL (aD.ll) ?_);rintro⟨⟩-;refine gX ?_;refine bg ?_;exact bC rfl rfl ⟨rfl,rfl,rfl⟩
 |error c=>
  (first|refine XA.aW (R:=aD g14 _ (.error c)) zL (aD.fT) ?_|refine az.aW (R:=aD g14 _ (.error c)) zL (aD.fT) ?_|refine DA.aW (R:=aD g14 _ (.error c)) zL (aD.fT) ?_);rintro l h0;refine gX ?_;refine bg ?_;exact bC rfl rfl ⟨rfl,rfl,rfl⟩
theorem mQ:∀(l:List Va),(∀x∈l,0≤x.size∧x.size≤1000)→0≤sizes l∧sizes l≤1000*l.length
 |[],_=>by simp[sizes]
 |x::l,h=>by
  have h1:=mQ l (fun y hy=>h y (by simp[hy]));have h2:=h x aZ;rw[ot,bF];omega
theorem FF (σ:PH) (cs:List Value) (p:Pr) (v:Int) (hp:gT σ cs p) (hz:∀x∈p.vars,0≤x.size∧x.size≤1000) (hl:p.vars.length≤1000):
 ah Tryz.prog 148 #[.agg cs.toArray,i64 v] σ [] (aA fun r aj al=>r=i64 (cellOf p.vars v)∧σ=aj∧al=[]):=by
 obtain⟨vs,bs,rfl,hv,hb⟩:=hp;obtain⟨pv,cv,rfl,jx,Hf⟩:=hv.shape;obtain⟨m,hm⟩:∃m,m=min v.toNat p.vars.length:=⟨_,rfl⟩
 have aaK:(if (p.vars.length:Int)<(if (0:Int)>v then 0 else v) then (p.vars.length:Int) else (if (0:Int)>v then 0 else v))=(m:Int):=by
  subst hm;split<;>split at*<;>omega
 have eL:cellOf p.vars v=sizes (p.vars.take m):=by
  rw[cellOf,hm,←List.take_eq_take_min]
 rw[eL];(have Zg:m≤p.vars.length:=by omega);(refine cw Tryz.func148 ?_;refine aU ?_;refine cP fun g2=>?_;refine bm ?_;refine zO rfl (Rd.max2 rfl rfl) ?_;refine cx ?_;refine zO rfl (Rd.min2 rfl rfl) ?_;refine bY ?_);rw[aaK];(refine XA.gen [(2,_),(4,_),(5,_),(12,_),(13,_)] iX fun δ=>?_);dsimp only[List.foldl];refine XA.loop [(5,6),(13,24)] (fun q:Nat×Int=>[(13,i64 q.1),(5,i64 q.2)]) (fun q aj al=>σ=aj∧q.1≤m∧q.2=sizes (p.vars.take q.1)∧al=[aw g2 [.slice pv p.vars.length cv,bs] 69]) (fun q=>m-q.1) (0,0) mO (Δ0:=_) ?_ (⟨rfl,cg _,rfl,rfl⟩) ?_
 ·exact zE
 rintro⟨k,n⟩ δ _ _ ⟨rfl,hk,hn,rfl⟩;dsimp only[dq,List.foldl];have hk:k≤m:=hk;have hn:n=sizes (p.vars.take k):=hn;have o6:=mQ (p.vars.take k) (fun y hy=>hz y (List.mem_of_mem_take hy));(have Lp:(p.vars.take k).length=k:=by rw[List.length_take];omega);refine a8 ?_;refine XA.bE rfl (fun aV=>?_) (fun aV=>?_)
 ·(have aV:k<m:=by omega);obtain⟨x,hx⟩:∃x,p.vars[k]? =some x:=⟨_,b9 ad⟩;obtain⟨gg,o,row,rfl,⟨rfl,⟨Bt,Cu⟩,Bu⟩,mZ,bG⟩:=hv.at hx;have r1:cH σ gg (o+k*2+1) [i64 x.size]:=bG.sub (j:=1) rfl;have e1:=rP p.vars k x hx;have hxz:=hz x (fg hx);refine nC ?_;refine⟨bQ,(k+1,n+x.size),_,zM,?_,⟨rfl,aV,gF,rfl⟩,gF⟩
  ·exact zE
 (have W8:k=m:=by omega);subst W8;refine bm ?_;exact bC rfl rfl ⟨by rw[←hn],rfl,rfl⟩
theorem Hg (σ:PH) (cs:List Value) (p:Pr) (hp:gT σ cs p) (hz:∀x∈p.vars,0≤x.size∧x.size≤1000) (hl:p.vars.length≤1000):
 ah Tryz.prog 107 #[.agg cs.toArray] σ [] (aA fun r aj al=>r=i64 (sizes p.vars)∧σ=aj∧al=[]):=by
 have lG:=hp;obtain⟨vs,bs,rfl,hv,hb⟩:=hp;obtain⟨pv,cv,rfl,jx,Hf⟩:=hv.shape;(refine cM Tryz.func107 ?_;refine aU ?_;refine cP fun g1=>?_;refine bt ?_;refine yC (FF σ _ p p.vars.length lG hz hl) ?_;refine bY ?_);exact bC rfl rfl ⟨by rw[cellOf,Int.toNat_natCast,List.take_length],rfl,rfl⟩
end Go.Proofs.YtgeoiflbjcehcaaGreatDoor
