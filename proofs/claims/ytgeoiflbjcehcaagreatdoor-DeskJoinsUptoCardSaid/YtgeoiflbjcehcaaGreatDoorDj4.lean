import Derived.Test.YtgeoiflbjcehcaaGreatDoorDj3
set_option maxHeartbeats 4000000
set_option maxRecDepth 2000
set_option linter.unusedVariables false
set_option linter.unusedSimpArgs false
namespace Go.Proofs.YtgeoiflbjcehcaaGreatDoor
namespace X
open Go
theorem lF {ρ:Env}:∀{l:List (Nat×Value)},vp ρ l→l.foldl (fun r p=>cp r p.1 p.2) ρ=ρ
 |[],_=>rfl
 |(d,v)::l,h=>by
  have e:cp ρ d v=ρ:=funext fun s=>by
   by_cases hs:s=d
   ·subst hs;simp[cp,h.1]
   ·unfold cp;rw[show s.beq d=false from by cases hb:s.beq d with|true=>exact absurd (Nat.eq_of_beq_eq_true hb) hs|false=>rfl]
  show l.foldl (fun r p=>cp r p.1 p.2) (cp ρ d v)=ρ;rw[e];exact lF h.2
theorem gen {Q:Env→Prop} {ρ:Env} (E:List (Nat×Value)) (hE:vp ρ E) (k:∀δ,Q (E.foldl (fun r p=>cp r p.1 p.2) δ)):Q ρ:=by
 have:=k ρ;rwa [lF hE] at this
end X
namespace X
open Go
abbrev PH:=Nat→Option Obj
def PH.le (m:PH) (h:Heap):Prop:=∀k o,m k=some o→h[k]? =some o
def PH.sub (m m':PH):Prop:=∀k o,m k=some o→m' k=some o
def PH.mO (m m':PH):Prop:=∀k o o',m k=some o→m' k=some o'→False
def PH.or (m m':PH):PH:=fun k=>match m k with|some o=>some o|none=>m' k
def PH.one (g:Nat) (o:Obj):PH:=fun k=>if k=g then some o else none
theorem PH.sub.refl (m:PH):m.sub m:=fun _ _ h=>h
theorem PH.sub.trans {a b c:PH} (h:a.sub b) (k:b.sub c):a.sub c:=fun i o x=>k i o (h i o x)
theorem PH.sub.le {a b:PH} {h:Heap} (x:a.sub b) (y:b.le h):a.le h:=fun i o z=>y i o (x i o z)
theorem PH.mO.symm {a b:PH} (h:a.mO b):b.mO a:=fun k o o' x y=>h k o' o y x
theorem PH.mO.mono {a b a' b':PH} (h:a.mO b) (x:a'.sub a) (y:b'.sub b):a'.mO b':=fun k o o' p q=>h k o o' (x k o p) (y k o' q)
theorem PH.r8 (a b:PH):a.sub (a.or b):=fun k o h=>by simp[PH.or,h]
theorem PH.r9 {a b:PH} (d:a.mO b):b.sub (a.or b):=fun k o h=>by
 unfold PH.or
 cases e:a k with
 |none=>exact h
 |some o'=>exact(d k o' o e h).elim
theorem PH.or_some {a b:PH} {k:Nat} {o:Obj} (h:(a.or b) k=some o):a k=some o∨b k=some o:=by
 unfold PH.or at h
 cases e:a k with
 |none=>rw[e] at h;exact .inr h
 |some o'=>rw[e] at h;exact .inl h
theorem PH.Ae {a b c:PH} (h:a.sub c) (k:b.sub c):(a.or b).sub c:=fun i o x=>(PH.or_some x).elim (h i o) (k i o)
theorem PH.sa {a b:PH} {c:Heap} (h:a.le c) (k:b.le c):(a.or b).le c:=fun i o x=>(PH.or_some x).elim (h i o) (k i o)
theorem PH.fv {a b c:PH} (h:a.mO c) (k:b.mO c):(a.or b).mO c:=fun i o o' x y=>(PH.or_some x).elim (fun z=>h i o o' z y) (fun z=>k i o o' z y)
theorem PH.ib {g k:Nat} {o o':Obj} (h:PH.one g o k=some o'):k=g∧o'=o:=by
 unfold PH.one at h;split at h
 ·simp at h;exact⟨by assumption,h.symm⟩
 ·cases h
def PH.none:PH:=fun _=>Option.none
theorem PH.none_le (h:Heap):PH.none.le h:=fun _ _ x=>by cases x
theorem PH.ej (m:PH):PH.none.sub m:=fun _ _ x=>by cases x
theorem PH.cK (m:PH):m.mO PH.none:=fun _ _ _ _ x=>by cases x
def ek (h:Heap):PH:=fun k=>h[k]?
theorem uv (h:Heap):(ek h).le h:=fun _ _ x=>x
theorem PH.le.lt {m:PH} {h:Heap} (hm:m.le h) {k:Nat} {o:Obj} (e:m k=some o):k<h.size:=jY (hm k o e)
theorem PH.le.push {m:PH} {h:Heap} (hm:m.le h) (o:Obj):m.le (h.push o):=fun k o' e=>by rw[iK (hm.lt e)];exact hm k o' e
def HP:=PH→Prop
def Sat:List HP→PH→Prop
 |[],_=>True
 |R::Γ,m=>∃m1 m2,R m1∧Sat Γ m2∧m1.mO m2∧m1.sub m∧m2.sub m
theorem Sat.mono:∀{Γ:List HP} {m m':PH},Sat Γ m→m.sub m'→Sat Γ m'
 |[],_,_,_,_=>trivial
 |_::_,_,_,⟨m1,m2,a,b,c,d,e⟩,s=>⟨m1,m2,a,b,c,d.trans s,e.trans s⟩
theorem Sat.swap {R S:HP} {Γ:List HP} {m:PH} (h:Sat (R::S::Γ) m):Sat (S::R::Γ) m:=by
 obtain⟨m1,m2,a,⟨m3,m4,b,c,d,e,f⟩,g,i,j⟩:=h;exact⟨m3,m1.or m4,b,⟨m1,m4,a,c,g.mono (.refl _) f,PH.r8 _ _,PH.r9 (g.mono (.refl _) f)⟩,(PH.fv (g.mono (.refl _) e) d.symm).symm,e.trans j,PH.Ae i (f.trans j)⟩
theorem Sat.uw {R:HP} {Γ Δ:List HP} (hs:∀m,Sat Γ m→Sat Δ m) {m:PH} (h:Sat (R::Γ) m):Sat (R::Δ) m:=by
 obtain⟨m1,m2,a,b,c,d,e⟩:=h;exact⟨m1,m2,a,hs _ b,c,d,e⟩
inductive b6:List HP→HP→List HP→Prop where
 |head {R:HP} {Γ:List HP}:b6 (R::Γ) R Γ
 |tail {R S:HP} {Γ ah:List HP} (h:b6 Γ R ah):b6 (S::Γ) R (S::ah)
theorem b6.to {Γ ah:List HP} {R:HP} (s:b6 Γ R ah):∀{m:PH},Sat Γ m→Sat (R::ah) m:=by
 induction s with
 |head=>intro m h;exact h
 |tail _ ih=>intro m h;exact(Sat.uw (fun _=>ih) h).swap
theorem Sat.append:∀{Γ Δ:List HP} {m:PH},Sat (Γ++Δ) m→∃m1 m2,Sat Γ m1∧Sat Δ m2∧m1.mO m2∧m1.sub m∧m2.sub m
 |[],Δ,m,h=>⟨PH.none,m,trivial,h,(PH.cK m).symm,PH.ej m,PH.sub.refl m⟩
 |R::Γ,Δ,m,⟨m1,m2,a,b,c,d,e⟩=>by
  obtain⟨n1,n2,p,q,r,s,t⟩:=Sat.append b;exact⟨m1.or n1,n2,⟨m1,n1,a,p,c.mono (.refl _) s,PH.r8 _ _,PH.r9 (c.mono (.refl _) s)⟩,q,PH.fv (c.mono (.refl _) t) r,PH.Ae d (s.trans e),t.trans e⟩
theorem Sat.join:∀{Γ Δ:List HP} {m1 m2 m:PH},Sat Γ m1→Sat Δ m2→m1.mO m2→m1.sub m→m2.sub m→Sat (Γ++Δ) m
 |[],_,_,_,_,_,h,_,_,e=>h.mono e
 |R::Γ,Δ,m1,m2,m,⟨n1,n2,p,q,r,s,t⟩,h,d,e,f=>by
  refine⟨n1,n2.or m2,p,Sat.join q h (d.mono t (.refl _)) (PH.r8 _ _) (PH.r9 (d.mono t (.refl _))),(PH.fv r.symm (d.symm.mono (.refl _) s)).symm,s.trans e,PH.Ae (t.trans e) f⟩
def aw (Γ Δ:List HP):Prop:=∀m,Sat Γ m→Sat Δ m
theorem aw.refl (Γ:List HP):aw Γ Γ:=fun _ h=>h
theorem aw.trans {Γ Δ Ω:List HP} (h:aw Γ Δ) (k:aw Δ Ω):aw Γ Ω:=fun m x=>k m (h m x)
theorem aw.nil (Γ:List HP):aw Γ []:=fun _ _=>trivial
theorem aw.bP {Γ ah Δ:List HP} {R:HP} (s:b6 Γ R ah) (h:aw ah Δ):aw Γ (R::Δ):=fun _ x=>Sat.uw h (s.to x)
theorem aw.imp {Γ ah Δ:List HP} {R S:HP} (s:b6 Γ R ah) (hi:∀m,R m→S m) (h:aw ah Δ):aw Γ (S::Δ):=fun _ x=>by
 obtain⟨m1,m2,a,b,c⟩:=s.to x;exact⟨m1,m2,hi _ a,h _ b,c⟩
theorem aw.fold {Γ Θ ah Δ:List HP} {S:HP} (s:aw Γ (Θ++ah)) (hi:∀m,Sat Θ m→S m) (h:aw ah Δ):aw Γ (S::Δ):=fun m x=>by
 obtain⟨m1,m2,a,b,c⟩:=Sat.append (s m x);exact⟨m1,m2,hi _ a,h _ b,c⟩
structure Holds (σ:PH) (Γ:List HP) (f:PH) (h:Heap):Prop where
 ex:∃m,Sat Γ m∧m.le h∧σ.le h∧f.le h∧m.mO σ∧m.mO f∧σ.mO f
def Ho (σ:PH) (Γ:List HP) (h:Heap):Prop:=∃f,Holds σ Γ f h
theorem Holds.ho {σ f:PH} {Γ:List HP} {h:Heap} (x:Holds σ Γ f h):Ho σ Γ h:=⟨f,x⟩
theorem Holds.eS {σ f:PH} {Γ Δ:List HP} {h:Heap} (x:Holds σ Γ f h) (e:aw Γ Δ):Holds σ Δ f h:=by
 obtain⟨m,a,b⟩:=x;exact⟨m,e m a,b⟩
theorem Ho.eS {σ:PH} {Γ Δ:List HP} {h:Heap} (x:Ho σ Γ h) (e:aw Γ Δ):Ho σ Δ h:=by
 obtain⟨f,y⟩:=x;exact⟨f,y.eS e⟩
theorem Holds.wN {σ f:PH} {Γ:List HP} {h:Heap} (x:Holds σ Γ f h):σ.le h:=by obtain⟨m,a,b,c,d⟩:=x;exact c
theorem Holds.aside {σ f:PH} {Γ Δ:List HP} {h:Heap} (x:Holds σ (Γ++Δ) f h):∃f',Holds σ Γ f' h∧∀ag ah h',Holds ag ah f' h'→Holds ag (ah++Δ) f h':=by
 obtain⟨m,a,b,c,d,e,p,q⟩:=x;obtain⟨m1,m2,s1,s2,s3,s4,s5⟩:=Sat.append a;have hd:f.mO m2:=(p.mono s5 (.refl _)).symm;refine⟨f.or m2,⟨m1,s1,s4.le b,c,PH.sa d (s5.le b),e.mono s4 (.refl _),(PH.fv (p.mono s4 (.refl _)).symm s3.symm).symm,(PH.fv q.symm (e.mono s5 (.refl _))).symm⟩,?_⟩;rintro ag ah h' ⟨n,t1,t2,t3,t4,t5,t6,t7⟩;have hf:=PH.r8 f m2;have hm:=PH.r9 hd;have V9:n.mO m2:=t6.mono (.refl _) hm;exact⟨n.or m2,Sat.join t1 s2 V9 (PH.r8 _ _) (PH.r9 V9),PH.sa t2 (hm.le t4),t3,hf.le t4,PH.fv t5 (t7.symm.mono hm (.refl _)),PH.fv (t6.mono (.refl _) hf) hd.symm,t7.mono (.refl _) hf⟩
def cellsOf (l:List Value) (T:TypeId):Obj:=.cells l.toArray T (0,0)
def au (g:Nat) (l:List Value) (T:TypeId):HP:=fun m=>m g=some (cellsOf l T)
theorem Holds.au {σ f:PH} {Γ ah:List HP} {h:Heap} {g:Nat} {l:List Value} {T:TypeId} (x:Holds σ Γ f h) (s:b6 Γ (au g l T) ah):wX h g l T:=by
 obtain⟨m,a,b,c⟩:=x;obtain⟨m1,m2,p,q,r,t,u⟩:=s.to a;exact⟨b g _ (t g _ p)⟩
theorem Ho.au {σ:PH} {Γ ah:List HP} {h:Heap} {g:Nat} {l:List Value} {T:TypeId} (x:Ho σ Γ h) (s:b6 Γ (X.au g l T) ah):wX h g l T:=by
 obtain⟨f,y⟩:=x;exact y.au s
theorem Holds.alloc {σ f:PH} {Γ:List HP} {h:Heap} (x:Holds σ Γ f h) (l:List Value) (T:TypeId):Holds σ (X.au h.size l T::Γ) f (h.push (cellsOf l T)):=by
 obtain⟨m,a,b,c,d,e,p,q⟩:=x
 have fresh:∀{m:PH},m.le h→(PH.one h.size (cellsOf l T)).mO m:=fun {m} hm k o o' x y=>by
  obtain⟨rfl,-⟩:=PH.ib x;exact Nat.lt_irrefl _ (hm.lt y)
 refine⟨(PH.one h.size (cellsOf l T)).or m,⟨PH.one h.size (cellsOf l T),m,by simp[X.au,PH.one],a,fresh b,PH.r8 _ _,PH.r9 (fresh b)⟩,PH.sa (fun k o hk=>?_) (b.push _),c.push _,d.push _,PH.fv (fresh c) e,PH.fv (fresh d) p,q⟩;obtain⟨rfl,rfl⟩:=PH.ib hk;exact iL rfl
theorem Holds.set {σ f:PH} {Γ ah:List HP} {h:Heap} {g:Nat} {l:List Value} {T:TypeId} (x:Holds σ Γ f h) (s:b6 Γ (X.au g l T) ah) (l':List Value):Holds σ (X.au g l' T::ah) f (jL h g l' T):=by
 have hb:=x.au s;obtain⟨m,a,b,c,d,e,p,q⟩:=x;obtain⟨m1,m2,r1,r2,r3,r4,r5⟩:=s.to a;have Wa:m1 g=some (cellsOf l T):=r1
 have keep:∀{n:PH},n.le h→m1.mO n→n.le (jL h g l' T):=fun {n} hn hd k o hk=>by
  (have fW:k≠g:=fun e=>by subst e;exact hd k _ _ Wa hk);rw[qH fW];exact hn k o hk
 have hd:(PH.one g (cellsOf l' T)).mO m2:=fun k o o' x y=>by
  obtain⟨rfl,-⟩:=PH.ib x;exact r3 k _ _ Wa y
 refine⟨(PH.one g (cellsOf l' T)).or m2,⟨PH.one g (cellsOf l' T),m2,by simp[X.au,PH.one],r2,hd,PH.r8 _ _,PH.r9 hd⟩,PH.sa (fun k o hk=>?_) (keep (r5.le b) r3),keep c (e.mono r4 (.refl _)),keep d (p.mono r4 (.refl _)),PH.fv (fun k o o' x y=>?_) (e.mono r5 (.refl _)),PH.fv (fun k o o' x y=>?_) (p.mono r5 (.refl _)),q⟩
 ·obtain⟨rfl,rfl⟩:=PH.ib hk;exact tN hb.lt
 ·obtain⟨rfl,-⟩:=PH.ib x;exact(e.mono r4 (.refl _)) k _ _ Wa y
 ·obtain⟨rfl,-⟩:=PH.ib x;exact(p.mono r4 (.refl _)) k _ _ Wa y
theorem Holds.freeze {σ f:PH} {Γ ah:List HP} {R:HP} {h:Heap} (x:Holds σ Γ f h) (s:b6 Γ R ah):∃ag m,R m∧m.sub ag∧σ.sub ag∧Holds ag ah f h:=by
 obtain⟨m,a,b,c,d,e,p,q⟩:=x;obtain⟨m1,m2,r1,r2,r3,r4,r5⟩:=s.to a;have hd:σ.mO m1:=(e.mono r4 (.refl _)).symm;exact⟨σ.or m1,m1,r1,PH.r9 hd,PH.r8 _ _,m2,r2,r5.le b,PH.sa c (r4.le b),d,(PH.fv (e.mono r5 (.refl _)).symm r3).symm,p.mono r5 (.refl _),PH.fv q (p.mono r4 (.refl _))⟩
structure cz (σ:PH) (g o:Nat) (vs:List Value):Prop where
 ex:∃l T fr,σ g=some (.cells l T fr)∧(l.toList.drop o).take vs.length=vs
theorem cz.mono {σ ag:PH} {g o:Nat} {vs:List Value} (x:cz σ g o vs) (s:σ.sub ag):cz ag g o vs:=by
 obtain⟨l,T,fr,a,b⟩:=x;exact⟨l,T,fr,s _ _ a,b⟩
theorem cz.row {σ:PH} {h:Heap} (hs:σ.le h) {g o:Nat} {vs:List Value} (x:cz σ g o vs):Row h g o vs:=by
 obtain⟨l,T,fr,a,b⟩:=x;exact⟨l,T,fr,hs _ _ a,b⟩
theorem cz.of {h:Heap} {g o:Nat} {vs:List Value} (x:Row h g o vs):cz (ek h) g o vs:=by
 obtain⟨l,T,fr,a,b⟩:=x;exact⟨l,T,fr,a,b⟩
theorem cz.Fj {m:PH} {g o:Nat} {l vs:List Value} {T:TypeId} (x:au g l T m) (hv:(l.drop o).take vs.length=vs):cz m g o vs:=⟨_,T,_,x,by simpa using hv⟩
theorem cz.sub {σ:PH} {g o:Nat} {vs us:List Value} (hr:cz σ g o vs) {j:Nat} (hu:(vs.drop j).take us.length=us):cz σ g (o+j) us:=by
 obtain⟨l,T,fr,h1,h2⟩:=hr;refine⟨l,T,fr,h1,?_⟩
 have:us.length≤vs.length-j:=by
  have:=congrArg List.length hu;simp at this;omega
 rw[←h2] at hu;rw[List.drop_take,List.take_take,List.drop_drop] at hu
 rwa [Nat.min_eq_left this] at hu
structure At (S:Heap→Prop) (g o:Nat) (vs:List Value):Prop where
 out:∀h,S h→Row h g o vs
theorem At.wN {σ:PH} {Γ:List HP} {g o:Nat} {vs:List Value} (x:cz σ g o vs):At (Ho σ Γ) g o vs:=⟨fun _ hh=>by obtain⟨f,hh⟩:=hh;exact x.row hh.wN⟩
theorem At.au {σ:PH} {Γ ah:List HP} {g o:Nat} {l vs:List Value} {T:TypeId} (s:b6 Γ (X.au g l T) ah) (hv:(l.drop o).take vs.length=vs):At (Ho σ Γ) g o vs:=⟨fun _ hh=>(hh.au s).row hv⟩
structure j3 (S:Heap→Prop) (g o:Nat) (v:Value):Prop where
 out:∀h,S h→EL h g o v
theorem j3.wN {σ:PH} {Γ:List HP} {g o:Nat} {v:Value} (x:cz σ g o [v]):j3 (Ho σ Γ) g o v:=⟨fun _ hh=>by
 obtain⟨f,hh⟩:=hh;have:=(x.row hh.wN).OX (j:=0) (v:=v) rfl;simpa using this⟩
theorem j3.au {σ:PH} {Γ ah:List HP} {g o:Nat} {l:List Value} {v:Value} {T:TypeId} (s:b6 Γ (X.au g l T) ah) (hv:l[o]? =some v):j3 (Ho σ Γ) g o v:=⟨fun _ hh=>(hh.au s).OX hv⟩
theorem Ld.SA {P:Program} {S:Heap→Prop} {T:TypeId} {r:Ty} (hT:av P T=some r) (hk:r.k.agg=false) {g o:Nat} {v:Value} (hc:j3 S g o v):∀h,S h→Ld P h T g o v:=fun h hh=>Ld.one hT hk (hc.out h hh)
theorem Ld.at {P:Program} {S:Heap→Prop} {T:TypeId} {r:Ty} (hT:av P T=some r) (hk:r.k.agg=true) {g o:Nat} {vs:List Value} (hc:At S g o vs) (hn:vs.length=r.size):∀h,S h→Ld P h T g o (.agg vs.toArray):=fun h hh=>Ld.row hT hk (hc.out h hh) hn
end X
end Go.Proofs.YtgeoiflbjcehcaaGreatDoor
namespace Go.Proofs.YtgeoiflbjcehcaaGreatDoor
open Go
namespace X
abbrev KA:=Exit→Env→PH→List HP→Prop
def KF (f:PH) (K:KA):jb:=fun e ρ h=>∃σ Γ,K e ρ σ Γ∧Holds σ Γ f h
structure XA (P:Program) (N:Nat) (c:Code) (ρ:Env) (σ:PH) (Γ:List HP) (K:KA):Prop where
 out:∀f h,Holds σ Γ f h→X P N c ρ h (KF f K)
structure az (P:Program) (N:Nat) (all:Array Oper) (l:List Oper) (ρ:Env) (σ:PH) (Γ:List HP) (K:KA):Prop where
 out:∀f h,Holds σ Γ f h→XO P N all l ρ h (KF f K)
structure DA (K:KA) (e:Exit) (ρ:Env) (σ:PH) (Γ:List HP):Prop where
 out:∀f h,Holds σ Γ f h→KF f K e ρ h
class eX (J:PH→List HP→Prop):Prop where
 eS:∀{σ Γ Δ},aw Γ Δ→J σ Δ→J σ Γ
 qM:∀{σ Γ ah R},b6 Γ R ah→(∀ag m,R m→m.sub ag→σ.sub ag→J ag ah)→J σ Γ
 aY:∀{σ Γ ah R},b6 Γ R ah→∀{α:Type} {Θ:α→List HP},(∀m,R m→∃x,Sat (Θ x) m)→(∀x,J σ (Θ x++ah))→J σ Γ
def mJ (next:Env→PH→List HP→Prop) (K:KA):KA
 |.normal,ρ,σ,Γ=>next ρ σ Γ
 |e,ρ,σ,Γ=>K e ρ σ Γ
def Af (id:Nat) (K:KA):KA
 |.exit EK,ρ,σ,Γ=>if EK=id then K .normal ρ σ Γ else K (.exit EK) ρ σ Γ
 |e,ρ,σ,Γ=>K e ρ σ Γ
theorem na {σ f:PH} {Γ ah:List HP} {R:HP} {h:Heap} (x:Holds σ Γ f h) (s:b6 Γ R ah) {α:Type} {Θ:α→List HP} (ho:∀m,R m→∃x,Sat (Θ x) m):∃x,Holds σ (Θ x++ah) f h:=by
 obtain⟨m,a,b⟩:=x;obtain⟨m1,m2,r1,r2,r3,r4,r5⟩:=s.to a;obtain⟨x,hx⟩:=ho _ r1;exact⟨x,m,Sat.join hx r2 r3 r4 r5,b⟩
variable {P:Program} {N:Nat} {ρ:Env} {σ:PH} {Γ:List HP} {K:KA}
instance {c:Code}:eX (fun σ Γ=>XA P N c ρ σ Γ K) where
 eS he hx:=⟨fun f h hh=>hx.out f h (hh.eS he)⟩
 qM s k:=⟨fun f h hh=>by obtain⟨ag,m,a,b,c,d⟩:=hh.freeze s;exact(k ag m a b c).out f h d⟩
 aY s _ _ ho k:=⟨fun f h hh=>by obtain⟨x,hx⟩:=na hh s ho;exact(k x).out f h hx⟩
instance {all:Array Oper} {l:List Oper}:eX (fun σ Γ=>az P N all l ρ σ Γ K) where
 eS he hx:=⟨fun f h hh=>hx.out f h (hh.eS he)⟩
 qM s k:=⟨fun f h hh=>by obtain⟨ag,m,a,b,c,d⟩:=hh.freeze s;exact(k ag m a b c).out f h d⟩
 aY s _ _ ho k:=⟨fun f h hh=>by obtain⟨x,hx⟩:=na hh s ho;exact(k x).out f h hx⟩
instance {e:Exit}:eX (fun σ Γ=>DA K e ρ σ Γ) where
 eS he hx:=⟨fun f h hh=>hx.out f h (hh.eS he)⟩
 qM s k:=⟨fun f h hh=>by obtain⟨ag,m,a,b,c,d⟩:=hh.freeze s;exact(k ag m a b c).out f h d⟩
 aY s _ _ ho k:=⟨fun f h hh=>by obtain⟨x,hx⟩:=na hh s ho;exact(k x).out f h hx⟩
theorem eS {J:PH→List HP→Prop} [eX J] {Δ:List HP} (he:aw Γ Δ) (hx:J σ Δ):J σ Γ:=eX.eS he hx
theorem DA.here {e:Exit} (hk:K e ρ σ Γ):DA K e ρ σ Γ:=⟨fun _ _ hh=>⟨σ,Γ,hk,hh⟩⟩
theorem DA.eS {e:Exit} {Δ:List HP} (he:aw Γ Δ) (hx:DA K e ρ σ Δ):DA K e ρ σ Γ:=⟨fun f h hh=>hx.out f h (hh.eS he)⟩
theorem XA.seq {x y:Code} (hx:XA P N x ρ σ Γ (mJ (fun ρ σ Γ=>XA P N y ρ σ Γ K) K)):XA P N (.seq x y) ρ σ Γ K:=by
 refine⟨fun f h hh=>X.seq (X.mono (hx.out f h hh) ?_)⟩;rintro e cI h' ⟨ag,ah,hk,je⟩
 cases e with
 |normal=>exact hk.out f h' je
 |_=>exact⟨ag,ah,hk,je⟩
theorem XA.block {id:Nat} {c:Code} (hx:XA P N c ρ σ Γ (Af id K)):XA P N (.block id c) ρ σ Γ K:=by
 refine⟨fun f h hh=>X.block (X.mono (hx.out f h hh) ?_)⟩;rintro e cI h' ⟨ag,ah,hk,je⟩
 cases e with
 |exit EK=>
  simp only[Af] at hk;simp only[Im];split<;>rename_i hid
  ·rw[if_pos hid] at hk;exact⟨ag,ah,hk,je⟩
  ·rw[if_neg hid] at hk;exact⟨ag,ah,hk,je⟩
 |_=>exact⟨ag,ah,hk,je⟩
theorem XA.skip (hk:DA K .normal ρ σ Γ):XA P N .skip ρ σ Γ K:=⟨fun f h hh=>X.skip (hk.out f h hh)⟩
theorem XA.ret (hk:DA K .ret ρ σ Γ):XA P N .ret ρ σ Γ K:=⟨fun f h hh=>X.ret (hk.out f h hh)⟩
theorem XA.exit {id:Nat} (hk:DA K (.exit id) ρ σ Γ):XA P N (.exit id) ρ σ Γ K:=⟨fun f h hh=>X.exit (hk.out f h hh)⟩
theorem XA.cond {c:Operand} {x y:Code} {b:Bool} (hc:ev ρ c=.bool b) (ht:b=true→XA P N x ρ σ Γ K) (hf:b=false→XA P N y ρ σ Γ K):XA P N (.cond c x y) ρ σ Γ K:=
 ⟨fun f h hh=>X.cond hc (fun e=>(ht e).out f h hh) (fun e=>(hf e).out f h hh)⟩
theorem XA.bI {c:Operand} {x y:Code} {p:Prop} {inst:Decidable p} (hc:ev ρ c=.bool (@decide p inst)) (ht:p→XA P N x ρ σ Γ K) (hf:¬p→XA P N y ρ σ Γ K):XA P N (.cond c x y) ρ σ Γ K:=
 XA.cond hc (fun e=>ht (by simpa using e)) (fun e=>hf (by simpa using e))
theorem XA.bG {c:Operand} {x y:Code} {b:Bool} (hc:ev ρ c=.bool b) (hb:b=true) (ht:XA P N x ρ σ Γ K):XA P N (.cond c x y) ρ σ Γ K:=
 XA.cond hc (fun _=>ht) (fun e=>by rw[hb] at e;cases e)
theorem XA.aR {c:Operand} {x y:Code} {b:Bool} (hc:ev ρ c=.bool b) (hb:b=false) (hf:XA P N y ρ σ Γ K):XA P N (.cond c x y) ρ σ Γ K:=
 XA.cond hc (fun e=>by rw[hb] at e;cases e) (fun _=>hf)
theorem XA.region {id:Nat} {l:List Oper} (hx:az P N l.toArray l ρ σ Γ K):XA P N (.region id l.toArray false) ρ σ Γ K:=⟨fun f h hh=>X.region (hx.out f h hh)⟩
theorem DA.bE {next:Env→PH→List HP→Prop} (hk:next ρ σ Γ):DA (mJ next K) .normal ρ σ Γ:=.here hk
theorem DA.map {K':KA} {e e':Exit} (hk:DA K e ρ σ Γ) (hm:∀ρ σ Γ,K e ρ σ Γ→K' e' ρ σ Γ):DA K' e' ρ σ Γ:=⟨fun f h hh=>by
 obtain⟨ag,ah,a,b⟩:=hk.out f h hh;exact⟨ag,ah,hm _ _ _ a,b⟩⟩
theorem DA.wV {next:Env→PH→List HP→Prop} {id:Nat} (hk:DA K (.exit id) ρ σ Γ):DA (mJ next K) (.exit id) ρ σ Γ:=hk.map fun _ _ _ h=>h
theorem DA.vh {next:Env→PH→List HP→Prop} (hk:DA K .ret ρ σ Γ):DA (mJ next K) .ret ρ σ Γ:=hk.map fun _ _ _ h=>h
theorem DA.ax {next:Env→PH→List HP→Prop} {c:List PanicEntry} (hk:DA K (.panic c) ρ σ Γ):DA (mJ next K) (.panic c) ρ σ Γ:=hk.map fun _ _ _ h=>h
theorem DA.rX {id:Nat} (hk:DA K .normal ρ σ Γ):DA (Af id K) .normal ρ σ Γ:=hk.map fun _ _ _ h=>h
theorem DA.BF {id:Nat} (hk:DA K .ret ρ σ Γ):DA (Af id K) .ret ρ σ Γ:=hk.map fun _ _ _ h=>h
theorem DA.ay {id:Nat} {c:List PanicEntry} (hk:DA K (.panic c) ρ σ Γ):DA (Af id K) (.panic c) ρ σ Γ:=hk.map fun _ _ _ h=>h
theorem DA.wW {id:Nat} (hk:DA K .normal ρ σ Γ):DA (Af id K) (.exit id) ρ σ Γ:=hk.map fun _ _ _ h=>by simp only[Af,if_true];exact h
structure aC (P:Program) (ρ:Env) (σ:PH) (Γ:List HP) (op:Op) (ty:TypeId) (R:Value→PH→List HP→Prop) (pk:List PanicEntry→PH→List HP→Prop):Prop where
 out:∀f h,Holds σ Γ f h→Wr P ρ h op ty (fun v h'=>∃ag ah,R v ag ah∧Holds ag ah f h') (fun c h'=>∃ag ah,pk c ag ah∧Holds ag ah f h')
abbrev fw:List PanicEntry→PH→List HP→Prop:=fun _ _ _=>False
section
variable {all:Array Oper} {rest:List Oper}
theorem az.nil (hk:DA K .normal ρ σ Γ):az P N all [] ρ σ Γ K:=⟨fun f h hh=>XO.nil (hk.out f h hh)⟩
theorem az.rd {op:Op} {d:Nat} {ty:TypeId} {pos:String} {af:Array Edge} {v:Value} (hd:Nat.blt d N=true)
 (hr:Rd P ρ (Ho σ Γ) op ty v) (k:az P N all rest (cp ρ d v) σ Γ K):az P N all (⟨some d,op,ty,pos,af,none⟩::rest) ρ σ Γ K:=
 ⟨fun f h hh=>XO.rd hd ⟨fun d pos af g w hw=>hr.out d pos af g w (hw▸hh.ho)⟩ (k.out f h hh)⟩
theorem az.wr {op:Op} {d:Option Nat} {ty:TypeId} {pos:String} {af:Array Edge} {R:Value→PH→List HP→Prop} {pk:List PanicEntry→PH→List HP→Prop} (hd:ei N d=true)
 (hr:aC P ρ σ Γ op ty R pk) (k:∀v ag ah,R v ag ah→az P N all rest (fX ρ d v) ag ah K) (kp:∀c ag ah,pk c ag ah→DA K (.panic c) ρ ag ah):
 az P N all (⟨d,op,ty,pos,af,none⟩::rest) ρ σ Γ K:=
 ⟨fun f h hh=>XO.wr hd (hr.out f h hh) (fun v h' ⟨ag,ah,a,b⟩=>(k v ag ah a).out f h' b) (fun c h' ⟨ag,ah,a,b⟩=>(kp c ag ah a).out f h' b)⟩
theorem az.fL {op:Op} {d:Option Nat} {ty:TypeId} {pos:String} {af:Array Edge} {R:Value→PH→List HP→Prop} (hd:ei N d=true)
 (hr:aC P ρ σ Γ op ty R fw) (k:∀v ag ah,R v ag ah→az P N all rest (fX ρ d v) ag ah K):az P N all (⟨d,op,ty,pos,af,none⟩::rest) ρ σ Γ K:=az.wr hd hr k (fun _ _ _ hp=>hp.elim)
theorem az.wanted {d:Option Nat} {op:Op} {ty:TypeId} {pos:String} {af:Array Edge} {j:Nat} {b:Bool} {t:Nat} (hj:(all[j]?).bind (·.dst)=some t) (hb:ρ t=.bool b)
 (k:az P N all (⟨d,op,ty,pos,af,none⟩::rest) ρ σ Γ K):az P N all (⟨d,op,ty,pos,af,some (j,b)⟩::rest) ρ σ Γ K:=⟨fun f h hh=>XO.wanted hj hb (k.out f h hh)⟩
theorem az.rY {d:Nat} {op:Op} {ty:TypeId} {pos:String} {af:Array Edge} {j:Nat} {b c:Bool} {t:Nat} (hd:Nat.blt d N=true) (hj:(all[j]?).bind (·.dst)=some t) (hb:ρ t=.bool c) (fW:(c==b)=false)
 (k:az P N all rest (cp ρ d undef) σ Γ K):az P N all (⟨some d,op,ty,pos,af,some (j,b)⟩::rest) ρ σ Γ K:=⟨fun f h hh=>XO.rY hd hj hb fW (k.out f h hh)⟩
theorem az.pD {d:Nat} {op:Op} {ty:TypeId} {pos:String} {af:Array Edge} {j:Nat} {b:Bool} {t:Nat} (hd:Nat.blt d N=true) (hj:(all[j]?).bind (·.dst)=some t) (hb:ρ t=undef)
 (k:az P N all rest (cp ρ d undef) σ Γ K):az P N all (⟨some d,op,ty,pos,af,some (j,b)⟩::rest) ρ σ Γ K:=⟨fun f h hh=>XO.pD hd hj hb (k.out f h hh)⟩
theorem az.Kk {p:Prop} {inst:Decidable p} {d:Option Nat} {op:Op} {ty:TypeId} {pos:String} {af:Array Edge} {j:Nat} {b:Bool} {t:Nat} (hj:(all[j]?).bind (·.dst)=some t) (hb:ρ t=.bool (@decide p inst)) (hp:@decide p inst=b)
 (k:az P N all (⟨d,op,ty,pos,af,none⟩::rest) ρ σ Γ K):az P N all (⟨d,op,ty,pos,af,some (j,b)⟩::rest) ρ σ Γ K:=az.wanted hj (hp▸hb) k
end
theorem Wr.H0 {op:Op} {ty:TypeId} {R:Value→PH→List HP→Prop} {Q:Heap→Value→Heap→Prop} (hr:∀h,Ho σ Γ h→Wr P ρ h op ty (Q h) mI) (hq:∀f h v h',Holds σ Γ f h→Q h v h'→∃ag ah,R v ag ah∧Holds ag ah f h'):aC P ρ σ Γ op ty R fw:=
 ⟨fun f h hh=>⟨fun d pos af g a w next Q' he hw hn hp=>(hr h hh.ho).out d pos af g a w next Q' he hw (fun v w' s q=>hn v w' s (hq f h v _ hh q)) (fun _ _ _ q=>q.elim)⟩⟩
section
variable {ty:TypeId}
theorem aC.alloc {T:TypeId} {r:Ty} (hT:av P T=some r):aC P ρ σ Γ (.alloc T) ty (fun v ag ah=>∃g,v=.pointer (some ⟨g,0,none⟩)∧σ=ag∧ah=au g r.zero T::Γ) fw:=
 Wr.H0 (Q:=fun h v h'=>v=.pointer (some ⟨h.size,0,none⟩)∧h'=h.push (cellsOf r.zero T)) (fun _ _=>Wr.alloc hT rfl) fun f h v h' hh ⟨e1,e2⟩=>⟨σ,_,⟨h.size,e1,rfl,rfl⟩,e2▸hh.alloc _ _⟩
theorem aC.box {T:TypeId} {x:Operand} {v:Value} {l:List Value} (hx:ev ρ x=v) (hl:v.cells=l.toArray):aC P ρ σ Γ (.box T x) ty (fun v' ag ah=>∃g,v'=.pointer (some ⟨g,0,none⟩)∧σ=ag∧ah=au g l T::Γ) fw:=
 Wr.H0 (Q:=fun h v h'=>v=.pointer (some ⟨h.size,0,none⟩)∧h'=h.push (cellsOf l T)) (fun _ _=>Wr.box hx rfl hl) fun f h v h' hh ⟨e1,e2⟩=>⟨σ,_,⟨h.size,e1,rfl,rfl⟩,e2▸hh.alloc _ _⟩
theorem aC.store {T:TypeId} {x y:Operand} {g o:Nat} {v:Value} {vs:List Value} {r:Ty} {l l':List Value} {T':TypeId} {ah:List HP} (hT:av P T=some r) (hx:ev ρ x=.pointer (some ⟨g,o,none⟩)) (s:b6 Γ (au g l T') ah) (hy:ev ρ y=v) (hv:v.cells=vs.toArray)
 (hn:vs.length=r.size) (ey:o+r.size≤l.length) (h1:dn vs) (hh:aJ l o vs=l'):aC P ρ σ Γ (.store T x y) ty (fun v' ag Δ=>v'=undef∧σ=ag∧Δ=au g l' T'::ah) fw:=
 Wr.H0 (Q:=fun h v h'=>v=undef∧h'=jL h g l' T') (fun h je=>Wr.store hT hx hy hv (je.au s) hn ey h1 hh) fun f h v h' je ⟨e1,e2⟩=>⟨σ,_,⟨e1,rfl,rfl⟩,e2▸je.set s l'⟩
theorem aC.z7 {T e:TypeId} {x:Operand} {v:Value} {r re:Ty} {l:List Value} (hT:av P T=some r) (hk:r.k=.slice e) (hE:av P e=some re) (hx:ev ρ x=v) (hl:v.cells=l.toArray) (Is:l.length=re.size) (hz:re.zero.length=re.size) (hs:re.size≤1000) (Dg:Nat.beq re.size 0=false):
 aC P ρ σ Γ (.buildSlice T 1 #[(0,x)]) ty (fun v' ag ah=>∃g,v'=.slice (some ⟨g,0,none⟩) 1 1∧σ=ag∧ah=au g l e::Γ) fw:=
 Wr.H0 (Q:=fun h v h'=>v=.slice (some ⟨h.size,0,none⟩) 1 1∧h'=h.push (cellsOf l e)) (fun _ _=>Wr.z7 hT hk hE hx rfl hl Is hz hs Dg) fun f h v h' hh ⟨e1,e2⟩=>⟨σ,_,⟨h.size,e1,rfl,rfl⟩,e2▸hh.alloc _ _⟩
theorem aC.buildSlice {T e len:Nat} {tb:Nat→Option Ty} {parts:List (Nat×Operand)} {ps:List (Nat×Value)} {r re:Ty} {cs:List Value} (wM:∀T r,tb T=some r→av P T=some r) (hT:tb T=some r) (hk:r.k=.slice e) (hE:tb e=some re) (hz:re.zero.length=re.size)
 (nR:Nat.ble (len*re.size) 16777216=true) (hp:(parts.map fun p=>(p.1,ev ρ p.2))=ps) (hb:tI (fun i=>some (i*re.size,re.size)) ps ((List.range (len*re.size)).map fun k=>re.zero.getD (k%re.size) undef)=some cs):
 aC P ρ σ Γ (.buildSlice T len parts.toArray) ty (fun v' ag ah=>∃g,v'=.slice (some ⟨g,0,none⟩) len len∧σ=ag∧ah=au g cs e::Γ) fw:=
 Wr.H0 (Q:=fun h v h'=>v=.slice (some ⟨h.size,0,none⟩) len len∧h'=h.push (cellsOf cs e)) (fun _ _=>Wr.buildSlice wM hT hk hE rfl hz nR hp hb) fun f h v h' hh ⟨e1,e2⟩=>⟨σ,_,⟨h.size,e1,rfl,rfl⟩,e2▸hh.alloc _ _⟩
def Xu (g cap:Nat) (e size n:Nat) (xs:List Value):HP:=fun m=>∃cur,au g cur e m∧n≤cap∧cap≤maxLen∧cap*size≤cur.length∧cur.take (n*size)=xs
def bn (e size:Nat) (v:Value) (n:Nat) (xs:List Value):HP:=fun m=>xs.length=n*size∧((v=.slice none 0 0∧n=0)∨∃g cap,v=.slice (some ⟨g,0,none⟩) n cap∧Xu g cap e size n xs m)
theorem BM (e size:Nat) (m:PH):bn e size (.slice none 0 0) 0 [] m:=⟨by simp,.inl ⟨rfl,rfl⟩⟩
theorem Holds.own {f:PH} {ah:List HP} {h:Heap} {e size n:Nat} {v:Value} {xs:List Value} (x:Holds σ Γ f h) (s:b6 Γ (bn e size v n xs) ah):tQ h e size v n xs (fun g=>v.ownBlock=some g):=by
 obtain⟨m,a,b,c⟩:=x;obtain⟨m1,m2,⟨p1,p2⟩,q,r,t,u⟩:=s.to a;refine⟨p1,p2.imp id ?_⟩;rintro⟨g,cap,rfl,cur,w1,w2⟩;exact⟨g,cap,cur,rfl,rfl,⟨b g _ (t g _ w1)⟩,w2⟩
theorem Holds.app {f:PH} {ah:List HP} {h h':Heap} {e size n n':Nat} {v v':Value} {xs xs':List Value} (x:Holds σ Γ f h) (s:b6 Γ (bn e size v n xs) ah) (ho:tQ h' e size v' n' xs' (fun g=>v.ownBlock=some g∨h.size≤g)) (hb:Ac h h' v.ownBlock):Holds σ (bn e size v' n' xs'::ah) f h':=by
 obtain⟨m,a,b,c,d,i,p,q⟩:=x;obtain⟨m1,m2,⟨r0,r1⟩,r2,r3,r4,r5⟩:=s.to a
 have own:∀g,v.ownBlock=some g→∃o,m1 g=some o:=by
  intro g hg;rcases r1 with ⟨rfl,-⟩|⟨g',cap,rfl,cur,w1,w2⟩
  ·cases hg
  ·simp only[Value.ownBlock,Option.some.injEq] at hg;subst hg;exact⟨_,w1⟩
 have keep:∀{n:PH},n.le h→m1.mO n→n.le h':=fun {n} hn hd k o hk=>by
  rw[hb.get k (hn.lt hk) (fun e=>?_)]
  ·exact hn k o hk
  ·obtain⟨o',Xv⟩:=own k e.symm;exact hd k _ _ Xv hk
 obtain⟨q1,q2⟩:=ho;rcases q2 with ⟨rfl,rfl⟩|⟨g,cap,cur,rfl,hF,hg,z1,z2,z3,z4⟩
 ·exact⟨m2,⟨PH.none,m2,⟨q1,.inl ⟨rfl,rfl⟩⟩,r2,(PH.cK m2).symm,PH.ej _,.refl _⟩,keep (r5.le b) r3,keep c (i.mono r4 (.refl _)),keep d (p.mono r4 (.refl _)),i.mono r5 (.refl _),p.mono r5 (.refl _),q⟩
 ·have mO:∀{n:PH},n.le h→m1.mO n→(PH.one g (cellsOf cur e)).mO n:=fun {n} hn hd k o o' x y=>by
   obtain⟨rfl,-⟩:=PH.ib x;rcases hF with hF|hF
   ·obtain⟨o',Xv⟩:=own k hF;exact hd k _ _ Xv y
   ·exact absurd (hn.lt y) (by omega)
  have d2:=mO (r5.le b) r3;refine⟨(PH.one g (cellsOf cur e)).or m2,⟨PH.one g (cellsOf cur e),m2,⟨q1,.inr ⟨g,cap,rfl,cur,by simp[X.au,PH.one],z1,z2,z3,z4⟩⟩,r2,d2,PH.r8 _ _,PH.r9 d2⟩,PH.sa (fun k o hk=>?_) (keep (r5.le b) r3),keep c (i.mono r4 (.refl _)),keep d (p.mono r4 (.refl _)),PH.fv (mO c (i.mono r4 (.refl _))) (i.mono r5 (.refl _)),PH.fv (mO d (p.mono r4 (.refl _))) (p.mono r5 (.refl _)),q⟩;obtain⟨rfl,rfl⟩:=PH.ib hk;exact hg.get
theorem aC.append {T e:TypeId} {x y:Operand} {ty:TypeId} {r re:Ty} {v:Value} {n m c g o:Nat} {xs news:List Value} {ah:List HP} (hT:av P T=some r) (hk:r.k=.slice e) (hE:av P e=some re) (hz:re.zero.length=re.size)
 (hs:ev ρ x=v) (s:b6 Γ (bn e re.size v n xs) ah) (hy:ev ρ y=.slice (some ⟨g,o,none⟩) m c) (bL:At (Ho σ Γ) g o news) (hl:news.length=m*re.size) (h1:dn news) (hm:0<m) (zg:n+m≤maxLen) (hb:(n+m)*re.bytes≤140737488355328):
 aC P ρ σ Γ (.call {callee:=.builtin .append,args:=#[x,y],argTypes:=#[T,T]}) ty (fun v' ag Δ=>∃p c,v'=.slice p (n+m) c∧σ=ag∧Δ=bn e re.size (.slice p (n+m) c) (n+m) (xs++news)::ah) fw:=
 ⟨fun f h hh=>⟨fun d pos af gd a w next Q' he hw hn hp=>
  (Wr.append hT hk hE hz (hh.own s) hs (bL.out h hh.ho) hy hl h1 hm zg hb).out d pos af gd a w next Q' he hw (fun v' w' sm q=>by obtain⟨p,c,rfl⟩:=q.1.shape;exact hn _ w' sm ⟨σ,_,⟨p,c,rfl,rfl,rfl⟩,hh.app s q.1 q.2.1⟩) (fun _ _ _ q=>q.elim)⟩⟩
theorem aC.Kl {T e:TypeId} {x y:Operand} {ty:TypeId} {r re:Ty} {v:Value} {n c g:Nat} {xs news:List Value} {b7 ah:List HP} {T':TypeId} (hT:av P T=some r) (hk:r.k=.slice e) (hE:av P e=some re) (hz:re.zero.length=re.size)
 (hs:ev ρ x=v) (hy:ev ρ y=.slice (some ⟨g,0,none⟩) 1 c) (hg:b6 Γ (au g news T') b7) (s:b6 b7 (bn e re.size v n xs) ah) (hl:news.length=re.size) (h1:dn news) (zg:n+1≤maxLen) (hb:(n+1)*re.bytes≤140737488355328):
 aC P ρ σ Γ (.call {callee:=.builtin .append,args:=#[x,y],argTypes:=#[T,T]}) ty (fun v' ag Δ=>∃p c,v'=.slice p (n+1) c∧σ=ag∧Δ=bn e re.size (.slice p (n+1) c) (n+1) (xs++news)::ah) fw:=
 ⟨fun f h hh=>⟨fun d pos af gd a w next Q' he hw hn hp=>by
  have h2:Holds σ b7 f h:=hh.eS (fun m hm=>by obtain⟨m1,m2,p,q,r,s,t⟩:=hg.to hm;exact q.mono t)
  exact(Wr.append hT hk hE hz (h2.own s) hs (hh.ho.au hg).OY hy (by omega) h1 (by omega) zg hb).out d pos af gd a w next Q' he hw (fun v' w' sm q=>by obtain⟨p,c,rfl⟩:=q.1.shape;exact hn _ w' sm ⟨σ,_,⟨p,c,rfl,rfl,rfl⟩,h2.app s q.1 q.2.1⟩) (fun _ _ _ q=>q.elim)⟩⟩
end
def ae (P:Program) (f:FuncId) (vs:Array Value) (σ:PH) (Γ:List HP) (R:Ending→PH→List HP→Prop):Prop:=
 Enters P f∧∀fr h,Holds σ Γ fr h→fH P f vs h (fun e h'=>∃ag ah,R e ag ah∧Holds ag ah fr h')
def aE (R:Value→PH→List HP→Prop):Ending→PH→List HP→Prop
 |.returned v,σ,Γ=>R v σ Γ
 |_,_,_=>False
theorem ae.mono {f:FuncId} {vs:Array Value} {R R':Ending→PH→List HP→Prop} (hc:ae P f vs σ Γ R) (hr:∀e ag ah,R e ag ah→R' e ag ah):ae P f vs σ Γ R':=
 ⟨hc.1,fun fr h hh=>(hc.2 fr h hh).mono fun e h' ⟨ag,ah,a,b⟩=>⟨ag,ah,hr _ _ _ a,b⟩⟩
theorem ae.ret {f:FuncId} {vs:Array Value} {R R':Value→PH→List HP→Prop} (hc:ae P f vs σ Γ (aE R)) (hr:∀v ag ah,R v ag ah→R' v ag ah):ae P f vs σ Γ (aE R'):=
 ae.mono hc fun e _ _ he=>by cases e<;>first|exact hr _ _ _ he|exact he
theorem ae.frame {f:FuncId} {vs:Array Value} {R:Ending→PH→List HP→Prop} {bp:List HP} (Δ:List HP) (hc:ae P f vs σ bp R) (he:aw Γ (bp++Δ)):ae P f vs σ Γ (fun e ag ah=>∃b7,R e ag b7∧ah=b7++Δ):=
 ⟨hc.1,fun fr h hh=>by
  obtain⟨f',a,b⟩:=(hh.eS he).aside
  exact(hc.2 f' h a).mono fun e h' ⟨ag,ah,x,y⟩=>⟨ag,_,⟨ah,x,rfl⟩,b _ _ _ y⟩⟩
theorem aC.ur {f:FuncId} {fo:Operand} {first cap:List Value} {args:List Operand} {jx:Array TypeId} {vs:List Value} {ty:TypeId} {R:Ending→PH→List HP→Prop} {bp Δ:List HP} (hf:ev ρ fo=.func (.func f) first.toArray cap.toArray)
 (hc:ae P f vs.toArray σ bp R) (hv:first++args.map (ev ρ)++cap=vs) (he:aw Γ (bp++Δ)) (ko:∀ag ah,¬R .outgrown ag ah):
 aC P ρ σ Γ (.call {callee:=.value fo,args:=args.toArray,argTypes:=jx}) ty (fun v ag ah=>∃b7,R (.returned v) ag b7∧ah=b7++Δ) (fun c ag ah=>∃b7,R (.panicked c) ag b7∧ah=b7++Δ):=
 ⟨fun fr h hh=>Wr.ur hf ((ae.frame Δ hc he).2 fr h hh) hv (fun h'=>by rintro⟨ag,ah,⟨b7,x,-⟩,-⟩;exact ko _ _ x)⟩
theorem aC.mI {op:Op} {ty:TypeId} {R:Value→PH→List HP→Prop} {pk:List PanicEntry→PH→List HP→Prop} (hw:aC P ρ σ Γ op ty R pk) (hn:∀c ag ah,¬pk c ag ah):aC P ρ σ Γ op ty R fw:=
 ⟨fun f h hh=>⟨fun d pos af g a w next Q' he Iv O0 hp=>(hw.out f h hh).out d pos af g a w next Q' he Iv O0 (fun c w' _ q=>by obtain⟨ag,ah,x,y⟩:=q;exact(hn _ _ _ x).elim)⟩⟩
theorem aC.NT {f:FuncId} {fo:Operand} {first cap:List Value} {args:List Operand} {jx:Array TypeId} {vs:List Value} {ty:TypeId} {R:Value→PH→List HP→Prop} {bp Δ:List HP} (hf:ev ρ fo=.func (.func f) first.toArray cap.toArray)
 (hc:ae P f vs.toArray σ bp (aE R)) (hv:first++args.map (ev ρ)++cap=vs) (he:aw Γ (bp++Δ)):
 aC P ρ σ Γ (.call {callee:=.value fo,args:=args.toArray,argTypes:=jx}) ty (fun v ag ah=>∃b7,R v ag b7∧ah=b7++Δ) fw:=
 (aC.ur hf hc hv he (fun _ _ hp=>hp)).mI (fun _ _ _ ⟨_,hp,_⟩=>hp)
theorem aC.call {f:FuncId} {args:List Operand} {jx:Array TypeId} {vs:List Value} {ty:TypeId} {R:Value→PH→List HP→Prop} {bp Δ:List HP}
 (hc:ae P f vs.toArray σ bp (aE R)) (hv:args.map (ev ρ)=vs) (he:aw Γ (bp++Δ)):
 aC P ρ σ Γ (.call {callee:=.value (.func f),args:=args.toArray,argTypes:=jx}) ty (fun v ag ah=>∃b7,R v ag b7∧ah=b7++Δ) fw:=
 aC.NT (first:=[]) (cap:=[]) rfl hc (by simpa using hv) he
def aG (P:Program) (fn:Func) (ρ:Env) (σ:PH) (Γ:List HP) (v:Value):Prop:=∀h,Ho σ Γ h→wZ P fn ρ h v
def ao (P:Program) (fn:Func) (R:Ending→PH→List HP→Prop):KA
 |.normal,ρ,σ,Γ|.ret,ρ,σ,Γ=>∃v,aG P fn ρ σ Γ v∧∃ah,aw Γ ah∧R (.returned v) σ ah
 |.panic c,_,σ,Γ=>R (.panicked c) σ Γ
 |_,_,_,_=>False
theorem XA.Ql {fn:Func} {c:Code} {R:Ending→PH→List HP→Prop} (hx:XA P fn.ntmps c ρ σ Γ (ao P fn R)) {fr:PH} {h:Heap} (hh:Holds σ Γ fr h):X P fn.ntmps c ρ h (nY P fn (fun e h'=>∃ag ah,R e ag ah∧Holds ag ah fr h')):=by
 refine X.mono (hx.out fr h hh) ?_;rintro e cI h' ⟨ag,ah,hk,je⟩
 cases e with
 |normal=>obtain⟨v,a,Δ,b,c⟩:=hk;exact⟨v,a h' je.ho,ag,Δ,c,je.eS b⟩
 |ret=>obtain⟨v,a,Δ,b,c⟩:=hk;exact⟨v,a h' je.ho,ag,Δ,c,je.eS b⟩
 |panic c=>exact⟨ag,ah,hk,je⟩
 |_=>exact hk.elim
section
variable {f:FuncId} {fn:Func} {co:Code} {R:Ending→PH→List HP→Prop} (hf:P.funcs[f]? =some fn) (hb:fn.body=some co) (hn:cS fn=true)
include hf hb hn
theorem Km (hN:Nat.ble 0 fn.ntmps=true) (hx:XA P fn.ntmps co U σ Γ (ao P fn R)):ae P f #[] σ Γ R:=⟨enters hf hb hn,fun _ _ hh=>O1 hf hb hn hN (XA.Ql hx hh)⟩
theorem Kn {a:Value} (hN:Nat.ble 1 fn.ntmps=true) (hx:XA P fn.ntmps co (cp U 0 a) σ Γ (ao P fn R)):ae P f #[a] σ Γ R:=⟨enters hf hb hn,fun _ _ hh=>O2 hf hb hn hN (XA.Ql hx hh)⟩
theorem Ko {a b:Value} (hN:Nat.ble 2 fn.ntmps=true) (hx:XA P fn.ntmps co (cp (cp U 0 a) 1 b) σ Γ (ao P fn R)):ae P f #[a,b] σ Γ R:=⟨enters hf hb hn,fun _ _ hh=>O3 hf hb hn hN (XA.Ql hx hh)⟩
theorem Kp {a b c:Value} (hN:Nat.ble 3 fn.ntmps=true) (hx:XA P fn.ntmps co (cp (cp (cp U 0 a) 1 b) 2 c) σ Γ (ao P fn R)):ae P f #[a,b,c] σ Γ R:=⟨enters hf hb hn,fun _ _ hh=>O4 hf hb hn hN (XA.Ql hx hh)⟩
theorem Kq {a b c d:Value} (hN:Nat.ble 4 fn.ntmps=true) (hx:XA P fn.ntmps co (cp (cp (cp (cp U 0 a) 1 b) 2 c) 3 d) σ Γ (ao P fn R)):ae P f #[a,b,c,d] σ Γ R:=⟨enters hf hb hn,fun _ _ hh=>O5 hf hb hn hN (XA.Ql hx hh)⟩
end
theorem ao.ret {fn:Func} {R:Ending→PH→List HP→Prop} {v:Value} {ah:List HP} (hr:aG P fn ρ σ Γ v) (he:aw Γ ah) (hR:R (.returned v) σ ah):DA (ao P fn R) .ret ρ σ Γ:=.here ⟨v,hr,ah,he,hR⟩
theorem ao.normal {fn:Func} {R:Ending→PH→List HP→Prop} {v:Value} {ah:List HP} (hr:aG P fn ρ σ Γ v) (he:aw Γ ah) (hR:R (.returned v) σ ah):DA (ao P fn R) .normal ρ σ Γ:=.here ⟨v,hr,ah,he,hR⟩
theorem ao.panic {fn:Func} {R:Ending→PH→List HP→Prop} {c:List PanicEntry} {ah:List HP} (he:aw Γ ah) (hR:R (.panicked c) σ ah):DA (ao P fn R) (.panic c) ρ σ Γ:=.eS he (.here hR)
theorem aG.none {fn:Func} (hf:fn.results=#[]):aG P fn ρ σ Γ (.tuple #[]):=fun _ _=>wZ.none hf
theorem aG.one {fn:Func} {t:Tmp} {v:Value} (hf:fn.results=#[.tmp t]) (hv:ρ t=v):aG P fn ρ σ Γ v:=fun _ _=>wZ.one hf hv
theorem aG.two {fn:Func} {t u:Tmp} {v v':Value} (hf:fn.results=#[.tmp t,.tmp u]) (hv:ρ t=v) (Xh:ρ u=v'):aG P fn ρ σ Γ (.tuple #[v,v']):=fun _ _=>wZ.two hf hv Xh
theorem aG.cell {fn:Func} {t:Tmp} {T:TypeId} {g o:Nat} {v:Value} (hf:fn.results=#[.cell t T]) (hv:ρ t=.pointer (some ⟨g,o,Option.none⟩)) (hl:∀h,Ho σ Γ h→Ld P h T g o v):aG P fn ρ σ Γ v:=fun h hh=>wZ.cell hf hv (hl h hh)
theorem XA.loop {c:Code} {τ:Type} (L:List (Nat×Nat)) (E:τ→List (Nat×Value)) (I:τ→PH→List HP→Prop) (μ:τ→Nat) (x0:τ) (e0:vp ρ (E x0)) {Δ0:List HP} (hE0:aw Γ Δ0) (h0:I x0 σ Δ0)
 (round:∀x δ ag ah,I x ag ah→XA P N c ((E x).foldl (fun r p=>cp r p.1 p.2) (eb L ρ δ)) ag ah (mJ (fun cI vr xl=>eW L ρ cI∧∃x' Δ,vp cI (E x')∧aw xl Δ∧I x' vr Δ∧μ x'<μ x) K)):XA P N (.loop c) ρ σ Γ K:=by
 refine⟨fun f h hh=>S5 (σ:=τ) L E (fun x h'=>∃ag ah,I x ag ah∧Holds ag ah f h') μ x0 e0 ⟨σ,Δ0,h0,hh.eS hE0⟩ ?_⟩;rintro x δ h' ⟨ag,ah,hI,je⟩;refine X.mono ((round x δ ag ah hI).out f h' je) ?_;rintro e cI SX ⟨vr,xl,hk,Uv⟩
 cases e with
 |normal=>obtain⟨k1,x',Δ,k2,k3,k4,k5⟩:=hk;exact⟨k1,x',k2,⟨vr,Δ,k4,Uv.eS k3⟩,k5⟩
 |_=>exact⟨vr,xl,hk,Uv⟩
structure aK (P:Program) (N:Nat) (ops:Array Oper) (bV:PH) (bp:List HP) (z:List Nat) (pl:List (Nat×Kd)) (ρ:Env) (σ:PH) (Γ:List HP) (K:KA):Prop where
 out:∀f h,Holds σ Γ f h→(bV.sub σ∧aw Γ bp∨late z pl=true)→XP P N ops (Ho bV bp) z pl ρ h (KF f K)
theorem Holds.sub {f bV:PH} {h:Heap} (x:Holds σ Γ f h) (hs:bV.sub σ):Holds bV Γ f h:=by
 obtain⟨m,a,b,c,d,i,p,q⟩:=x;exact⟨m,a,b,hs.le c,d,i.mono (.refl _) hs,p,q.mono hs (.refl _)⟩
theorem Holds.BN {f bV:PH} {bp:List HP} {h:Heap} (x:Holds σ Γ f h) (hs:bV.sub σ∧aw Γ bp):Ho bV bp h:=((x.sub hs.1).eS hs.2).ho
section
variable {ops:Array Oper} {bV:PH} {bp:List HP} {z:List Nat} {i:Nat} {pl:List (Nat×Kd)} {op:Op} {ty:TypeId} {pos:String} {af:Array Edge} {g:Option (Nat×Bool)}
theorem XA.draw {id:Nat} (hm:P.follows .mixedOrders=true) (bV:PH) (bp:List HP) (z:List Nat) (pl:List (Nat×Kd)) (hv:(cD ops z pl ops.size (Array.replicate ops.size false)&&Region.noSelect ops)=true) (hS:bV.sub σ) (hE:aw Γ bp) (hx:aK P N ops bV bp z pl ρ σ Γ K):XA P N (.region id ops true) ρ σ Γ K:=
 ⟨fun f h hh=>X.draw hm (Ho bV bp) z pl hv (hh.BN ⟨hS,hE⟩) (hx.out f h hh (.inl ⟨hS,hE⟩))⟩
theorem aK.nil (hk:DA K .normal ρ σ Γ):aK P N ops bV bp z [] ρ σ Γ K:=⟨fun f h hh _=>XP.nil (hk.out f h hh)⟩
theorem aK.rd {d:Nat} {v:Value} (hi:ops[i]? =some ⟨some d,op,ty,pos,af,g⟩) (hd:Nat.blt d N=true) (hg:Gd ops ρ g true) (hr:Rd P ρ (Ho bV bp) op ty v) (k:aK P N ops bV bp z pl (cp ρ d v) σ Γ K):aK P N ops bV bp z ((i,.rd)::pl) ρ σ Γ K:=
 ⟨fun f h hh hs=>XP.rd hi hd hg hr (k.out f h hh (.inl (hs.resolve_right (by simp[late]))))⟩
theorem aK.off {d:Nat} (hi:ops[i]? =some ⟨some d,op,ty,pos,af,g⟩) (hd:Nat.blt d N=true) (hg:Gd ops ρ g false) (k:aK P N ops bV bp z pl (cp ρ d undef) σ Γ K):aK P N ops bV bp z ((i,.rd)::pl) ρ σ Γ K:=
 ⟨fun f h hh hs=>XP.off hi hd hg (k.out f h hh (.inl (hs.resolve_right (by simp[late]))))⟩
theorem aK.pu {d:Nat} {v:Value} (hi:ops[i]? =some ⟨some d,op,ty,pos,af,g⟩) (hd:Nat.blt d N=true) (hg:Gd ops ρ g true) (hr:Rd P ρ (fun _=>True) op ty v) (k:aK P N ops bV bp z pl (cp ρ d v) σ Γ K):aK P N ops bV bp z ((i,.pu)::pl) ρ σ Γ K:=
 ⟨fun f h hh hs=>XP.puR hi hd hg hr (k.out f h hh (hs.imp id (fun hl=>by simpa[late] using hl)))⟩
theorem aK.xg {d:Nat} (hi:ops[i]? =some ⟨some d,op,ty,pos,af,g⟩) (hd:Nat.blt d N=true) (hg:Gd ops ρ g false) (k:aK P N ops bV bp z pl (cp ρ d undef) σ Γ K):aK P N ops bV bp z ((i,.pu)::pl) ρ σ Γ K:=
 ⟨fun f h hh hs=>XP.xg hi hd hg (k.out f h hh (hs.imp id (fun hl=>by simpa[late] using hl)))⟩
theorem aK.O6 {d:Option Nat} (hi:ops[i]? =some ⟨d,op,ty,pos,af,g⟩) (hd:ei N d=true) (hg:Gd ops ρ g false) (k:aK P N ops bV bp z pl (fX ρ d undef) σ Γ K):aK P N ops bV bp z ((i,.wr)::pl) ρ σ Γ K:=
 ⟨fun f h hh hs=>XP.O6 hi hd hg (k.out f h hh (hs.imp id (fun hl=>by simp only[late,List.all_cons,Bool.and_eq_true] at hl⊢;exact hl.2)))⟩
theorem aK.wr {d:Option Nat} {R:Value→PH→List HP→Prop} {pk:List PanicEntry→PH→List HP→Prop} (hi:ops[i]? =some ⟨d,op,ty,pos,af,g⟩) (hd:ei N d=true) (hg:Gd ops ρ g true) (hr:aC P ρ σ Γ op ty R pk)
 (k:∀v ag ah,R v ag ah→(bV.sub ag∧aw ah bp)∧aK P N ops bV bp z pl (fX ρ d v) ag ah K) (kp:∀c ag ah,pk c ag ah→DA K (.panic c) ρ ag ah):aK P N ops bV bp z ((i,.wr)::pl) ρ σ Γ K:=
 ⟨fun f h hh hs=>XP.wr hi hd hg (hr.out f h hh) (fun v h' ⟨ag,ah,a,b⟩=>⟨b.BN (k v ag ah a).1,(k v ag ah a).2.out f h' b (.inl (k v ag ah a).1)⟩) (fun c h' ⟨ag,ah,a,b⟩=>(kp c ag ah a).out f h' b)⟩
theorem aK.fL {d:Option Nat} {R:Value→PH→List HP→Prop} (hi:ops[i]? =some ⟨d,op,ty,pos,af,g⟩) (hd:ei N d=true) (hg:Gd ops ρ g true) (hr:aC P ρ σ Γ op ty R fw)
 (k:∀v ag ah,R v ag ah→(bV.sub ag∧aw ah bp)∧aK P N ops bV bp z pl (fX ρ d v) ag ah K):aK P N ops bV bp z ((i,.wr)::pl) ρ σ Γ K:=aK.wr hi hd hg hr k (fun _ _ _ hp=>hp.elim)
theorem aK.wrZ {d:Option Nat} {R:Value→PH→List HP→Prop} {pk:List PanicEntry→PH→List HP→Prop} (hi:ops[i]? =some ⟨d,op,ty,pos,af,g⟩) (hd:ei N d=true) (hg:Gd ops ρ g true) (hz:(z.contains i&&late z pl)=true) (hr:aC P ρ σ Γ op ty R pk)
 (k:∀v ag ah,R v ag ah→aK P N ops bV bp z pl (fX ρ d v) ag ah K) (kp:∀c ag ah,pk c ag ah→DA K (.panic c) ρ ag ah):aK P N ops bV bp z ((i,.wr)::pl) ρ σ Γ K:=by
 simp only[Bool.and_eq_true] at hz;exact⟨fun f h hh _=>XP.wrG hi hd hg (hr.out f h hh) (fun v h' ⟨ag,ah,a,b⟩=>⟨.inl hz,(k v ag ah a).out f h' b (.inr hz.2)⟩) (fun c h' ⟨ag,ah,a,b⟩=>(kp c ag ah a).out f h' b)⟩
theorem aK.bj {d:Option Nat} {R:Value→PH→List HP→Prop} (hi:ops[i]? =some ⟨d,op,ty,pos,af,g⟩) (hd:ei N d=true) (hg:Gd ops ρ g true) (hz:(z.contains i&&late z pl)=true) (hr:aC P ρ σ Γ op ty R fw)
 (k:∀v ag ah,R v ag ah→aK P N ops bV bp z pl (fX ρ d v) ag ah K):aK P N ops bV bp z ((i,.wr)::pl) ρ σ Γ K:=aK.wrZ hi hd hg hz hr k (fun _ _ _ hp=>hp.elim)
end
end X
end Go.Proofs.YtgeoiflbjcehcaaGreatDoor
