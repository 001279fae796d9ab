import Derived.Test.YtgeoiflbjcehcaaGreatDoorDd2
set_option maxHeartbeats 4000000
set_option maxRecDepth 2000
set_option linter.unusedVariables false
set_option linter.unusedSimpArgs false
namespace Go.Proofs.YtgeoiflbjcehcaaGreatDoor
namespace X
open Go
abbrev PH:=Nat→Option Obj
def PH.le (m:PH) (h:Heap):Prop:=∀k o,m k=some o→h[k]? =some o
def PH.sub (m m':PH):Prop:=∀k o,m k=some o→m' k=some o
def PH.rr (m m':PH):Prop:=∀k o o',m k=some o→m' k=some o'→False
def PH.or (m m':PH):PH:=fun k=>match m k with|some o=>some o|none=>m' k
def PH.one (g:Nat) (o:Obj):PH:=fun k=>if k=g then some o else none
theorem PH.sub.refl (m:PH):m.sub m:=fun _ _ h=>h
theorem PH.sub.trans {a b c:PH} (h:a.sub b) (k:b.sub c):a.sub c:=fun i o x=>k i o (h i o x)
theorem PH.sub.le {a b:PH} {h:Heap} (x:a.sub b) (y:b.le h):a.le h:=fun i o z=>y i o (x i o z)
theorem PH.rr.symm {a b:PH} (h:a.rr b):b.rr a:=fun k o o' x y=>h k o' o y x
theorem PH.rr.mono {a b a' b':PH} (h:a.rr b) (x:a'.sub a) (y:b'.sub b):a'.rr b':=fun k o o' p q=>h k o o' (x k o p) (y k o' q)
theorem PH.uz (a b:PH):a.sub (a.or b):=fun k o h=>by simp[PH.or,h]
theorem PH.uA {a b:PH} (d:a.rr b):b.sub (a.or b):=fun k o h=>by
 unfold PH.or
 cases e:a k with
 |none=>exact h
 |some o'=>exact(d k o' o e h).elim
theorem PH.or_some {a b:PH} {k:Nat} {o:Obj} (h:(a.or b) k=some o):a k=some o∨b k=some o:=by
 unfold PH.or at h
 cases e:a k with
 |none=>rw[e] at h;exact .inr h
 |some o'=>rw[e] at h;exact .inl h
theorem PH.w9 {a b c:PH} (h:a.sub c) (k:b.sub c):(a.or b).sub c:=fun i o x=>(PH.or_some x).elim (h i o) (k i o)
theorem PH.xc {a b:PH} {c:Heap} (h:a.le c) (k:b.le c):(a.or b).le c:=fun i o x=>(PH.or_some x).elim (h i o) (k i o)
theorem PH.ic {a b c:PH} (h:a.rr c) (k:b.rr c):(a.or b).rr c:=fun i o o' x y=>(PH.or_some x).elim (fun z=>h i o o' z y) (fun z=>k i o o' z y)
theorem PH.kA {g k:Nat} {o o':Obj} (h:PH.one g o k=some o'):k=g∧o'=o:=by
 unfold PH.one at h;split at h
 ·simp at h;exact⟨by assumption,h.symm⟩
 ·cases h
def PH.none:PH:=fun _=>Option.none
theorem PH.none_le (h:Heap):PH.none.le h:=fun _ _ x=>by cases x
theorem PH.gL (m:PH):PH.none.sub m:=fun _ _ x=>by cases x
theorem PH.ez (m:PH):m.rr PH.none:=fun _ _ _ _ x=>by cases x
def ie (h:Heap):PH:=fun k=>h[k]?
theorem z8 (h:Heap):(ie h).le h:=fun _ _ x=>x
theorem PH.le.lt {m:PH} {h:Heap} (hm:m.le h) {k:Nat} {o:Obj} (e:m k=some o):k<h.size:=nu (hm k o e)
theorem PH.le.push {m:PH} {h:Heap} (hm:m.le h) (o:Obj):m.le (h.push o):=fun k o' e=>by rw[lg (hm.lt e)];exact hm k o' e
def HP:=PH→Prop
def Sat:List HP→PH→Prop
 |[],_=>True
 |R::Γ,m=>∃m1 m2,R m1∧Sat Γ m2∧m1.rr m2∧m1.sub m∧m2.sub m
theorem Sat.mono:∀{Γ:List HP} {m m':PH},Sat Γ m→m.sub m'→Sat Γ m'
 |[],_,_,_,_=>trivial
 |_::_,_,_,⟨m1,m2,a,b,c,d,e⟩,s=>⟨m1,m2,a,b,c,d.trans s,e.trans s⟩
theorem Sat.swap {R S:HP} {Γ:List HP} {m:PH} (h:Sat (R::S::Γ) m):Sat (S::R::Γ) m:=by
 obtain⟨m1,m2,a,⟨m3,m4,b,c,d,e,f⟩,g,i,j⟩:=h;exact⟨m3,m1.or m4,b,⟨m1,m4,a,c,g.mono (.refl _) f,PH.uz _ _,PH.uA (g.mono (.refl _) f)⟩,(PH.ic (g.mono (.refl _) e) d.symm).symm,e.trans j,PH.w9 i (f.trans j)⟩
theorem Sat.Aa {R:HP} {Γ Δ:List HP} (hs:∀m,Sat Γ m→Sat Δ m) {m:PH} (h:Sat (R::Γ) m):Sat (R::Δ) m:=by
 obtain⟨m1,m2,a,b,c,d,e⟩:=h;exact⟨m1,m2,a,hs _ b,c,d,e⟩
inductive dm:List HP→HP→List HP→Prop where
 |head {R:HP} {Γ:List HP}:dm (R::Γ) R Γ
 |tail {R S:HP} {Γ al:List HP} (h:dm Γ R al):dm (S::Γ) R (S::al)
theorem dm.to {Γ al:List HP} {R:HP} (s:dm Γ R al):∀{m:PH},Sat Γ m→Sat (R::al) m:=by
 induction s with
 |head=>intro m h;exact h
 |tail _ ih=>intro m h;exact(Sat.Aa (fun _=>ih) h).swap
theorem Sat.append:∀{Γ Δ:List HP} {m:PH},Sat (Γ++Δ) m→∃m1 m2,Sat Γ m1∧Sat Δ m2∧m1.rr m2∧m1.sub m∧m2.sub m
 |[],Δ,m,h=>⟨PH.none,m,trivial,h,(PH.ez m).symm,PH.gL m,PH.sub.refl m⟩
 |R::Γ,Δ,m,⟨m1,m2,a,b,c,d,e⟩=>by
  obtain⟨n1,n2,p,q,r,s,t⟩:=Sat.append b;exact⟨m1.or n1,n2,⟨m1,n1,a,p,c.mono (.refl _) s,PH.uz _ _,PH.uA (c.mono (.refl _) s)⟩,q,PH.ic (c.mono (.refl _) t) r,PH.w9 d (s.trans e),t.trans e⟩
theorem Sat.join:∀{Γ Δ:List HP} {m1 m2 m:PH},Sat Γ m1→Sat Δ m2→m1.rr m2→m1.sub m→m2.sub m→Sat (Γ++Δ) m
 |[],_,_,_,_,_,h,_,_,e=>h.mono e
 |R::Γ,Δ,m1,m2,m,⟨n1,n2,p,q,r,s,t⟩,h,d,e,f=>by
  refine⟨n1,n2.or m2,p,Sat.join q h (d.mono t (.refl _)) (PH.uz _ _) (PH.uA (d.mono t (.refl _))),(PH.ic r.symm (d.symm.mono (.refl _) s)).symm,s.trans e,PH.w9 (t.trans e) f⟩
def ar (Γ Δ:List HP):Prop:=∀m,Sat Γ m→Sat Δ m
theorem ar.refl (Γ:List HP):ar Γ Γ:=fun _ h=>h
theorem ar.trans {Γ Δ Ω:List HP} (h:ar Γ Δ) (k:ar Δ Ω):ar Γ Ω:=fun m x=>k m (h m x)
theorem ar.nil (Γ:List HP):ar Γ []:=fun _ _=>trivial
theorem ar.bB {Γ al Δ:List HP} {R:HP} (s:dm Γ R al) (h:ar al Δ):ar Γ (R::Δ):=fun _ x=>Sat.Aa h (s.to x)
theorem ar.imp {Γ al Δ:List HP} {R S:HP} (s:dm Γ R al) (hi:∀m,R m→S m) (h:ar al Δ):ar Γ (S::Δ):=fun _ x=>by
 obtain⟨m1,m2,a,b,c⟩:=s.to x;exact⟨m1,m2,hi _ a,h _ b,c⟩
theorem ar.fold {Γ Θ al Δ:List HP} {S:HP} (s:ar Γ (Θ++al)) (hi:∀m,Sat Θ m→S m) (h:ar al Δ):ar Γ (S::Δ):=fun m x=>by
 obtain⟨m1,m2,a,b,c⟩:=Sat.append (s m x);exact⟨m1,m2,hi _ a,h _ b,c⟩
structure Holds (σ:PH) (Γ:List HP) (f:PH) (h:Heap):Prop where
 ex:∃m,Sat Γ m∧m.le h∧σ.le h∧f.le h∧m.rr σ∧m.rr f∧σ.rr f
def Ho (σ:PH) (Γ:List HP) (h:Heap):Prop:=∃f,Holds σ Γ f h
theorem Holds.ho {σ f:PH} {Γ:List HP} {h:Heap} (x:Holds σ Γ f h):Ho σ Γ h:=⟨f,x⟩
theorem Holds.eX {σ f:PH} {Γ Δ:List HP} {h:Heap} (x:Holds σ Γ f h) (e:ar Γ Δ):Holds σ Δ f h:=by
 obtain⟨m,a,b⟩:=x;exact⟨m,e m a,b⟩
theorem Ho.eX {σ:PH} {Γ Δ:List HP} {h:Heap} (x:Ho σ Γ h) (e:ar Γ Δ):Ho σ Δ h:=by
 obtain⟨f,y⟩:=x;exact⟨f,y.eX e⟩
theorem Holds.Fu {σ f:PH} {Γ:List HP} {h:Heap} (x:Holds σ Γ f h):σ.le h:=by obtain⟨m,a,b,c,d⟩:=x;exact c
theorem Holds.aside {σ f:PH} {Γ Δ:List HP} {h:Heap} (x:Holds σ (Γ++Δ) f h):∃f',Holds σ Γ f' h∧∀aj al h',Holds aj al f' h'→Holds aj (al++Δ) f h':=by
 obtain⟨m,a,b,c,d,e,p,q⟩:=x;obtain⟨m1,m2,s1,s2,s3,s4,s5⟩:=Sat.append a;have hd:f.rr m2:=(p.mono s5 (.refl _)).symm;refine⟨f.or m2,⟨m1,s1,s4.le b,c,PH.xc d (s5.le b),e.mono s4 (.refl _),(PH.ic (p.mono s4 (.refl _)).symm s3.symm).symm,(PH.ic q.symm (e.mono s5 (.refl _))).symm⟩,?_⟩;rintro aj al h' ⟨n,t1,t2,t3,t4,t5,t6,t7⟩;have hf:=PH.uz f m2;have hm:=PH.uA hd;have Vl:n.rr m2:=t6.mono (.refl _) hm;exact⟨n.or m2,Sat.join t1 s2 Vl (PH.uz _ _) (PH.uA Vl),PH.xc t2 (hm.le t4),t3,hf.le t4,PH.ic t5 (t7.symm.mono hm (.refl _)),PH.ic (t6.mono (.refl _) hf) hd.symm,t7.mono (.refl _) hf⟩
def cellsOf (l:List Value) (T:TypeId):Obj:=.cells l.toArray T (0,0)
def aw (g:Nat) (l:List Value) (T:TypeId):HP:=fun m=>m g=some (cellsOf l T)
theorem Holds.aw {σ f:PH} {Γ al:List HP} {h:Heap} {g:Nat} {l:List Value} {T:TypeId} (x:Holds σ Γ f h) (s:dm Γ (aw g l T) al):CO h g l T:=by
 obtain⟨m,a,b,c⟩:=x;obtain⟨m1,m2,p,q,r,t,u⟩:=s.to a;exact⟨b g _ (t g _ p)⟩
theorem Ho.aw {σ:PH} {Γ al:List HP} {h:Heap} {g:Nat} {l:List Value} {T:TypeId} (x:Ho σ Γ h) (s:dm Γ (X.aw g l T) al):CO h g l T:=by
 obtain⟨f,y⟩:=x;exact y.aw s
theorem Holds.alloc {σ f:PH} {Γ:List HP} {h:Heap} (x:Holds σ Γ f h) (l:List Value) (T:TypeId):Holds σ (X.aw h.size l T::Γ) f (h.push (cellsOf l T)):=by
 obtain⟨m,a,b,c,d,e,p,q⟩:=x
 have fresh:∀{m:PH},m.le h→(PH.one h.size (cellsOf l T)).rr m:=fun {m} hm k o o' x y=>by
  obtain⟨rfl,-⟩:=PH.kA x;exact Nat.lt_irrefl _ (hm.lt y)
 refine⟨(PH.one h.size (cellsOf l T)).or m,⟨PH.one h.size (cellsOf l T),m,by simp[X.aw,PH.one],a,fresh b,PH.uz _ _,PH.uA (fresh b)⟩,PH.xc (fun k o hk=>?_) (b.push _),c.push _,d.push _,PH.ic (fresh c) e,PH.ic (fresh d) p,q⟩;obtain⟨rfl,rfl⟩:=PH.kA hk;exact lh rfl
theorem Holds.set {σ f:PH} {Γ al:List HP} {h:Heap} {g:Nat} {l:List Value} {T:TypeId} (x:Holds σ Γ f h) (s:dm Γ (X.aw g l T) al) (l':List Value):Holds σ (X.aw g l' T::al) f (mW h g l' T):=by
 have hb:=x.aw s;obtain⟨m,a,b,c,d,e,p,q⟩:=x;obtain⟨m1,m2,r1,r2,r3,r4,r5⟩:=s.to a;have Za:m1 g=some (cellsOf l T):=r1
 have keep:∀{n:PH},n.le h→m1.rr n→n.le (mW h g l' T):=fun {n} hn hd k o hk=>by
  (have ix:k≠g:=fun e=>by subst e;exact hd k _ _ Za hk);rw[vu ix];exact hn k o hk
 have hd:(PH.one g (cellsOf l' T)).rr m2:=fun k o o' x y=>by
  obtain⟨rfl,-⟩:=PH.kA x;exact r3 k _ _ Za y
 refine⟨(PH.one g (cellsOf l' T)).or m2,⟨PH.one g (cellsOf l' T),m2,by simp[X.aw,PH.one],r2,hd,PH.uz _ _,PH.uA hd⟩,PH.xc (fun k o hk=>?_) (keep (r5.le b) r3),keep c (e.mono r4 (.refl _)),keep d (p.mono r4 (.refl _)),PH.ic (fun k o o' x y=>?_) (e.mono r5 (.refl _)),PH.ic (fun k o o' x y=>?_) (p.mono r5 (.refl _)),q⟩
 ·obtain⟨rfl,rfl⟩:=PH.kA hk;exact y9 hb.lt
 ·obtain⟨rfl,-⟩:=PH.kA x;exact(e.mono r4 (.refl _)) k _ _ Za y
 ·obtain⟨rfl,-⟩:=PH.kA x;exact(p.mono r4 (.refl _)) k _ _ Za y
theorem Holds.freeze {σ f:PH} {Γ al:List HP} {R:HP} {h:Heap} (x:Holds σ Γ f h) (s:dm Γ R al):∃aj m,R m∧m.sub aj∧σ.sub aj∧Holds aj al f h:=by
 obtain⟨m,a,b,c,d,e,p,q⟩:=x;obtain⟨m1,m2,r1,r2,r3,r4,r5⟩:=s.to a;have hd:σ.rr m1:=(e.mono r4 (.refl _)).symm;exact⟨σ.or m1,m1,r1,PH.uA hd,PH.uz _ _,m2,r2,r5.le b,PH.xc c (r4.le b),d,(PH.ic (e.mono r5 (.refl _)).symm r3).symm,p.mono r5 (.refl _),PH.ic q (p.mono r4 (.refl _))⟩
structure cH (σ:PH) (g o:Nat) (vs:List Value):Prop where
 ex:∃l T fr,σ g=some (.cells l T fr)∧(l.toList.drop o).take vs.length=vs
theorem cH.mono {σ aj:PH} {g o:Nat} {vs:List Value} (x:cH σ g o vs) (s:σ.sub aj):cH aj g o vs:=by
 obtain⟨l,T,fr,a,b⟩:=x;exact⟨l,T,fr,s _ _ a,b⟩
theorem cH.row {σ:PH} {h:Heap} (hs:σ.le h) {g o:Nat} {vs:List Value} (x:cH σ g o vs):Row h g o vs:=by
 obtain⟨l,T,fr,a,b⟩:=x;exact⟨l,T,fr,hs _ _ a,b⟩
theorem cH.of {h:Heap} {g o:Nat} {vs:List Value} (x:Row h g o vs):cH (ie h) g o vs:=by
 obtain⟨l,T,fr,a,b⟩:=x;exact⟨l,T,fr,a,b⟩
theorem cH.K0 {m:PH} {g o:Nat} {l vs:List Value} {T:TypeId} (x:aw g l T m) (hv:(l.drop o).take vs.length=vs):cH m g o vs:=⟨_,T,_,x,by simpa using hv⟩
theorem cH.sub {σ:PH} {g o:Nat} {vs us:List Value} (hr:cH σ g o vs) {j:Nat} (hu:(vs.drop j).take us.length=us):cH σ g (o+j) us:=by
 obtain⟨l,T,fr,h1,h2⟩:=hr;refine⟨l,T,fr,h1,?_⟩
 have:us.length≤vs.length-j:=by
  have:=congrArg List.length hu;simp at this;omega
 rw[←h2] at hu;rw[List.drop_take,List.take_take,List.drop_drop] at hu
 rwa [Nat.min_eq_left this] at hu
structure At (S:Heap→Prop) (g o:Nat) (vs:List Value):Prop where
 out:∀h,S h→Row h g o vs
theorem At.Fu {σ:PH} {Γ:List HP} {g o:Nat} {vs:List Value} (x:cH σ g o vs):At (Ho σ Γ) g o vs:=⟨fun _ hh=>by obtain⟨f,hh⟩:=hh;exact x.row hh.Fu⟩
theorem At.aw {σ:PH} {Γ al:List HP} {g o:Nat} {l vs:List Value} {T:TypeId} (s:dm Γ (X.aw g l T) al) (hv:(l.drop o).take vs.length=vs):At (Ho σ Γ) g o vs:=⟨fun _ hh=>(hh.aw s).row hv⟩
structure sQ (S:Heap→Prop) (g o:Nat) (v:Value):Prop where
 out:∀h,S h→Ks h g o v
theorem sQ.Fu {σ:PH} {Γ:List HP} {g o:Nat} {v:Value} (x:cH σ g o [v]):sQ (Ho σ Γ) g o v:=⟨fun _ hh=>by
 obtain⟨f,hh⟩:=hh;have:=(x.row hh.Fu).Sk (j:=0) (v:=v) rfl;simpa using this⟩
theorem sQ.aw {σ:PH} {Γ al:List HP} {g o:Nat} {l:List Value} {v:Value} {T:TypeId} (s:dm Γ (X.aw g l T) al) (hv:l[o]? =some v):sQ (Ho σ Γ) g o v:=⟨fun _ hh=>(hh.aw s).Sk hv⟩
theorem Ld.Vm {P:Program} {S:Heap→Prop} {T:TypeId} {r:Ty} (hT:aX P T=some r) (hk:r.k.agg=false) {g o:Nat} {v:Value} (hc:sQ S g o v):∀h,S h→Ld P h T g o v:=fun h hh=>Ld.one hT hk (hc.out h hh)
theorem Ld.at {P:Program} {S:Heap→Prop} {T:TypeId} {r:Ty} (hT:aX P T=some r) (hk:r.k.agg=true) {g o:Nat} {vs:List Value} (hc:At S g o vs) (hn:vs.length=r.size):∀h,S h→Ld P h T g o (.agg vs.toArray):=fun h hh=>Ld.row hT hk (hc.out h hh) hn
end X
end Go.Proofs.YtgeoiflbjcehcaaGreatDoor
namespace Go.Proofs.YtgeoiflbjcehcaaGreatDoor
open Go
namespace X
abbrev KA:=Exit→Env→PH→List HP→Prop
def KF (f:PH) (K:KA):lP:=fun e ρ h=>∃σ Γ,K e ρ σ Γ∧Holds σ Γ f h
structure XA (P:Program) (N:Nat) (c:Code) (ρ:Env) (σ:PH) (Γ:List HP) (K:KA):Prop where
 out:∀f h,Holds σ Γ f h→X P N c ρ h (KF f K)
structure az (P:Program) (N:Nat) (all:Array Oper) (l:List Oper) (ρ:Env) (σ:PH) (Γ:List HP) (K:KA):Prop where
 out:∀f h,Holds σ Γ f h→XO P N all l ρ h (KF f K)
structure DA (K:KA) (e:Exit) (ρ:Env) (σ:PH) (Γ:List HP):Prop where
 out:∀f h,Holds σ Γ f h→KF f K e ρ h
class iz (J:PH→List HP→Prop):Prop where
 eX:∀{σ Γ Δ},ar Γ Δ→J σ Δ→J σ Γ
 mX:∀{σ Γ al R},dm Γ R al→(∀aj m,R m→m.sub aj→σ.sub aj→J aj al)→J σ Γ
 aW:∀{σ Γ al R},dm Γ R al→∀{α:Type} {Θ:α→List HP},(∀m,R m→∃x,Sat (Θ x) m)→(∀x,J σ (Θ x++al))→J σ Γ
def qZ (next:Env→PH→List HP→Prop) (K:KA):KA
 |.normal,ρ,σ,Γ=>next ρ σ Γ
 |e,ρ,σ,Γ=>K e ρ σ Γ
def Fv (id:Nat) (K:KA):KA
 |.exit Kr,ρ,σ,Γ=>if Kr=id then K .normal ρ σ Γ else K (.exit Kr) ρ σ Γ
 |e,ρ,σ,Γ=>K e ρ σ Γ
theorem rK {σ f:PH} {Γ al:List HP} {R:HP} {h:Heap} (x:Holds σ Γ f h) (s:dm Γ R al) {α:Type} {Θ:α→List HP} (ho:∀m,R m→∃x,Sat (Θ x) m):∃x,Holds σ (Θ x++al) f h:=by
 obtain⟨m,a,b⟩:=x;obtain⟨m1,m2,r1,r2,r3,r4,r5⟩:=s.to a;obtain⟨x,hx⟩:=ho _ r1;exact⟨x,m,Sat.join hx r2 r3 r4 r5,b⟩
variable {P:Program} {N:Nat} {ρ:Env} {σ:PH} {Γ:List HP} {K:KA}
instance {c:Code}:iz (fun σ Γ=>XA P N c ρ σ Γ K) where
 eX he hx:=⟨fun f h hh=>hx.out f h (hh.eX he)⟩
 mX s k:=⟨fun f h hh=>by obtain⟨aj,m,a,b,c,d⟩:=hh.freeze s;exact(k aj m a b c).out f h d⟩
 aW s _ _ ho k:=⟨fun f h hh=>by obtain⟨x,hx⟩:=rK hh s ho;exact(k x).out f h hx⟩
instance {all:Array Oper} {l:List Oper}:iz (fun σ Γ=>az P N all l ρ σ Γ K) where
 eX he hx:=⟨fun f h hh=>hx.out f h (hh.eX he)⟩
 mX s k:=⟨fun f h hh=>by obtain⟨aj,m,a,b,c,d⟩:=hh.freeze s;exact(k aj m a b c).out f h d⟩
 aW s _ _ ho k:=⟨fun f h hh=>by obtain⟨x,hx⟩:=rK hh s ho;exact(k x).out f h hx⟩
instance {e:Exit}:iz (fun σ Γ=>DA K e ρ σ Γ) where
 eX he hx:=⟨fun f h hh=>hx.out f h (hh.eX he)⟩
 mX s k:=⟨fun f h hh=>by obtain⟨aj,m,a,b,c,d⟩:=hh.freeze s;exact(k aj m a b c).out f h d⟩
 aW s _ _ ho k:=⟨fun f h hh=>by obtain⟨x,hx⟩:=rK hh s ho;exact(k x).out f h hx⟩
theorem eX {J:PH→List HP→Prop} [iz J] {Δ:List HP} (he:ar Γ Δ) (hx:J σ Δ):J σ Γ:=iz.eX he hx
theorem DA.here {e:Exit} (hk:K e ρ σ Γ):DA K e ρ σ Γ:=⟨fun _ _ hh=>⟨σ,Γ,hk,hh⟩⟩
theorem DA.eX {e:Exit} {Δ:List HP} (he:ar Γ Δ) (hx:DA K e ρ σ Δ):DA K e ρ σ Γ:=⟨fun f h hh=>hx.out f h (hh.eX he)⟩
theorem XA.seq {x y:Code} (hx:XA P N x ρ σ Γ (qZ (fun ρ σ Γ=>XA P N y ρ σ Γ K) K)):XA P N (.seq x y) ρ σ Γ K:=by
 refine⟨fun f h hh=>X.seq (X.mono (hx.out f h hh) ?_)⟩;rintro e er h' ⟨aj,al,hk,kR⟩
 cases e with
 |normal=>exact hk.out f h' kR
 |_=>exact⟨aj,al,hk,kR⟩
theorem XA.block {id:Nat} {c:Code} (hx:XA P N c ρ σ Γ (Fv id K)):XA P N (.block id c) ρ σ Γ K:=by
 refine⟨fun f h hh=>X.block (X.mono (hx.out f h hh) ?_)⟩;rintro e er h' ⟨aj,al,hk,kR⟩
 cases e with
 |exit Kr=>
  simp only[Fv] at hk;simp only[Oi];split<;>rename_i hid
  ·rw[aq hid] at hk;exact⟨aj,al,hk,kR⟩
  ·rw[ag hid] at hk;exact⟨aj,al,hk,kR⟩
 |_=>exact⟨aj,al,hk,kR⟩
theorem XA.skip (hk:DA K .normal ρ σ Γ):XA P N .skip ρ σ Γ K:=⟨fun f h hh=>X.skip (hk.out f h hh)⟩
theorem XA.ret (hk:DA K .ret ρ σ Γ):XA P N .ret ρ σ Γ K:=⟨fun f h hh=>X.ret (hk.out f h hh)⟩
theorem XA.exit {id:Nat} (hk:DA K (.exit id) ρ σ Γ):XA P N (.exit id) ρ σ Γ K:=⟨fun f h hh=>X.exit (hk.out f h hh)⟩
theorem XA.cond {c:Operand} {x y:Code} {b:Bool} (hc:ev ρ c=.bool b) (ht:b=true→XA P N x ρ σ Γ K) (hf:b=false→XA P N y ρ σ Γ K):XA P N (.cond c x y) ρ σ Γ K:=
 ⟨fun f h hh=>X.cond hc (fun e=>(ht e).out f h hh) (fun e=>(hf e).out f h hh)⟩
theorem XA.bE {c:Operand} {x y:Code} {p:Prop} {inst:Decidable p} (hc:ev ρ c=.bool (@decide p inst)) (ht:p→XA P N x ρ σ Γ K) (hf:¬p→XA P N y ρ σ Γ K):XA P N (.cond c x y) ρ σ Γ K:=
 XA.cond hc (fun e=>ht (by simpa using e)) (fun e=>hf (by simpa using e))
theorem XA.aY {c:Operand} {x y:Code} {b:Bool} (hc:ev ρ c=.bool b) (hb:b=true) (ht:XA P N x ρ σ Γ K):XA P N (.cond c x y) ρ σ Γ K:=
 XA.cond hc (fun _=>ht) (fun e=>by rw[hb] at e;cases e)
theorem XA.aI {c:Operand} {x y:Code} {b:Bool} (hc:ev ρ c=.bool b) (hb:b=false) (hf:XA P N y ρ σ Γ K):XA P N (.cond c x y) ρ σ Γ K:=
 XA.cond hc (fun e=>by rw[hb] at e;cases e) (fun _=>hf)
theorem XA.region {id:Nat} {l:List Oper} (hx:az P N l.toArray l ρ σ Γ K):XA P N (.region id l.toArray false) ρ σ Γ K:=⟨fun f h hh=>X.region (hx.out f h hh)⟩
theorem DA.bI {next:Env→PH→List HP→Prop} (hk:next ρ σ Γ):DA (qZ next K) .normal ρ σ Γ:=.here hk
theorem DA.map {K':KA} {e e':Exit} (hk:DA K e ρ σ Γ) (hm:∀ρ σ Γ,K e ρ σ Γ→K' e' ρ σ Γ):DA K' e' ρ σ Γ:=⟨fun f h hh=>by
 obtain⟨aj,al,a,b⟩:=hk.out f h hh;exact⟨aj,al,hm _ _ _ a,b⟩⟩
theorem DA.CM {next:Env→PH→List HP→Prop} {id:Nat} (hk:DA K (.exit id) ρ σ Γ):DA (qZ next K) (.exit id) ρ σ Γ:=hk.map fun _ _ _ h=>h
theorem DA.Bf {next:Env→PH→List HP→Prop} (hk:DA K .ret ρ σ Γ):DA (qZ next K) .ret ρ σ Γ:=hk.map fun _ _ _ h=>h
theorem DA.zZ {next:Env→PH→List HP→Prop} {c:List PanicEntry} (hk:DA K (.panic c) ρ σ Γ):DA (qZ next K) (.panic c) ρ σ Γ:=hk.map fun _ _ _ h=>h
theorem DA.wU {id:Nat} (hk:DA K .normal ρ σ Γ):DA (Fv id K) .normal ρ σ Γ:=hk.map fun _ _ _ h=>h
theorem DA.G1 {id:Nat} (hk:DA K .ret ρ σ Γ):DA (Fv id K) .ret ρ σ Γ:=hk.map fun _ _ _ h=>h
theorem DA.z6 {id:Nat} {c:List PanicEntry} (hk:DA K (.panic c) ρ σ Γ):DA (Fv id K) (.panic c) ρ σ Γ:=hk.map fun _ _ _ h=>h
theorem DA.CN {id:Nat} (hk:DA K .normal ρ σ Γ):DA (Fv id K) (.exit id) ρ σ Γ:=hk.map fun _ _ _ h=>by simp only[Fv,if_true];exact h
structure ax (P:Program) (ρ:Env) (σ:PH) (Γ:List HP) (op:Op) (ty:TypeId) (R:Value→PH→List HP→Prop) (pk:List PanicEntry→PH→List HP→Prop):Prop where
 out:∀f h,Holds σ Γ f h→Wr P ρ h op ty (fun v h'=>∃aj al,R v aj al∧Holds aj al f h') (fun c h'=>∃aj al,pk c aj al∧Holds aj al f h')
abbrev ig:List PanicEntry→PH→List HP→Prop:=fun _ _ _=>False
section
variable {all:Array Oper} {rest:List Oper}
theorem az.nil (hk:DA K .normal ρ σ Γ):az P N all [] ρ σ Γ K:=⟨fun f h hh=>XO.nil (hk.out f h hh)⟩
theorem az.rd {op:Op} {d:Nat} {ty:TypeId} {pos:String} {af:Array Edge} {v:Value} (hd:Nat.blt d N=true)
 (hr:Rd P ρ (Ho σ Γ) op ty v) (k:az P N all rest (dO ρ d v) σ Γ K):az P N all (⟨some d,op,ty,pos,af,none⟩::rest) ρ σ Γ K:=
 ⟨fun f h hh=>XO.rd hd ⟨fun d pos af g w hw=>hr.out d pos af g w (hw▸hh.ho)⟩ (k.out f h hh)⟩
theorem az.wr {op:Op} {d:Option Nat} {ty:TypeId} {pos:String} {af:Array Edge} {R:Value→PH→List HP→Prop} {pk:List PanicEntry→PH→List HP→Prop} (hd:gu N d=true)
 (hr:ax P ρ σ Γ op ty R pk) (k:∀v aj al,R v aj al→az P N all rest (jz ρ d v) aj al K) (kp:∀c aj al,pk c aj al→DA K (.panic c) ρ aj al):
 az P N all (⟨d,op,ty,pos,af,none⟩::rest) ρ σ Γ K:=
 ⟨fun f h hh=>XO.wr hd (hr.out f h hh) (fun v h' ⟨aj,al,a,b⟩=>(k v aj al a).out f h' b) (fun c h' ⟨aj,al,a,b⟩=>(kp c aj al a).out f h' b)⟩
theorem az.fw {op:Op} {d:Option Nat} {ty:TypeId} {pos:String} {af:Array Edge} {R:Value→PH→List HP→Prop} (hd:gu N d=true)
 (hr:ax P ρ σ Γ op ty R ig) (k:∀v aj al,R v aj al→az P N all rest (jz ρ d v) aj al K):az P N all (⟨d,op,ty,pos,af,none⟩::rest) ρ σ Γ K:=az.wr hd hr k (fun _ _ _ hp=>hp.elim)
theorem az.wanted {d:Option Nat} {op:Op} {ty:TypeId} {pos:String} {af:Array Edge} {j:Nat} {b:Bool} {t:Nat} (hj:(all[j]?).bind (·.dst)=some t) (hb:ρ t=.bool b)
 (k:az P N all (⟨d,op,ty,pos,af,none⟩::rest) ρ σ Γ K):az P N all (⟨d,op,ty,pos,af,some (j,b)⟩::rest) ρ σ Γ K:=⟨fun f h hh=>XO.wanted hj hb (k.out f h hh)⟩
theorem az.wV {d:Nat} {op:Op} {ty:TypeId} {pos:String} {af:Array Edge} {j:Nat} {b c:Bool} {t:Nat} (hd:Nat.blt d N=true) (hj:(all[j]?).bind (·.dst)=some t) (hb:ρ t=.bool c) (ix:(c==b)=false)
 (k:az P N all rest (dO ρ d undef) σ Γ K):az P N all (⟨some d,op,ty,pos,af,some (j,b)⟩::rest) ρ σ Γ K:=⟨fun f h hh=>XO.wV hd hj hb ix (k.out f h hh)⟩
theorem az.uu {d:Nat} {op:Op} {ty:TypeId} {pos:String} {af:Array Edge} {j:Nat} {b:Bool} {t:Nat} (hd:Nat.blt d N=true) (hj:(all[j]?).bind (·.dst)=some t) (hb:ρ t=undef)
 (k:az P N all rest (dO ρ d undef) σ Γ K):az P N all (⟨some d,op,ty,pos,af,some (j,b)⟩::rest) ρ σ Γ K:=⟨fun f h hh=>XO.uu hd hj hb (k.out f h hh)⟩
theorem az.OX {p:Prop} {inst:Decidable p} {d:Option Nat} {op:Op} {ty:TypeId} {pos:String} {af:Array Edge} {j:Nat} {b:Bool} {t:Nat} (hj:(all[j]?).bind (·.dst)=some t) (hb:ρ t=.bool (@decide p inst)) (hp:@decide p inst=b)
 (k:az P N all (⟨d,op,ty,pos,af,none⟩::rest) ρ σ Γ K):az P N all (⟨d,op,ty,pos,af,some (j,b)⟩::rest) ρ σ Γ K:=az.wanted hj (hp▸hb) k
end
theorem Wr.Ok {op:Op} {ty:TypeId} {R:Value→PH→List HP→Prop} {Q:Heap→Value→Heap→Prop} (hr:∀h,Ho σ Γ h→Wr P ρ h op ty (Q h) qY) (hq:∀f h v h',Holds σ Γ f h→Q h v h'→∃aj al,R v aj al∧Holds aj al f h'):ax P ρ σ Γ op ty R ig:=
 ⟨fun f h hh=>⟨fun d pos af g a w next Q' he hw hn hp=>(hr h hh.ho).out d pos af g a w next Q' he hw (fun v w' s q=>hn v w' s (hq f h v _ hh q)) (fun _ _ _ q=>q.elim)⟩⟩
section
variable {ty:TypeId}
theorem ax.alloc {T:TypeId} {r:Ty} (hT:aX P T=some r):ax P ρ σ Γ (.alloc T) ty (fun v aj al=>∃g,v=.pointer (some ⟨g,0,none⟩)∧σ=aj∧al=aw g r.zero T::Γ) ig:=
 Wr.Ok (Q:=fun h v h'=>v=.pointer (some ⟨h.size,0,none⟩)∧h'=h.push (cellsOf r.zero T)) (fun _ _=>Wr.alloc hT rfl) fun f h v h' hh ⟨e1,e2⟩=>⟨σ,_,⟨h.size,e1,rfl,rfl⟩,e2▸hh.alloc _ _⟩
theorem ax.box {T:TypeId} {x:Operand} {v:Value} {l:List Value} (hx:ev ρ x=v) (hl:v.cells=l.toArray):ax P ρ σ Γ (.box T x) ty (fun v' aj al=>∃g,v'=.pointer (some ⟨g,0,none⟩)∧σ=aj∧al=aw g l T::Γ) ig:=
 Wr.Ok (Q:=fun h v h'=>v=.pointer (some ⟨h.size,0,none⟩)∧h'=h.push (cellsOf l T)) (fun _ _=>Wr.box hx rfl hl) fun f h v h' hh ⟨e1,e2⟩=>⟨σ,_,⟨h.size,e1,rfl,rfl⟩,e2▸hh.alloc _ _⟩
theorem ax.store {T:TypeId} {x y:Operand} {g o:Nat} {v:Value} {vs:List Value} {r:Ty} {l l':List Value} {T':TypeId} {al:List HP} (hT:aX P T=some r) (hx:ev ρ x=.pointer (some ⟨g,o,none⟩)) (s:dm Γ (aw g l T') al) (hy:ev ρ y=v) (hv:v.cells=vs.toArray)
 (hn:vs.length=r.size) (gf:o+r.size≤l.length) (h1:dT vs) (hh:aQ l o vs=l'):ax P ρ σ Γ (.store T x y) ty (fun v' aj Δ=>v'=undef∧σ=aj∧Δ=aw g l' T'::al) ig:=
 Wr.Ok (Q:=fun h v h'=>v=undef∧h'=mW h g l' T') (fun h kR=>Wr.store hT hx hy hv (kR.aw s) hn gf h1 hh) fun f h v h' kR ⟨e1,e2⟩=>⟨σ,_,⟨e1,rfl,rfl⟩,e2▸kR.set s l'⟩
theorem ax.Fm {T e:TypeId} {x:Operand} {v:Value} {r re:Ty} {l:List Value} (hT:aX P T=some r) (hk:r.k=.slice e) (hE:aX P e=some re) (hx:ev ρ x=v) (hl:v.cells=l.toArray) (Kt:l.length=re.size) (hz:re.zero.length=re.size) (hs:re.size≤1000) (I3:Nat.beq re.size 0=false):
 ax P ρ σ Γ (.buildSlice T 1 #[(0,x)]) ty (fun v' aj al=>∃g,v'=.slice (some ⟨g,0,none⟩) 1 1∧σ=aj∧al=aw g l e::Γ) ig:=
 Wr.Ok (Q:=fun h v h'=>v=.slice (some ⟨h.size,0,none⟩) 1 1∧h'=h.push (cellsOf l e)) (fun _ _=>Wr.Fm hT hk hE hx rfl hl Kt hz hs I3) fun f h v h' hh ⟨e1,e2⟩=>⟨σ,_,⟨h.size,e1,rfl,rfl⟩,e2▸hh.alloc _ _⟩
theorem ax.buildSlice {T e len:Nat} {tb:Nat→Option Ty} {parts:List (Nat×Operand)} {ps:List (Nat×Value)} {r re:Ty} {cs:List Value} (Cw:∀T r,tb T=some r→aX P T=some r) (hT:tb T=some r) (hk:r.k=.slice e) (hE:tb e=some re) (hz:re.zero.length=re.size)
 (rn:Nat.ble (len*re.size) 16777216=true) (hp:(parts.map fun p=>(p.1,ev ρ p.2))=ps) (hb:yY (fun i=>some (i*re.size,re.size)) ps ((List.range (len*re.size)).map fun k=>re.zero.getD (k%re.size) undef)=some cs):
 ax P ρ σ Γ (.buildSlice T len parts.toArray) ty (fun v' aj al=>∃g,v'=.slice (some ⟨g,0,none⟩) len len∧σ=aj∧al=aw g cs e::Γ) ig:=
 Wr.Ok (Q:=fun h v h'=>v=.slice (some ⟨h.size,0,none⟩) len len∧h'=h.push (cellsOf cs e)) (fun _ _=>Wr.buildSlice Cw hT hk hE rfl hz rn hp hb) fun f h v h' hh ⟨e1,e2⟩=>⟨σ,_,⟨h.size,e1,rfl,rfl⟩,e2▸hh.alloc _ _⟩
def aap (g cap:Nat) (e size n:Nat) (xs:List Value):HP:=fun m=>∃cur,aw g cur e m∧n≤cap∧cap≤maxLen∧cap*size≤cur.length∧cur.take (n*size)=xs
def aS (e size:Nat) (v:Value) (n:Nat) (xs:List Value):HP:=fun m=>xs.length=n*size∧((v=.slice none 0 0∧n=0)∨∃g cap,v=.slice (some ⟨g,0,none⟩) n cap∧aap g cap e size n xs m)
theorem G3 (e size:Nat) (m:PH):aS e size (.slice none 0 0) 0 [] m:=⟨by simp,.inl ⟨rfl,rfl⟩⟩
theorem Holds.own {f:PH} {al:List HP} {h:Heap} {e size n:Nat} {v:Value} {xs:List Value} (x:Holds σ Γ f h) (s:dm Γ (aS e size v n xs) al):zd h e size v n xs (fun g=>v.ownBlock=some g):=by
 obtain⟨m,a,b,c⟩:=x;obtain⟨m1,m2,⟨p1,p2⟩,q,r,t,u⟩:=s.to a;refine⟨p1,p2.imp id ?_⟩;rintro⟨g,cap,rfl,cur,w1,w2⟩;exact⟨g,cap,cur,rfl,rfl,⟨b g _ (t g _ w1)⟩,w2⟩
theorem Holds.app {f:PH} {al:List HP} {h h':Heap} {e size n n':Nat} {v v':Value} {xs xs':List Value} (x:Holds σ Γ f h) (s:dm Γ (aS e size v n xs) al) (ho:zd h' e size v' n' xs' (fun g=>v.ownBlock=some g∨h.size≤g)) (hb:Fs h h' v.ownBlock):Holds σ (aS e size v' n' xs'::al) f h':=by
 obtain⟨m,a,b,c,d,i,p,q⟩:=x;obtain⟨m1,m2,⟨r0,r1⟩,r2,r3,r4,r5⟩:=s.to a
 have own:∀g,v.ownBlock=some g→∃o,m1 g=some o:=by
  intro g hg;rcases r1 with ⟨rfl,-⟩|⟨g',cap,rfl,cur,w1,w2⟩
  ·cases hg
  ·simp only[Value.ownBlock,Option.some.injEq] at hg;subst hg;exact⟨_,w1⟩
 have keep:∀{n:PH},n.le h→m1.rr n→n.le h':=fun {n} hn hd k o hk=>by
  rw[hb.get k (hn.lt hk) (fun e=>?_)]
  ·exact hn k o hk
  ·obtain⟨o',ho'⟩:=own k e.symm;exact hd k _ _ ho' hk
 obtain⟨q1,q2⟩:=ho;rcases q2 with ⟨rfl,rfl⟩|⟨g,cap,cur,rfl,hF,hg,z1,z2,z3,z4⟩
 ·exact⟨m2,⟨PH.none,m2,⟨q1,.inl ⟨rfl,rfl⟩⟩,r2,(PH.ez m2).symm,PH.gL _,.refl _⟩,keep (r5.le b) r3,keep c (i.mono r4 (.refl _)),keep d (p.mono r4 (.refl _)),i.mono r5 (.refl _),p.mono r5 (.refl _),q⟩
 ·have rr:∀{n:PH},n.le h→m1.rr n→(PH.one g (cellsOf cur e)).rr n:=fun {n} hn hd k o o' x y=>by
   obtain⟨rfl,-⟩:=PH.kA x;rcases hF with hF|hF
   ·obtain⟨o',ho'⟩:=own k hF;exact hd k _ _ ho' y
   ·exact absurd (hn.lt y) (by omega)
  have d2:=rr (r5.le b) r3;refine⟨(PH.one g (cellsOf cur e)).or m2,⟨PH.one g (cellsOf cur e),m2,⟨q1,.inr ⟨g,cap,rfl,cur,by simp[X.aw,PH.one],z1,z2,z3,z4⟩⟩,r2,d2,PH.uz _ _,PH.uA d2⟩,PH.xc (fun k o hk=>?_) (keep (r5.le b) r3),keep c (i.mono r4 (.refl _)),keep d (p.mono r4 (.refl _)),PH.ic (rr c (i.mono r4 (.refl _))) (i.mono r5 (.refl _)),PH.ic (rr d (p.mono r4 (.refl _))) (p.mono r5 (.refl _)),q⟩;obtain⟨rfl,rfl⟩:=PH.kA hk;exact hg.get
theorem ax.append {T e:TypeId} {x y:Operand} {ty:TypeId} {r re:Ty} {v:Value} {n m c g o:Nat} {xs news:List Value} {al:List HP} (hT:aX P T=some r) (hk:r.k=.slice e) (hE:aX P e=some re) (hz:re.zero.length=re.size)
 (hs:ev ρ x=v) (s:dm Γ (aS e re.size v n xs) al) (hy:ev ρ y=.slice (some ⟨g,o,none⟩) m c) (bG:At (Ho σ Γ) g o news) (hl:news.length=m*re.size) (h1:dT news) (hm:0<m) (ze:n+m≤maxLen) (hb:(n+m)*re.bytes≤140737488355328):
 ax P ρ σ Γ (.call {callee:=.builtin .append,args:=#[x,y],argTypes:=#[T,T]}) ty (fun v' aj Δ=>∃p c,v'=.slice p (n+m) c∧σ=aj∧Δ=aS e re.size (.slice p (n+m) c) (n+m) (xs++news)::al) ig:=
 ⟨fun f h hh=>⟨fun d pos af gd a w next Q' he hw hn hp=>
  (Wr.append hT hk hE hz (hh.own s) hs (bG.out h hh.ho) hy hl h1 hm ze hb).out d pos af gd a w next Q' he hw (fun v' w' sm q=>by obtain⟨p,c,rfl⟩:=q.1.shape;exact hn _ w' sm ⟨σ,_,⟨p,c,rfl,rfl,rfl⟩,hh.app s q.1 q.2.1⟩) (fun _ _ _ q=>q.elim)⟩⟩
theorem ax.OY {T e:TypeId} {x y:Operand} {ty:TypeId} {r re:Ty} {v:Value} {n c g:Nat} {xs news:List Value} {cr al:List HP} {T':TypeId} (hT:aX P T=some r) (hk:r.k=.slice e) (hE:aX P e=some re) (hz:re.zero.length=re.size)
 (hs:ev ρ x=v) (hy:ev ρ y=.slice (some ⟨g,0,none⟩) 1 c) (hg:dm Γ (aw g news T') cr) (s:dm cr (aS e re.size v n xs) al) (hl:news.length=re.size) (h1:dT news) (ze:n+1≤maxLen) (hb:(n+1)*re.bytes≤140737488355328):
 ax P ρ σ Γ (.call {callee:=.builtin .append,args:=#[x,y],argTypes:=#[T,T]}) ty (fun v' aj Δ=>∃p c,v'=.slice p (n+1) c∧σ=aj∧Δ=aS e re.size (.slice p (n+1) c) (n+1) (xs++news)::al) ig:=
 ⟨fun f h hh=>⟨fun d pos af gd a w next Q' he hw hn hp=>by
  have h2:Holds σ cr f h:=hh.eX (fun m hm=>by obtain⟨m1,m2,p,q,r,s,t⟩:=hg.to hm;exact q.mono t)
  exact(Wr.append hT hk hE hz (h2.own s) hs (hh.ho.aw hg).Sl hy (by omega) h1 (by omega) ze hb).out d pos af gd a w next Q' he hw (fun v' w' sm q=>by obtain⟨p,c,rfl⟩:=q.1.shape;exact hn _ w' sm ⟨σ,_,⟨p,c,rfl,rfl,rfl⟩,h2.app s q.1 q.2.1⟩) (fun _ _ _ q=>q.elim)⟩⟩
end
def ah (P:Program) (f:FuncId) (vs:Array Value) (σ:PH) (Γ:List HP) (R:Ending→PH→List HP→Prop):Prop:=
 Enters P f∧∀fr h,Holds σ Γ fr h→js P f vs h (fun e h'=>∃aj al,R e aj al∧Holds aj al fr h')
def aA (R:Value→PH→List HP→Prop):Ending→PH→List HP→Prop
 |.returned v,σ,Γ=>R v σ Γ
 |_,_,_=>False
theorem ah.mono {f:FuncId} {vs:Array Value} {R R':Ending→PH→List HP→Prop} (hc:ah P f vs σ Γ R) (hr:∀e aj al,R e aj al→R' e aj al):ah P f vs σ Γ R':=
 ⟨hc.1,fun fr h hh=>(hc.2 fr h hh).mono fun e h' ⟨aj,al,a,b⟩=>⟨aj,al,hr _ _ _ a,b⟩⟩
theorem ah.ret {f:FuncId} {vs:Array Value} {R R':Value→PH→List HP→Prop} (hc:ah P f vs σ Γ (aA R)) (hr:∀v aj al,R v aj al→R' v aj al):ah P f vs σ Γ (aA R'):=
 ah.mono hc fun e _ _ he=>by cases e<;>first|exact hr _ _ _ he|exact he
theorem ah.frame {f:FuncId} {vs:Array Value} {R:Ending→PH→List HP→Prop} {b6:List HP} (Δ:List HP) (hc:ah P f vs σ b6 R) (he:ar Γ (b6++Δ)):ah P f vs σ Γ (fun e aj al=>∃cr,R e aj cr∧al=cr++Δ):=
 ⟨hc.1,fun fr h hh=>by
  obtain⟨f',a,b⟩:=(hh.eX he).aside
  exact(hc.2 f' h a).mono fun e h' ⟨aj,al,x,y⟩=>⟨aj,_,⟨al,x,rfl⟩,b _ _ _ y⟩⟩
theorem ax.z7 {f:FuncId} {fo:Operand} {first cap:List Value} {args:List Operand} {mE:Array TypeId} {vs:List Value} {ty:TypeId} {R:Ending→PH→List HP→Prop} {b6 Δ:List HP} (hf:ev ρ fo=.func (.func f) first.toArray cap.toArray)
 (hc:ah P f vs.toArray σ b6 R) (hv:first++args.map (ev ρ)++cap=vs) (he:ar Γ (b6++Δ)) (ko:∀aj al,¬R .outgrown aj al):
 ax P ρ σ Γ (.call {callee:=.value fo,args:=args.toArray,argTypes:=mE}) ty (fun v aj al=>∃cr,R (.returned v) aj cr∧al=cr++Δ) (fun c aj al=>∃cr,R (.panicked c) aj cr∧al=cr++Δ):=
 ⟨fun fr h hh=>Wr.z7 hf ((ah.frame Δ hc he).2 fr h hh) hv (fun h'=>by rintro⟨aj,al,⟨cr,x,-⟩,-⟩;exact ko _ _ x)⟩
theorem ax.qY {op:Op} {ty:TypeId} {R:Value→PH→List HP→Prop} {pk:List PanicEntry→PH→List HP→Prop} (hw:ax P ρ σ Γ op ty R pk) (hn:∀c aj al,¬pk c aj al):ax P ρ σ Γ op ty R ig:=
 ⟨fun f h hh=>⟨fun d pos af g a w next Q' he OS OQ hp=>(hw.out f h hh).out d pos af g a w next Q' he OS OQ (fun c w' _ q=>by obtain⟨aj,al,x,y⟩:=q;exact(hn _ _ _ x).elim)⟩⟩
theorem ax.Q7 {f:FuncId} {fo:Operand} {first cap:List Value} {args:List Operand} {mE:Array TypeId} {vs:List Value} {ty:TypeId} {R:Value→PH→List HP→Prop} {b6 Δ:List HP} (hf:ev ρ fo=.func (.func f) first.toArray cap.toArray)
 (hc:ah P f vs.toArray σ b6 (aA R)) (hv:first++args.map (ev ρ)++cap=vs) (he:ar Γ (b6++Δ)):
 ax P ρ σ Γ (.call {callee:=.value fo,args:=args.toArray,argTypes:=mE}) ty (fun v aj al=>∃cr,R v aj cr∧al=cr++Δ) ig:=
 (ax.z7 hf hc hv he (fun _ _ hp=>hp)).qY (fun _ _ _ ⟨_,hp,_⟩=>hp)
theorem ax.call {f:FuncId} {args:List Operand} {mE:Array TypeId} {vs:List Value} {ty:TypeId} {R:Value→PH→List HP→Prop} {b6 Δ:List HP}
 (hc:ah P f vs.toArray σ b6 (aA R)) (hv:args.map (ev ρ)=vs) (he:ar Γ (b6++Δ)):
 ax P ρ σ Γ (.call {callee:=.value (.func f),args:=args.toArray,argTypes:=mE}) ty (fun v aj al=>∃cr,R v aj cr∧al=cr++Δ) ig:=
 ax.Q7 (first:=[]) (cap:=[]) rfl hc (by simpa using hv) he
def aB (P:Program) (fn:Func) (ρ:Env) (σ:PH) (Γ:List HP) (v:Value):Prop:=∀h,Ho σ Γ h→CQ P fn ρ h v
def ao (P:Program) (fn:Func) (R:Ending→PH→List HP→Prop):KA
 |.normal,ρ,σ,Γ|.ret,ρ,σ,Γ=>∃v,aB P fn ρ σ Γ v∧∃al,ar Γ al∧R (.returned v) σ al
 |.panic c,_,σ,Γ=>R (.panicked c) σ Γ
 |_,_,_,_=>False
theorem XA.Sz {fn:Func} {c:Code} {R:Ending→PH→List HP→Prop} (hx:XA P fn.ntmps c ρ σ Γ (ao P fn R)) {fr:PH} {h:Heap} (hh:Holds σ Γ fr h):X P fn.ntmps c ρ h (sK P fn (fun e h'=>∃aj al,R e aj al∧Holds aj al fr h')):=by
 refine X.mono (hx.out fr h hh) ?_;rintro e er h' ⟨aj,al,hk,kR⟩
 cases e with
 |normal=>obtain⟨v,a,Δ,b,c⟩:=hk;exact⟨v,a h' kR.ho,aj,Δ,c,kR.eX b⟩
 |ret=>obtain⟨v,a,Δ,b,c⟩:=hk;exact⟨v,a h' kR.ho,aj,Δ,c,kR.eX b⟩
 |panic c=>exact⟨aj,al,hk,kR⟩
 |_=>exact hk.elim
section
variable {f:FuncId} {fn:Func} {co:Code} {R:Ending→PH→List HP→Prop} (hf:P.funcs[f]? =some fn) (hb:fn.body=some co) (hn:eN fn=true)
include hf hb hn
theorem OZ (hN:Nat.ble 0 fn.ntmps=true) (hx:XA P fn.ntmps co U σ Γ (ao P fn R)):ah P f #[] σ Γ R:=⟨enters hf hb hn,fun _ _ hh=>Sn hf hb hn hN (XA.Sz hx hh)⟩
theorem O0 {a:Value} (hN:Nat.ble 1 fn.ntmps=true) (hx:XA P fn.ntmps co (dO U 0 a) σ Γ (ao P fn R)):ah P f #[a] σ Γ R:=⟨enters hf hb hn,fun _ _ hh=>So hf hb hn hN (XA.Sz hx hh)⟩
theorem O1 {a b:Value} (hN:Nat.ble 2 fn.ntmps=true) (hx:XA P fn.ntmps co (dO (dO U 0 a) 1 b) σ Γ (ao P fn R)):ah P f #[a,b] σ Γ R:=⟨enters hf hb hn,fun _ _ hh=>Sp hf hb hn hN (XA.Sz hx hh)⟩
theorem O2 {a b c:Value} (hN:Nat.ble 3 fn.ntmps=true) (hx:XA P fn.ntmps co (dO (dO (dO U 0 a) 1 b) 2 c) σ Γ (ao P fn R)):ah P f #[a,b,c] σ Γ R:=⟨enters hf hb hn,fun _ _ hh=>Sq hf hb hn hN (XA.Sz hx hh)⟩
theorem O3 {a b c d:Value} (hN:Nat.ble 4 fn.ntmps=true) (hx:XA P fn.ntmps co (dO (dO (dO (dO U 0 a) 1 b) 2 c) 3 d) σ Γ (ao P fn R)):ah P f #[a,b,c,d] σ Γ R:=⟨enters hf hb hn,fun _ _ hh=>Sr hf hb hn hN (XA.Sz hx hh)⟩
end
theorem ao.ret {fn:Func} {R:Ending→PH→List HP→Prop} {v:Value} {al:List HP} (hr:aB P fn ρ σ Γ v) (he:ar Γ al) (hR:R (.returned v) σ al):DA (ao P fn R) .ret ρ σ Γ:=.here ⟨v,hr,al,he,hR⟩
theorem ao.normal {fn:Func} {R:Ending→PH→List HP→Prop} {v:Value} {al:List HP} (hr:aB P fn ρ σ Γ v) (he:ar Γ al) (hR:R (.returned v) σ al):DA (ao P fn R) .normal ρ σ Γ:=.here ⟨v,hr,al,he,hR⟩
theorem ao.panic {fn:Func} {R:Ending→PH→List HP→Prop} {c:List PanicEntry} {al:List HP} (he:ar Γ al) (hR:R (.panicked c) σ al):DA (ao P fn R) (.panic c) ρ σ Γ:=.eX he (.here hR)
theorem aB.none {fn:Func} (hf:fn.results=#[]):aB P fn ρ σ Γ (.tuple #[]):=fun _ _=>CQ.none hf
theorem aB.one {fn:Func} {t:Tmp} {v:Value} (hf:fn.results=#[.tmp t]) (hv:ρ t=v):aB P fn ρ σ Γ v:=fun _ _=>CQ.one hf hv
theorem aB.two {fn:Func} {t u:Tmp} {v v':Value} (hf:fn.results=#[.tmp t,.tmp u]) (hv:ρ t=v) (Z5:ρ u=v'):aB P fn ρ σ Γ (.tuple #[v,v']):=fun _ _=>CQ.two hf hv Z5
theorem aB.cell {fn:Func} {t:Tmp} {T:TypeId} {g o:Nat} {v:Value} (hf:fn.results=#[.cell t T]) (hv:ρ t=.pointer (some ⟨g,o,Option.none⟩)) (hl:∀h,Ho σ Γ h→Ld P h T g o v):aB P fn ρ σ Γ v:=fun h hh=>CQ.cell hf hv (hl h hh)
theorem XA.loop {c:Code} {τ:Type} (L:List (Nat×Nat)) (E:τ→List (Nat×Value)) (I:τ→PH→List HP→Prop) (μ:τ→Nat) (x0:τ) (e0:Bi ρ (E x0)) {Δ0:List HP} (hE0:ar Γ Δ0) (h0:I x0 σ Δ0)
 (round:∀x δ aj al,I x aj al→XA P N c ((E x).foldl (fun r p=>dO r p.1 p.2) (dq L ρ δ)) aj al (qZ (fun er Bk zg=>iy L ρ er∧∃x' Δ,Bi er (E x')∧ar zg Δ∧I x' Bk Δ∧μ x'<μ x) K)):XA P N (.loop c) ρ σ Γ K:=by
 refine⟨fun f h hh=>V0 (σ:=τ) L E (fun x h'=>∃aj al,I x aj al∧Holds aj al f h') μ x0 e0 ⟨σ,Δ0,h0,hh.eX hE0⟩ ?_⟩;rintro x δ h' ⟨aj,al,hI,kR⟩;refine X.mono ((round x δ aj al hI).out f h' kR) ?_;rintro e er VO ⟨Bk,zg,hk,WQ⟩
 cases e with
 |normal=>obtain⟨k1,x',Δ,k2,k3,k4,k5⟩:=hk;exact⟨k1,x',k2,⟨Bk,Δ,k4,WQ.eX k3⟩,k5⟩
 |_=>exact⟨Bk,zg,hk,WQ⟩
structure aP (P:Program) (N:Nat) (ops:Array Oper) (da:PH) (b6:List HP) (z:List Nat) (pl:List (Nat×Kd)) (ρ:Env) (σ:PH) (Γ:List HP) (K:KA):Prop where
 out:∀f h,Holds σ Γ f h→(da.sub σ∧ar Γ b6∨late z pl=true)→XP P N ops (Ho da b6) z pl ρ h (KF f K)
theorem Holds.sub {f da:PH} {h:Heap} (x:Holds σ Γ f h) (hs:da.sub σ):Holds da Γ f h:=by
 obtain⟨m,a,b,c,d,i,p,q⟩:=x;exact⟨m,a,b,hs.le c,d,i.mono (.refl _) hs,p,q.mono hs (.refl _)⟩
theorem Holds.G4 {f da:PH} {b6:List HP} {h:Heap} (x:Holds σ Γ f h) (hs:da.sub σ∧ar Γ b6):Ho da b6 h:=((x.sub hs.1).eX hs.2).ho
section
variable {ops:Array Oper} {da:PH} {b6:List HP} {z:List Nat} {i:Nat} {pl:List (Nat×Kd)} {op:Op} {ty:TypeId} {pos:String} {af:Array Edge} {g:Option (Nat×Bool)}
theorem XA.draw {id:Nat} (hm:P.follows .mixedOrders=true) (da:PH) (b6:List HP) (z:List Nat) (pl:List (Nat×Kd)) (hv:(eh ops z pl ops.size (Array.replicate ops.size false)&&Region.noSelect ops)=true) (hS:da.sub σ) (hE:ar Γ b6) (hx:aP P N ops da b6 z pl ρ σ Γ K):XA P N (.region id ops true) ρ σ Γ K:=
 ⟨fun f h hh=>X.draw hm (Ho da b6) z pl hv (hh.G4 ⟨hS,hE⟩) (hx.out f h hh (.inl ⟨hS,hE⟩))⟩
theorem aP.nil (hk:DA K .normal ρ σ Γ):aP P N ops da b6 z [] ρ σ Γ K:=⟨fun f h hh _=>XP.nil (hk.out f h hh)⟩
theorem aP.rd {d:Nat} {v:Value} (hi:ops[i]? =some ⟨some d,op,ty,pos,af,g⟩) (hd:Nat.blt d N=true) (hg:Gd ops ρ g true) (hr:Rd P ρ (Ho da b6) op ty v) (k:aP P N ops da b6 z pl (dO ρ d v) σ Γ K):aP P N ops da b6 z ((i,.rd)::pl) ρ σ Γ K:=
 ⟨fun f h hh hs=>XP.rd hi hd hg hr (k.out f h hh (.inl (hs.resolve_right (by simp[late]))))⟩
theorem aP.off {d:Nat} (hi:ops[i]? =some ⟨some d,op,ty,pos,af,g⟩) (hd:Nat.blt d N=true) (hg:Gd ops ρ g false) (k:aP P N ops da b6 z pl (dO ρ d undef) σ Γ K):aP P N ops da b6 z ((i,.rd)::pl) ρ σ Γ K:=
 ⟨fun f h hh hs=>XP.off hi hd hg (k.out f h hh (.inl (hs.resolve_right (by simp[late]))))⟩
theorem aP.pu {d:Nat} {v:Value} (hi:ops[i]? =some ⟨some d,op,ty,pos,af,g⟩) (hd:Nat.blt d N=true) (hg:Gd ops ρ g true) (hr:Rd P ρ (fun _=>True) op ty v) (k:aP P N ops da b6 z pl (dO ρ d v) σ Γ K):aP P N ops da b6 z ((i,.pu)::pl) ρ σ Γ K:=
 ⟨fun f h hh hs=>XP.puR hi hd hg hr (k.out f h hh (hs.imp id (fun hl=>by simpa[late] using hl)))⟩
theorem aP.wZ {d:Nat} (hi:ops[i]? =some ⟨some d,op,ty,pos,af,g⟩) (hd:Nat.blt d N=true) (hg:Gd ops ρ g false) (k:aP P N ops da b6 z pl (dO ρ d undef) σ Γ K):aP P N ops da b6 z ((i,.pu)::pl) ρ σ Γ K:=
 ⟨fun f h hh hs=>XP.wZ hi hd hg (k.out f h hh (hs.imp id (fun hl=>by simpa[late] using hl)))⟩
theorem aP.KT {d:Option Nat} (hi:ops[i]? =some ⟨d,op,ty,pos,af,g⟩) (hd:gu N d=true) (hg:Gd ops ρ g false) (k:aP P N ops da b6 z pl (jz ρ d undef) σ Γ K):aP P N ops da b6 z ((i,.wr)::pl) ρ σ Γ K:=
 ⟨fun f h hh hs=>XP.KT hi hd hg (k.out f h hh (hs.imp id (fun hl=>by simp only[late,List.all_cons,Bool.and_eq_true] at hl⊢;exact hl.2)))⟩
theorem aP.wr {d:Option Nat} {R:Value→PH→List HP→Prop} {pk:List PanicEntry→PH→List HP→Prop} (hi:ops[i]? =some ⟨d,op,ty,pos,af,g⟩) (hd:gu N d=true) (hg:Gd ops ρ g true) (hr:ax P ρ σ Γ op ty R pk)
 (k:∀v aj al,R v aj al→(da.sub aj∧ar al b6)∧aP P N ops da b6 z pl (jz ρ d v) aj al K) (kp:∀c aj al,pk c aj al→DA K (.panic c) ρ aj al):aP P N ops da b6 z ((i,.wr)::pl) ρ σ Γ K:=
 ⟨fun f h hh hs=>XP.wr hi hd hg (hr.out f h hh) (fun v h' ⟨aj,al,a,b⟩=>⟨b.G4 (k v aj al a).1,(k v aj al a).2.out f h' b (.inl (k v aj al a).1)⟩) (fun c h' ⟨aj,al,a,b⟩=>(kp c aj al a).out f h' b)⟩
theorem aP.fw {d:Option Nat} {R:Value→PH→List HP→Prop} (hi:ops[i]? =some ⟨d,op,ty,pos,af,g⟩) (hd:gu N d=true) (hg:Gd ops ρ g true) (hr:ax P ρ σ Γ op ty R ig)
 (k:∀v aj al,R v aj al→(da.sub aj∧ar al b6)∧aP P N ops da b6 z pl (jz ρ d v) aj al K):aP P N ops da b6 z ((i,.wr)::pl) ρ σ Γ K:=aP.wr hi hd hg hr k (fun _ _ _ hp=>hp.elim)
theorem aP.wrZ {d:Option Nat} {R:Value→PH→List HP→Prop} {pk:List PanicEntry→PH→List HP→Prop} (hi:ops[i]? =some ⟨d,op,ty,pos,af,g⟩) (hd:gu N d=true) (hg:Gd ops ρ g true) (hz:(z.contains i&&late z pl)=true) (hr:ax P ρ σ Γ op ty R pk)
 (k:∀v aj al,R v aj al→aP P N ops da b6 z pl (jz ρ d v) aj al K) (kp:∀c aj al,pk c aj al→DA K (.panic c) ρ aj al):aP P N ops da b6 z ((i,.wr)::pl) ρ σ Γ K:=by
 simp only[Bool.and_eq_true] at hz;exact⟨fun f h hh _=>XP.wrG hi hd hg (hr.out f h hh) (fun v h' ⟨aj,al,a,b⟩=>⟨.inl hz,(k v aj al a).out f h' b (.inr hz.2)⟩) (fun c h' ⟨aj,al,a,b⟩=>(kp c aj al a).out f h' b)⟩
theorem aP.b7 {d:Option Nat} {R:Value→PH→List HP→Prop} (hi:ops[i]? =some ⟨d,op,ty,pos,af,g⟩) (hd:gu N d=true) (hg:Gd ops ρ g true) (hz:(z.contains i&&late z pl)=true) (hr:ax P ρ σ Γ op ty R ig)
 (k:∀v aj al,R v aj al→aP P N ops da b6 z pl (jz ρ d v) aj al K):aP P N ops da b6 z ((i,.wr)::pl) ρ σ Γ K:=aP.wrZ hi hd hg hz hr k (fun _ _ _ hp=>hp.elim)
end
end X
end Go.Proofs.YtgeoiflbjcehcaaGreatDoor
namespace Go.Proofs.YtgeoiflbjcehcaaGreatDoor
namespace X
open Go
section
variable {P:Program} {N:Nat} {ρ:Env} {σ:PH} {Γ al Δ:List HP} {K:KA} {R:HP}
theorem XA.re {c:Code} (h:Γ=Δ) (k:XA P N c ρ σ Δ K):XA P N c ρ σ Γ K:=h▸k
theorem az.re {all:Array Oper} {l:List Oper} (h:Γ=Δ) (k:az P N all l ρ σ Δ K):az P N all l ρ σ Γ K:=h▸k
theorem XA.eX {c:Code} (h:ar Γ Δ) (k:XA P N c ρ σ Δ K):XA P N c ρ σ Γ K:=⟨fun f hp hh=>k.out f hp (hh.eX h)⟩
theorem az.eX {all:Array Oper} {l:List Oper} (h:ar Γ Δ) (k:az P N all l ρ σ Δ K):az P N all l ρ σ Γ K:=⟨fun f hp hh=>k.out f hp (hh.eX h)⟩
theorem pG {f:PH} {h:Heap} (x:Holds σ Γ f h) (s:dm Γ R al) {α:Sort _} {φ:α→Prop} {Θ:α→List HP} (ho:∀m,R m→∃x,φ x∧Sat (Θ x) m):∃x,φ x∧Holds σ (Θ x++al) f h:=by
 obtain⟨m,a,b⟩:=x;obtain⟨m1,m2,r1,r2,r3,r4,r5⟩:=s.to a;obtain⟨x,hp,hx⟩:=ho _ r1;exact⟨x,hp,m,Sat.join hx r2 r3 r4 r5,b⟩
section
variable {α:Sort _} {φ:α→Prop} {Θ:α→List HP} (s:dm Γ R al) (ho:∀m,R m→∃x,φ x∧Sat (Θ x) m)
include s ho
theorem XA.aW {c:Code} (k:∀x,φ x→XA P N c ρ σ (Θ x++al) K):XA P N c ρ σ Γ K:=⟨fun f h hh=>by obtain⟨x,a,b⟩:=pG hh s ho;exact(k x a).out f h b⟩
theorem az.aW {all:Array Oper} {l:List Oper} (k:∀x,φ x→az P N all l ρ σ (Θ x++al) K):az P N all l ρ σ Γ K:=⟨fun f h hh=>by obtain⟨x,a,b⟩:=pG hh s ho;exact(k x a).out f h b⟩
theorem ah.aW {f:FuncId} {vs:Array Value} {RR:Ending→PH→List HP→Prop} (he:Enters P f) (k:∀x,φ x→ah P f vs σ (Θ x++al) RR):ah P f vs σ Γ RR:=⟨he,fun fr h hh=>by obtain⟨x,a,b⟩:=pG hh s ho;exact(k x a).2 fr h b⟩
end
theorem fl {f:PH} {h:Heap} {α:Sort _} {φ:α→PH→Prop} (x:Holds σ Γ f h) (s:dm Γ R al) (ho:∀m,R m→∃x,φ x m) (mono:∀x m m',φ x m→m.sub m'→φ x m'):∃aj x,φ x aj∧σ.sub aj∧Holds aj al f h:=by
 obtain⟨aj,m,a,b,c,d⟩:=x.freeze s;obtain⟨x,hx⟩:=ho m a;exact⟨aj,x,mono _ _ _ hx b,c,d⟩
section
variable {α:Sort _} {φ:α→PH→Prop} (s:dm Γ R al) (ho:∀m,R m→∃x,φ x m) (mono:∀x m m',φ x m→m.sub m'→φ x m')
include s ho mono
theorem XA.mX {c:Code} (k:∀aj x,φ x aj→σ.sub aj→XA P N c ρ aj al K):XA P N c ρ σ Γ K:=⟨fun f h hh=>by obtain⟨aj,x,a,b,c⟩:=fl hh s ho mono;exact(k aj x a b).out f h c⟩
theorem az.mX {all:Array Oper} {l:List Oper} (k:∀aj x,φ x aj→σ.sub aj→az P N all l ρ aj al K):az P N all l ρ σ Γ K:=⟨fun f h hh=>by obtain⟨aj,x,a,b,c⟩:=fl hh s ho mono;exact(k aj x a b).out f h c⟩
theorem DA.mX {e:Exit} (k:∀aj x,φ x aj→σ.sub aj→DA K e ρ aj al):DA K e ρ σ Γ:=⟨fun f h hh=>by obtain⟨aj,x,a,b,c⟩:=fl hh s ho mono;exact(k aj x a b).out f h c⟩
end
theorem I9 {e size n:Nat} {v:Value} {xs:List Value}:∀m,aS e size v n xs m→∃x:Option Addr×Nat,(v=.slice x.1 n x.2∧xs.length=n*size)∧Sat [aS e size v n xs] m:=fun m h=>by
 have hs:Sat [aS e size v n xs] m:=⟨m,PH.none,h,trivial,PH.ez m,.refl _,PH.gL _⟩;obtain⟨h1,⟨h2,h3⟩|⟨g,cap,h2,h3⟩⟩:=h
 ·exact⟨⟨none,0⟩,⟨by rw[h2,h3],h1⟩,hs⟩
 ·exact⟨⟨some ⟨g,0,none⟩,cap⟩,⟨h2,h1⟩,hs⟩
end
theorem ar.all (Γ:List HP):ar Γ ([]++Γ):=fun _ h=>h
theorem ar.take {Γ al b6 Δ:List HP} {R:HP} (s:dm Γ R al) (h:ar al (b6++Δ)):ar Γ ((R::b6)++Δ):=ar.bB s h
theorem K3 {l:List Value} {n:Nat} (h:l.length=n):(l.drop 0).take n=l:=by rw[←h];simp
theorem Ld.bn {P:Program} {σ:PH} {Γ al:List HP} {T:TypeId} {r:Ty} (hT:aX P T=some r) (hk:r.k.agg=true) {g o n:Nat} {l vs:List Value} {T':TypeId} (s:dm Γ (X.aw g l T') al) (gO:r.size=n) (hv:(l.drop o).take n=vs) (hn:vs.length=n):∀h,Ho σ Γ h→Ld P h T g o (.agg vs.toArray):=
 Ld.at hT hk (At.aw s (by rw[hn];exact hv)) (by rw[gO];exact hn)
theorem dG {e size n c:Nat} {p:Option Addr} {xs:List Value} (hn:0<n):∀m,aS e size (.slice p n c) n xs m→∃g:Nat,p=some ⟨g,0,none⟩∧Sat [aS e size (.slice (some ⟨g,0,none⟩) n c) n xs] m:=fun m h=>by
 have h0:=h;obtain⟨h1,⟨h2,h3⟩|⟨g,cap,h2,h3⟩⟩:=h
 ·omega
 ·simp only[Value.slice.injEq] at h2;obtain⟨rfl,-,rfl⟩:=h2;exact⟨g,rfl,m,PH.none,h0,trivial,PH.ez m,.refl _,PH.gL _⟩
theorem Ho.aS {σ:PH} {Γ al:List HP} {h:Heap} {e size n c g:Nat} {xs:List Value} (x:Ho σ Γ h) (s:dm Γ (X.aS e size (.slice (some ⟨g,0,none⟩) n c) n xs) al):Row h g 0 xs:=by
 obtain⟨f,y⟩:=x;have o:=y.own s;rcases o.alt with ⟨h1,-⟩|⟨g',cap,cur,h1,h2,h3,h4,h5,h6,h7⟩
 ·cases h1
 ·simp only[Value.slice.injEq,Option.some.injEq,Addr.mk.injEq,and_true,true_and] at h1;obtain⟨rfl,rfl⟩:=h1;exact h3.row (by rw[o.len];simpa using h7)
theorem At.aS {σ:PH} {Γ al:List HP} {e size n c g o:Nat} {xs vs:List Value} (s:dm Γ (X.aS e size (.slice (some ⟨g,0,none⟩) n c) n xs) al) (hv:(xs.drop o).take vs.length=vs):At (Ho σ Γ) g o vs:=⟨fun _ hh=>by have:=(hh.aS s).sub hv;rwa [Nat.zero_add] at this⟩
theorem sQ.aS {σ:PH} {Γ al:List HP} {e size n c g o:Nat} {xs:List Value} {v:Value} (s:dm Γ (X.aS e size (.slice (some ⟨g,0,none⟩) n c) n xs) al) (hv:xs[o]? =some v):sQ (Ho σ Γ) g o v:=⟨fun _ hh=>by have:=(hh.aS s).Sk hv;rwa [Nat.zero_add] at this⟩
theorem Ld.WR {P:Program} {σ:PH} {Γ al:List HP} {T:TypeId} {r:Ty} (hT:aX P T=some r) (hk:r.k.agg=true) {e size n c g o q:Nat} {xs vs:List Value} (s:dm Γ (X.aS e size (.slice (some ⟨g,0,none⟩) n c) n xs) al) (gO:r.size=q) (hv:(xs.drop o).take q=vs) (hn:vs.length=q):∀h,Ho σ Γ h→Ld P h T g o (.agg vs.toArray):=
 Ld.at hT hk (At.aS s (by rw[hn];exact hv)) (by rw[gO];exact hn)
theorem ar.od {Γ b6 Δ:List HP} {e size:Nat} (h:ar Γ (b6++Δ)):ar Γ ((aS e size (.slice none 0 0) 0 []::b6)++Δ):=fun m x=>⟨PH.none,m,G3 e size _,h m x,(PH.ez m).symm,PH.gL m,.refl m⟩
theorem ar.dU {Γ Δ:List HP} {e size:Nat} (h:ar Γ Δ):ar Γ (aS e size (.slice none 0 0) 0 []::Δ):=fun m x=>⟨PH.none,m,G3 e size _,h m x,(PH.ez m).symm,PH.gL m,.refl m⟩
theorem ar.eS {Γ Θ:List HP} {S:HP} (s:ar Γ Θ) (hi:∀m,Sat Θ m→S m):ar Γ [S]:=fun m x=>⟨m,PH.none,hi _ (s m x),trivial,PH.ez m,.refl m,PH.gL m⟩
def emp:HP:=fun _=>True
theorem ar.rL {Γ Δ:List HP} (h:ar Γ Δ):ar Γ (emp::Δ):=fun m x=>⟨PH.none,m,trivial,h m x,(PH.ez m).symm,PH.gL m,.refl m⟩
theorem ar.qy {Γ b6 Δ:List HP} (h:ar Γ (b6++Δ)):ar Γ ((emp::b6)++Δ):=ar.rL h
theorem ar.eT {Γ Θ al Δ:List HP} {S:HP} (s:ar Γ (Θ++al)) (hi:∀m,Sat Θ m→S m) (h:ar al Δ):ar Γ (S::Δ):=ar.fold s hi h
theorem CY {A:List Value} {x v:Value} {n:Nat} (h:A.length=n):aQ (A++[x]) n [v]=A++[v]:=by subst h;simp[aQ]
theorem qz {e size g c:Nat} {l:List Value} {m:PH} (h:aw g l e m) (hc:c*size≤l.length) (hm:c≤maxLen):aS e size (.slice (some ⟨g,0,none⟩) 0 c) 0 [] m:=⟨by simp,.inr ⟨g,c,rfl,l,h,cg _,hm,hc,by simp⟩⟩
theorem ar.xd {Γ al Δ:List HP} {R S:HP} (s:dm Γ R al) (hi:∀m,R m→S m) (h:ar al Δ):ar Γ (S::Δ):=ar.imp s hi h
theorem XA.gen {P:Program} {N:Nat} {ρ:Env} {σ:PH} {Γ:List HP} {K:KA} {c:Code} (E:List (Nat×Value)) (hE:Bi ρ E) (k:∀δ,XA P N c (E.foldl (fun r p=>dO r p.1 p.2) δ) σ Γ K):XA P N c ρ σ Γ K:=by
 have:=k ρ;rwa [pE hE] at this
theorem Gd.Ol {ops:Array Oper} {ρ:Env} {j t:Nat} {b c r:Bool} (hj:(ops[j]?).bind (·.dst)=some t) (hb:ρ t=.bool c) (hr:(c==b)=r):Gd ops ρ (some (j,b)) r:=hr▸.is hj hb
theorem Rd.O4 {P:Program} {ρ:Env} {σ:PH} {Γ:List HP} {op:Op} {ty:TypeId} {v:Value} (hr:Rd P ρ (Ho σ Γ) op ty v):ax P ρ σ Γ op ty (fun v' aj al=>v'=v∧σ=aj∧al=Γ) ig:=
 Wr.Ok (Q:=fun h v' h'=>v'=v∧h'=h) (fun h hh=>Rd.wr ⟨fun d pos af g w hw=>hr.out d pos af g w (hw▸hh)⟩) fun f h v h' hh ⟨e1,e2⟩=>⟨σ,Γ,⟨e1,rfl,rfl⟩,e2▸hh⟩
theorem oe {σ f:PH} {Γ al:List HP} {R:HP} {q:Prop} {h:Heap} (x:Holds σ Γ f h) (s:dm Γ R al) (hf:∀m,R m→q):q:=by
 obtain⟨m,a,b⟩:=x;obtain⟨m1,m2,r1,r2⟩:=s.to a;exact hf _ r1
section
variable {P:Program} {N:Nat} {ρ:Env} {σ:PH} {Γ al:List HP} {K:KA} {R:HP} {q:Prop} (s:dm Γ R al) (hf:∀m,R m→q)
include s hf
theorem XA.fact {c:Code} (k:q→XA P N c ρ σ Γ K):XA P N c ρ σ Γ K:=⟨fun f h hh=>(k (oe hh s hf)).out f h hh⟩
end
theorem ah.conv {P:Program} {f:FuncId} {vs:Array Value} {σ:PH} {cr mY Δ:List HP} {w:Value} (h:ah P f vs σ cr (aA fun v aj al=>v=w∧σ=aj∧al=mY)) (he:ar mY Δ):ah P f vs σ cr (aA fun v aj al=>v=w∧σ=aj∧al=Δ):=
 ⟨h.1,fun fr hp hh=>(h.2 fr hp hh).mono fun e h' ⟨aj,al,a,b⟩=>by
  cases e with
  |returned v=>obtain⟨a1,a2,rfl⟩:=a;exact⟨aj,Δ,⟨a1,a2,rfl⟩,b.eX he⟩
  |panicked c=>exact a.elim
  |outgrown=>exact a.elim⟩
theorem Rd.WS {P:Program} {ρ:Env} {S:Heap→Prop} {T1 T2:TypeId} {x:Operand} {ty:TypeId} {kk k2:IntKind} {a c:Int} {r1 r2:Ty} (oW:aX P T1=some r1) (n8:aX P T2=some r2) (kP:r2.k=.int k2) (hx:ev ρ x=.int kk a) (hc:k2.wrap a=c):Rd P ρ S (.convert T1 T2 x) ty (.int k2 c):=hc▸Rd.OP oW n8 kP hx
theorem K4 {ρ:Env} {i:Nat} {x:Operand} {v:Value} {parts:List (Nat×Operand)} {ps:List (Nat×Value)} (h:ev ρ x=v) (t:(parts.map fun p=>(p.1,ev ρ p.2))=ps):(((i,x)::parts).map fun p=>(p.1,ev ρ p.2))=(i,v)::ps:=by simp[h,t]
theorem K5 {ρ:Env}:(([]:List (Nat×Operand)).map fun p=>(p.1,ev ρ p.2))=[]:=rfl
theorem K6 {place:Nat→Option (Nat×Nat)} {z:List Value}:yY place [] z=some z:=rfl
theorem Q8 {place:Nat→Option (Nat×Nat)} {ps:List (Nat×Value)} {z z' cs:List Value} (h:z=z') (k:yY place ps z'=some cs):yY place ps z=some cs:=h▸k
theorem K7 {place:Nat→Option (Nat×Nat)} {i off sz:Nat} {q:Nat×Nat} {v:Value} {ps:List (Nat×Value)} {z z' vs cs:List Value} (hp:place i=some q) (ho:q.1=off) (hz:q.2=sz) (hv:v.cells=vs.toArray) (hl:vs.length=sz) (hf:off+sz≤z.length) (hs:z.take off++(vs++z.drop (off+sz))=z') (k:yY place ps z'=some cs):yY place ((i,v)::ps) z=some cs:=by
 (have Z9:aQ z off vs=z':=by rw[aQ,hl,List.append_assoc];exact hs);clear hs;subst Z9 ho hz;rw[yY,hp];simp only[hv];rw[aq ⟨by simp[hl],hf⟩];exact k
def zs:Nat→List Value→List Value
 |0,_=>[]
 |n+1,z=>z++zs n z
theorem Q9 {s:Nat} {z:List Value} (hl:z.length=s):∀n,(List.range (n*s)).map (fun k=>z.getD (k%s) undef)=zs n z
 |0=>by simp[zs]
 |n+1=>by
  have h1:(List.range s).map (fun k=>z.getD (k%s) undef)=z:=by
   apply List.ext_getElem (by simp[hl]);intro i h1 h2;simp only[List.length_map,List.length_range] at h1;simp[ey,Nat.mod_eq_of_lt h1,h2]
  have h2:=Q9 hl n;rw[Nat.succ_mul,Nat.add_comm,List.range_add,List.map_append,h1,zs,List.map_map,←h2];congr 1;apply List.map_congr_left;intro k _;simp
theorem WT {place:Nat→Option (Nat×Nat)} {len s:Nat} {ps:List (Nat×Value)} {z z0 zz cs:List Value} (h0:z=z0) (hl:z0.length=s) (hs:zs len z0=zz) (k:yY place ps zz=some cs):yY place ps ((List.range (len*s)).map fun k=>z.getD (k%s) undef)=some cs:=by
 subst h0;rw[Q9 hl,hs];exact k
theorem dz (l:List Int):(ints l).length=l.length:=by simp
end X
end Go.Proofs.YtgeoiflbjcehcaaGreatDoor
