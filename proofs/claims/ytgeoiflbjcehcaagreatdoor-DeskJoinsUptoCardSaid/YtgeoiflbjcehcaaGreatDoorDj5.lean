import Derived.Test.YtgeoiflbjcehcaaGreatDoorDj4
set_option maxHeartbeats 4000000
set_option maxRecDepth 2000
set_option linter.unusedVariables false
set_option linter.unusedSimpArgs false
namespace Go.Proofs.YtgeoiflbjcehcaaGreatDoor
namespace X
open Go
section
variable {P:Program} {N:Nat} {ρ:Env} {σ:PH} {Γ ah Δ:List HP} {K:KA} {R:HP}
theorem XA.re {c:Code} (h:Γ=Δ) (k:XA P N c ρ σ Δ K):XA P N c ρ σ Γ K:=h▸k
theorem az.re {all:Array Oper} {l:List Oper} (h:Γ=Δ) (k:az P N all l ρ σ Δ K):az P N all l ρ σ Γ K:=h▸k
theorem XA.eS {c:Code} (h:aw Γ Δ) (k:XA P N c ρ σ Δ K):XA P N c ρ σ Γ K:=⟨fun f hp hh=>k.out f hp (hh.eS h)⟩
theorem az.eS {all:Array Oper} {l:List Oper} (h:aw Γ Δ) (k:az P N all l ρ σ Δ K):az P N all l ρ σ Γ K:=⟨fun f hp hh=>k.out f hp (hh.eS h)⟩
theorem lG {f:PH} {h:Heap} (x:Holds σ Γ f h) (s:b6 Γ R ah) {α:Sort _} {φ:α→Prop} {Θ:α→List HP} (ho:∀m,R m→∃x,φ x∧Sat (Θ x) m):∃x,φ x∧Holds σ (Θ x++ah) f h:=by
 obtain⟨m,a,b⟩:=x;obtain⟨m1,m2,r1,r2,r3,r4,r5⟩:=s.to a;obtain⟨x,hp,hx⟩:=ho _ r1;exact⟨x,hp,m,Sat.join hx r2 r3 r4 r5,b⟩
section
variable {α:Sort _} {φ:α→Prop} {Θ:α→List HP} (s:b6 Γ R ah) (ho:∀m,R m→∃x,φ x∧Sat (Θ x) m)
include s ho
theorem XA.aY {c:Code} (k:∀x,φ x→XA P N c ρ σ (Θ x++ah) K):XA P N c ρ σ Γ K:=⟨fun f h hh=>by obtain⟨x,a,b⟩:=lG hh s ho;exact(k x a).out f h b⟩
theorem az.aY {all:Array Oper} {l:List Oper} (k:∀x,φ x→az P N all l ρ σ (Θ x++ah) K):az P N all l ρ σ Γ K:=⟨fun f h hh=>by obtain⟨x,a,b⟩:=lG hh s ho;exact(k x a).out f h b⟩
theorem ae.aY {f:FuncId} {vs:Array Value} {RR:Ending→PH→List HP→Prop} (he:Enters P f) (k:∀x,φ x→ae P f vs σ (Θ x++ah) RR):ae P f vs σ Γ RR:=⟨he,fun fr h hh=>by obtain⟨x,a,b⟩:=lG hh s ho;exact(k x a).2 fr h b⟩
end
theorem eN {f:PH} {h:Heap} {α:Sort _} {φ:α→PH→Prop} (x:Holds σ Γ f h) (s:b6 Γ R ah) (ho:∀m,R m→∃x,φ x m) (mono:∀x m m',φ x m→m.sub m'→φ x m'):∃ag x,φ x ag∧σ.sub ag∧Holds ag ah f h:=by
 obtain⟨ag,m,a,b,c,d⟩:=x.freeze s;obtain⟨x,hx⟩:=ho m a;exact⟨ag,x,mono _ _ _ hx b,c,d⟩
section
variable {α:Sort _} {φ:α→PH→Prop} (s:b6 Γ R ah) (ho:∀m,R m→∃x,φ x m) (mono:∀x m m',φ x m→m.sub m'→φ x m')
include s ho mono
theorem az.qM {all:Array Oper} {l:List Oper} (k:∀ag x,φ x ag→σ.sub ag→az P N all l ρ ag ah K):az P N all l ρ σ Γ K:=⟨fun f h hh=>by obtain⟨ag,x,a,b,c⟩:=eN hh s ho mono;exact(k ag x a b).out f h c⟩
theorem DA.qM {e:Exit} (k:∀ag x,φ x ag→σ.sub ag→DA K e ρ ag ah):DA K e ρ σ Γ:=⟨fun f h hh=>by obtain⟨ag,x,a,b,c⟩:=eN hh s ho mono;exact(k ag x a b).out f h c⟩
end
theorem Dl {e size n:Nat} {v:Value} {xs:List Value}:∀m,bn e size v n xs m→∃x:Option Addr×Nat,(v=.slice x.1 n x.2∧xs.length=n*size)∧Sat [bn e size v n xs] m:=fun m h=>by
 have hs:Sat [bn e size v n xs] m:=⟨m,PH.none,h,trivial,PH.cK m,.refl _,PH.ej _⟩;obtain⟨h1,⟨h2,h3⟩|⟨g,cap,h2,h3⟩⟩:=h
 ·exact⟨⟨none,0⟩,⟨by rw[h2,h3],h1⟩,hs⟩
 ·exact⟨⟨some ⟨g,0,none⟩,cap⟩,⟨h2,h1⟩,hs⟩
end
theorem aw.all (Γ:List HP):aw Γ ([]++Γ):=fun _ h=>h
theorem aw.take {Γ ah bp Δ:List HP} {R:HP} (s:b6 Γ R ah) (h:aw ah (bp++Δ)):aw Γ ((R::bp)++Δ):=aw.bP s h
theorem bJ {l:List Value} {n:Nat} (h:l.length=n):(l.drop 0).take n=l:=by rw[←h];simp
theorem Ld.bN {P:Program} {σ:PH} {Γ ah:List HP} {T:TypeId} {r:Ty} (hT:av P T=some r) (hk:r.k.agg=true) {g o n:Nat} {l vs:List Value} {T':TypeId} (s:b6 Γ (X.au g l T') ah) (gD:r.size=n) (hv:(l.drop o).take n=vs) (hn:vs.length=n):∀h,Ho σ Γ h→Ld P h T g o (.agg vs.toArray):=
 Ld.at hT hk (At.au s (by rw[hn];exact hv)) (by rw[gD];exact hn)
theorem ep {e size n c:Nat} {p:Option Addr} {xs:List Value} (hn:0<n):∀m,bn e size (.slice p n c) n xs m→∃g:Nat,p=some ⟨g,0,none⟩∧Sat [bn e size (.slice (some ⟨g,0,none⟩) n c) n xs] m:=fun m h=>by
 have h0:=h;obtain⟨h1,⟨h2,h3⟩|⟨g,cap,h2,h3⟩⟩:=h
 ·omega
 ·simp only[Value.slice.injEq] at h2;obtain⟨rfl,-,rfl⟩:=h2;exact⟨g,rfl,m,PH.none,h0,trivial,PH.cK m,.refl _,PH.ej _⟩
theorem Ho.bn {σ:PH} {Γ ah:List HP} {h:Heap} {e size n c g:Nat} {xs:List Value} (x:Ho σ Γ h) (s:b6 Γ (X.bn e size (.slice (some ⟨g,0,none⟩) n c) n xs) ah):Row h g 0 xs:=by
 obtain⟨f,y⟩:=x;have o:=y.own s;rcases o.alt with ⟨h1,-⟩|⟨g',cap,cur,h1,h2,h3,h4,h5,h6,h7⟩
 ·cases h1
 ·simp only[Value.slice.injEq,Option.some.injEq,Addr.mk.injEq,and_true,true_and] at h1;obtain⟨rfl,rfl⟩:=h1;exact h3.row (by rw[o.len];simpa using h7)
theorem At.bn {σ:PH} {Γ ah:List HP} {e size n c g o:Nat} {xs vs:List Value} (s:b6 Γ (X.bn e size (.slice (some ⟨g,0,none⟩) n c) n xs) ah) (hv:(xs.drop o).take vs.length=vs):At (Ho σ Γ) g o vs:=⟨fun _ hh=>by have:=(hh.bn s).sub hv;rwa [Nat.zero_add] at this⟩
theorem j3.bn {σ:PH} {Γ ah:List HP} {e size n c g o:Nat} {xs:List Value} {v:Value} (s:b6 Γ (X.bn e size (.slice (some ⟨g,0,none⟩) n c) n xs) ah) (hv:xs[o]? =some v):j3 (Ho σ Γ) g o v:=⟨fun _ hh=>by have:=(hh.bn s).OX hv;rwa [Nat.zero_add] at this⟩
theorem Ld.Uw {P:Program} {σ:PH} {Γ ah:List HP} {T:TypeId} {r:Ty} (hT:av P T=some r) (hk:r.k.agg=true) {e size n c g o q:Nat} {xs vs:List Value} (s:b6 Γ (X.bn e size (.slice (some ⟨g,0,none⟩) n c) n xs) ah) (gD:r.size=q) (hv:(xs.drop o).take q=vs) (hn:vs.length=q):∀h,Ho σ Γ h→Ld P h T g o (.agg vs.toArray):=
 Ld.at hT hk (At.bn s (by rw[hn];exact hv)) (by rw[gD];exact hn)
theorem aw.kC {Γ bp Δ:List HP} {e size:Nat} (h:aw Γ (bp++Δ)):aw Γ ((bn e size (.slice none 0 0) 0 []::bp)++Δ):=fun m x=>⟨PH.none,m,BM e size _,h m x,(PH.cK m).symm,PH.ej m,.refl m⟩
theorem aw.fy {Γ Δ:List HP} {e size:Nat} (h:aw Γ Δ):aw Γ (bn e size (.slice none 0 0) 0 []::Δ):=fun m x=>⟨PH.none,m,BM e size _,h m x,(PH.cK m).symm,PH.ej m,.refl m⟩
theorem aw.eC {Γ Θ:List HP} {S:HP} (s:aw Γ Θ) (hi:∀m,Sat Θ m→S m):aw Γ [S]:=fun m x=>⟨m,PH.none,hi _ (s m x),trivial,PH.cK m,.refl m,PH.ej m⟩
def emp:HP:=fun _=>True
theorem aw.pL {Γ Δ:List HP} (h:aw Γ Δ):aw Γ (emp::Δ):=fun m x=>⟨PH.none,m,trivial,h m x,(PH.cK m).symm,PH.ej m,.refl m⟩
theorem aw.mc {Γ bp Δ:List HP} (h:aw Γ (bp++Δ)):aw Γ ((emp::bp)++Δ):=aw.pL h
theorem aw.e9 {Γ Θ ah Δ:List HP} {S:HP} (s:aw Γ (Θ++ah)) (hi:∀m,Sat Θ m→S m) (h:aw ah Δ):aw Γ (S::Δ):=aw.fold s hi h
theorem xm {A:List Value} {x v:Value} {n:Nat} (h:A.length=n):aJ (A++[x]) n [v]=A++[v]:=by subst h;simp[aJ]
theorem me {e size g c:Nat} {l:List Value} {m:PH} (h:au g l e m) (hc:c*size≤l.length) (hm:c≤maxLen):bn e size (.slice (some ⟨g,0,none⟩) 0 c) 0 [] m:=⟨by simp,.inr ⟨g,c,rfl,l,h,Nat.zero_le _,hm,hc,by simp⟩⟩
theorem aw.vt {Γ ah Δ:List HP} {R S:HP} (s:b6 Γ R ah) (hi:∀m,R m→S m) (h:aw ah Δ):aw Γ (S::Δ):=aw.imp s hi h
theorem XA.gen {P:Program} {N:Nat} {ρ:Env} {σ:PH} {Γ:List HP} {K:KA} {c:Code} (E:List (Nat×Value)) (hE:vp ρ E) (k:∀δ,XA P N c (E.foldl (fun r p=>cp r p.1 p.2) δ) σ Γ K):XA P N c ρ σ Γ K:=by
 have:=k ρ;rwa [lF hE] at this
theorem Gd.EM {ops:Array Oper} {ρ:Env} {j t:Nat} {b c r:Bool} (hj:(ops[j]?).bind (·.dst)=some t) (hb:ρ t=.bool c) (hr:(c==b)=r):Gd ops ρ (some (j,b)) r:=hr▸.is hj hb
theorem Rd.Ux {P:Program} {ρ:Env} {σ:PH} {Γ:List HP} {op:Op} {ty:TypeId} {v:Value} (hr:Rd P ρ (Ho σ Γ) op ty v):aC P ρ σ Γ op ty (fun v' ag ah=>v'=v∧σ=ag∧ah=Γ) fw:=
 Wr.H0 (Q:=fun h v' h'=>v'=v∧h'=h) (fun h hh=>Rd.wr ⟨fun d pos af g w hw=>hr.out d pos af g w (hw▸hh)⟩) fun f h v h' hh ⟨e1,e2⟩=>⟨σ,Γ,⟨e1,rfl,rfl⟩,e2▸hh⟩
section
variable {P:Program} {N:Nat} {ρ:Env} {σ:PH} {Γ ah:List HP} {K:KA} {R:HP} {q:Prop} (s:b6 Γ R ah) (hf:∀m,R m→q)
include s hf
end
theorem Ag {n:Int} (h1:0≤n) (h2:n<18446744073709551616):IntKind.u64.wrap n=n:=by simp[IntKind.wrap,IntKind.bits,IntKind.signed];omega
theorem Rd.Uy {P:Program} {ρ:Env} {S:Heap→Prop} {T1 T2:TypeId} {x:Operand} {ty:TypeId} {kk k2:IntKind} {a c:Int} {r1 r2:Ty} (qJ:av P T1=some r1) (pE:av P T2=some r2) (uq:r2.k=.int k2) (hx:ev ρ x=.int kk a) (hc:k2.wrap a=c):Rd P ρ S (.convert T1 T2 x) ty (.int k2 c):=hc▸Rd.Ir qJ pE uq hx
theorem Fk {ρ:Env} {i:Nat} {x:Operand} {v:Value} {parts:List (Nat×Operand)} {ps:List (Nat×Value)} (h:ev ρ x=v) (t:(parts.map fun p=>(p.1,ev ρ p.2))=ps):(((i,x)::parts).map fun p=>(p.1,ev ρ p.2))=(i,v)::ps:=by simp[h,t]
theorem Fl {ρ:Env}:(([]:List (Nat×Operand)).map fun p=>(p.1,ev ρ p.2))=[]:=rfl
theorem Fm {place:Nat→Option (Nat×Nat)} {z:List Value}:tI place [] z=some z:=rfl
theorem NU {place:Nat→Option (Nat×Nat)} {ps:List (Nat×Value)} {z z' cs:List Value} (h:z=z') (k:tI place ps z'=some cs):tI place ps z=some cs:=h▸k
theorem Fo {place:Nat→Option (Nat×Nat)} {i off sz:Nat} {q:Nat×Nat} {v:Value} {ps:List (Nat×Value)} {z z' vs cs:List Value} (hp:place i=some q) (ho:q.1=off) (hz:q.2=sz) (hv:v.cells=vs.toArray) (hl:vs.length=sz) (hf:off+sz≤z.length) (hs:z.take off++(vs++z.drop (off+sz))=z') (k:tI place ps z'=some cs):tI place ((i,v)::ps) z=some cs:=by
 (have Xl:aJ z off vs=z':=by rw[aJ,hl,List.append_assoc];exact hs);clear hs;subst Xl ho hz;rw[tI,hp];simp only[hv];rw[if_pos ⟨by simp[hl],hf⟩];exact k
def zs:Nat→List Value→List Value
 |0,_=>[]
 |n+1,z=>z++zs n z
theorem NV {s:Nat} {z:List Value} (hl:z.length=s):∀n,(List.range (n*s)).map (fun k=>z.getD (k%s) undef)=zs n z
 |0=>by simp[zs]
 |n+1=>by
  have h1:(List.range s).map (fun k=>z.getD (k%s) undef)=z:=by
   apply List.ext_getElem (by simp[hl]);intro i h1 h2;simp only[List.length_map,List.length_range] at h1;simp[List.getD_eq_getElem?_getD,Nat.mod_eq_of_lt h1,h2]
  have h2:=NV hl n;rw[Nat.succ_mul,Nat.add_comm,List.range_add,List.map_append,h1,zs,List.map_map,←h2];congr 1;apply List.map_congr_left;intro k _;simp
theorem Uz {place:Nat→Option (Nat×Nat)} {len s:Nat} {ps:List (Nat×Value)} {z z0 zz cs:List Value} (h0:z=z0) (hl:z0.length=s) (hs:zs len z0=zz) (k:tI place ps zz=some cs):tI place ps ((List.range (len*s)).map fun k=>z.getD (k%s) undef)=some cs:=by
 subst h0;rw[NV hl,hs];exact k
theorem aj (l:List Int):(ints l).length=l.length:=by simp
end X
namespace X
open Go
section
variable {P:Program} {N:Nat} {ρ:Env} {S:Heap→Prop} {ty:TypeId} {σ:PH} {Γ:List HP} {K:KA}
theorem Rd.mv {x:Operand} {v:Value} (hv:ev ρ x=v:=by with_reducible (conv=>lhs;whnf)):Rd P ρ S (.move x) ty v:=.move hv
theorem Rd.BO {x:Operand} {v:Value} (hv:ev ρ x=v:=by with_reducible (conv=>lhs;whnf)):Rd P ρ S (.assign x) ty v:=.assign hv
theorem Rd.pT {c x y:Operand} {v:Value} (hc:ev ρ c=.bool true) (hv:ev ρ x=v:=by with_reducible (conv=>lhs;whnf)):Rd P ρ S (.pick c x y) ty v:=.ia hc hv
theorem Rd.pF {c x y:Operand} {v:Value} (hc:ev ρ c=.bool false) (hv:ev ρ y=v:=by with_reducible (conv=>lhs;whnf)):Rd P ρ S (.pick c x y) ty v:=.L5 hc hv
theorem Rd.pP {p:Prop} {inst:Decidable p} {b:Bool} {c x y:Operand} {v:Value} (hc:ev ρ c=.bool (@decide p inst)) (hp:@decide p inst=b:=by first|exact(rfl:decide _=true)|exact(rfl:decide _=false)|(refine decide_eq_true ?_;assumption)|(refine decide_eq_false ?_;assumption)|(refine decide_eq_true ?_;omega)|(refine decide_eq_false ?_;omega)) (hv:ev ρ (match b with|true=>x|false=>y)=v:=by with_reducible (conv=>lhs;whnf)):Rd P ρ S (.pick c x y) ty v:=.SY hc hp hv
theorem Rd.Ah {T:TypeId} {x:Operand} {g o:Nat} {v:Value} (hx:ev ρ x=.pointer (some ⟨g,o,none⟩)) (hl:∀h,S h→Ld P h T g o v:=by first|(exact Ld.bN (ad rfl) rfl (by((repeat (first|with_reducible exact b6.head|apply b6.tail));(first|done|fail))) rfl (by first|exact bJ (by first|rfl|assumption|(refine(aj _).trans ?_;assumption)|(simp[*];(first|done|fail)))|assumption|exact aI (by first|rfl|assumption|(refine(aj _).trans ?_;assumption)|(simp[*];(first|done|fail)))|(conv=>lhs;simp only[List.drop_succ_cons,List.drop_zero,List.take_succ_cons,List.take_zero])) (by first|rfl|assumption|(refine(aj _).trans ?_;assumption)|(simp[*];(first|done|fail))))|(exact Ld.at (ad rfl) rfl (At.wN (by assumption)) (by first|rfl|assumption|(refine(aj _).trans ?_;assumption)|(simp[*];(first|done|fail))))|(exact Ld.Uw (ad rfl) rfl (by((repeat (first|with_reducible exact b6.head|apply b6.tail));(first|done|fail))) rfl (by first|exact bJ (by first|rfl|assumption|(refine(aj _).trans ?_;assumption)|(simp[*];(first|done|fail)))|assumption|exact aI (by first|rfl|assumption|(refine(aj _).trans ?_;assumption)|(simp[*];(first|done|fail)))|(conv=>lhs;simp only[List.drop_succ_cons,List.drop_zero,List.take_succ_cons,List.take_zero])) (by first|rfl|assumption|(refine(aj _).trans ?_;assumption)|(simp[*];(first|done|fail))))):Rd P ρ S (.load T x) ty v:=.load hx hl
theorem Rd.EN {T:TypeId} {x:Operand} {r:Ty} {g o:Nat} {v:Value} (hx:ev ρ x=.pointer (some ⟨g,o,none⟩)) (hT:av P T=some r) (hk:r.k.agg=false) (hc:j3 S g o v:=by first|(exact j3.au (by((repeat (first|with_reducible exact b6.head|apply b6.tail));(first|done|fail))) (by first|rfl|assumption))|(exact j3.wN (by first|assumption))|(exact j3.bn (by((repeat (first|with_reducible exact b6.head|apply b6.tail));(first|done|fail))) (by first|rfl|assumption))):Rd P ρ S (.load T x) ty v:=.load hx (Ld.SA hT hk hc)
theorem Rd.adi {T T':TypeId} {x y:Operand} {a b:Int} (hx:ev ρ x=.int .i64 a) (hy:ev ρ y=.int .i64 b) (hr:-9223372036854775808≤a+b∧a+b≤9223372036854775807:=by omega):Rd P ρ S (.binOp .add T x y T') ty (.int .i64 (a+b)):=.OZ hx hy rfl hr
theorem Rd.sbi {T T':TypeId} {x y:Operand} {a b:Int} (hx:ev ρ x=.int .i64 a) (hy:ev ρ y=.int .i64 b) (hr:-9223372036854775808≤a-b∧a-b≤9223372036854775807:=by omega):Rd P ρ S (.binOp .sub T x y T') ty (.int .i64 (a-b)):=.Xc hx hy rfl hr
theorem Rd.cvI {T1 T2:TypeId} {x:Operand} {kk k2:IntKind} {a c:Int} {r1 r2:Ty} (qJ:av P T1=some r1) (pE:av P T2=some r2) (uq:r2.k=.int k2) (hx:ev ρ x=.int kk a) (hc:k2.wrap a=c:=by first|exact X.wrap64_in (by omega) (by omega)|exact Ag (by omega) (by omega)|rfl):Rd P ρ S (.convert T1 T2 x) ty (.int k2 c):=.Uy qJ pE uq hx hc
theorem Rd.fA {T:TypeId} {x:Operand} {f g o n m:Nat} {r:Ty} {fs:List (TypeId×Nat)} {ft:TypeId} {r':Ty} (hx:ev ρ x=.pointer (some ⟨g,o,none⟩)) (hT:av P T=some r:=by exact ad rfl) (hk:r.k=.struct fs:=by rfl) (hf:fs[f]? =some (ft,n):=by rfl) (Ip:av P ft=some r':=by exact ad rfl) (hz:Nat.beq r'.size 0=false:=by rfl)
 (ho:o+n=m:=by first|(conv=>lhs;simp only[Nat.reduceAdd,Nat.zero_add,Nat.add_zero,Nat.reduceMul,Nat.mul_one,Int.toNat_natCast,Int.reduceToNat,Nat.zero_mul])|rfl):Rd P ρ S (.fieldAddr T x f) ty (.pointer (some ⟨g,m,none⟩)):=.fieldAddr hT hk hf Ip hz hx ho
theorem Rd.NW {T:TypeId} {x y:Operand} {g o len cap e sz m:Nat} {i:Int} {kk:IntKind} {r re:Ty} (hx:ev ρ x=.slice (some ⟨g,o,none⟩) len cap) (hy:ev ρ y=.int kk i) (hT:av P T=some r:=by exact ad rfl) (hk:r.k=.slice e:=by rfl) (hE:av P e=some re:=by exact ad rfl)
 (aT:0≤i∧i<len:=by first|omega|decide|(simp;omega)) (gD:re.size=sz:=by with_reducible (conv=>lhs;whnf)) (ho:o+i.toNat*sz=m:=by first|(conv=>lhs;simp only[Nat.reduceAdd,Nat.zero_add,Nat.add_zero,Nat.reduceMul,Nat.mul_one,Int.toNat_natCast,Int.reduceToNat,Nat.zero_mul])|rfl):Rd P ρ S (.indexAddr T x y) ty (.pointer (some ⟨g,m,none⟩)):=.zZ hT hk hE hx hy aT gD ho
theorem Rd.ixA {T:TypeId} {x y:Operand} {g o n e sz m:Nat} {i:Int} {kk:IntKind} {r re:Ty} (hx:ev ρ x=.pointer (some ⟨g,o,none⟩)) (hy:ev ρ y=.int kk i) (hT:av P T=some r:=by exact ad rfl) (hk:r.k=.array n e:=by rfl) (hE:av P e=some re:=by exact ad rfl)
 (aT:0≤i∧i<n:=by first|omega|decide|(simp;omega)) (gD:re.size=sz:=by with_reducible (conv=>lhs;whnf)) (ho:o+i.toNat*sz=m:=by first|(conv=>lhs;simp only[Nat.reduceAdd,Nat.zero_add,Nat.add_zero,Nat.reduceMul,Nat.mul_one,Int.toNat_natCast,Int.reduceToNat,Nat.zero_mul])|rfl):Rd P ρ S (.indexAddr T x y) ty (.pointer (some ⟨g,m,none⟩)):=.z6 hT hk hE hx hy aT gD ho
theorem Rd.UA {T:TypeId} {x y:Operand} {n e:Nat} {i:Int} {kk:IntKind} {r re:Ty} {cs:Array Value} {v:Value} (hx:ev ρ x=.agg cs) (hy:ev ρ y=.int kk i) (hT:av P T=some r:=by exact ad rfl) (hk:r.k=.array n e:=by rfl) (hE:av P e=some re:=by exact ad rfl) (E6:re.k.agg=false:=by rfl) (gD:re.size=1:=by rfl)
 (aT:0≤i∧i<n:=by first|omega|decide|(simp;omega)) (hv:cs[i.toNat]? =some v:=by first|assumption|rfl):Rd P ρ S (.index T x y) ty v:=.nX hT hk hE E6 gD hx hy aT hv
theorem Rd.bl {T:TypeId} {tb:Nat→Option Ty} {parts:List (Nat×Operand)} {ps:List (Nat×Value)} {r:Ty} {fs:List (TypeId×Nat)} {pl:List (Nat×Nat)} {cs:List Value} (wM:∀T r,tb T=some r→av P T=some r) (hT:tb T=some r) (hk:r.k=.struct fs) (tR:places tb fs=some pl)
 (hp:(parts.map fun p=>(p.1,ev ρ p.2))=ps:=by first|((repeat (first|exact Fl|(apply Fk;exact(by with_reducible (conv=>lhs;whnf)))));done)|rfl) (hb:tI (pl[·]?) ps r.zero=some cs:=by first|(apply NU;exact(by conv=>lhs;whnf);(repeat (first|exact Fm|(apply Fo;rfl;exact(by conv=>lhs;whnf);exact(by conv=>lhs;whnf);exact(by first|exact jd _|exact gM _|rfl);exact(by first|rfl|assumption|(refine(aj _).trans ?_;assumption)|(simp[*];(first|done|fail)));exact(by first|exact Nat.le_refl _|exact ey|exact lH _|(rw[Kr];decide;assumption;assumption)|decide|(simp[*];(first|done|fail))|(simp;omega));exact(by conv=>lhs;simp only[List.take_zero,List.take_succ_cons,List.drop_zero,List.drop_succ_cons,List.drop_nil,List.nil_append,List.cons_append,List.append_nil,Nat.reduceAdd,Nat.zero_add,Nat.add_zero]))));done)|rfl|assumption|(conv=>lhs;simp[tI,aJ,Value.cells, *])):Rd P ρ S (.build T parts.toArray) ty (.agg cs.toArray):=.build wM hT hk tR hp hb
theorem Rd.UB {T:TypeId} {tb:Nat→Option Ty} {parts:List (Nat×Operand)} {ps:List (Nat×Value)} {r re:Ty} {n e:Nat} {cs:List Value} (wM:∀T r,tb T=some r→av P T=some r) (hT:tb T=some r) (hk:r.k=.array n e) (hE:tb e=some re)
 (hp:(parts.map fun p=>(p.1,ev ρ p.2))=ps:=by first|((repeat (first|exact Fl|(apply Fk;exact(by with_reducible (conv=>lhs;whnf)))));done)|rfl) (hb:tI (fun i=>some (i*re.size,re.size)) ps r.zero=some cs:=by first|(apply NU;exact(by conv=>lhs;whnf);(repeat (first|exact Fm|(apply Fo;rfl;exact(by conv=>lhs;whnf);exact(by conv=>lhs;whnf);exact(by first|exact jd _|exact gM _|rfl);exact(by first|rfl|assumption|(refine(aj _).trans ?_;assumption)|(simp[*];(first|done|fail)));exact(by first|exact Nat.le_refl _|exact ey|exact lH _|(rw[Kr];decide;assumption;assumption)|decide|(simp[*];(first|done|fail))|(simp;omega));exact(by conv=>lhs;simp only[List.take_zero,List.take_succ_cons,List.drop_zero,List.drop_succ_cons,List.drop_nil,List.nil_append,List.cons_append,List.append_nil,Nat.reduceAdd,Nat.zero_add,Nat.add_zero]))));done)|rfl|assumption|(conv=>lhs;simp[tI,aJ,Value.cells, *])):Rd P ρ S (.build T parts.toArray) ty (.agg cs.toArray):=.vq wM hT hk hE hp hb
theorem aC.bs {T e len:Nat} {tb:Nat→Option Ty} {parts:List (Nat×Operand)} {ps:List (Nat×Value)} {r re:Ty} {cs:List Value} (wM:∀T r,tb T=some r→av P T=some r) (hT:tb T=some r) (hk:r.k=.slice e) (hE:tb e=some re) (hz:re.zero.length=re.size)
 (nR:Nat.ble (len*re.size) 16777216=true) (hp:(parts.map fun p=>(p.1,ev ρ p.2))=ps:=by first|((repeat (first|exact Fl|(apply Fk;exact(by with_reducible (conv=>lhs;whnf)))));done)|rfl) (hb:tI (fun i=>some (i*re.size,re.size)) ps ((List.range (len*re.size)).map fun k=>re.zero.getD (k%re.size) undef)=some cs:=by first|(apply Uz;exact(by conv=>lhs;whnf);rfl;exact(by conv=>lhs;simp only[zs,List.cons_append,List.nil_append]);(repeat (first|exact Fm|(apply Fo;rfl;exact(by conv=>lhs;whnf);exact(by conv=>lhs;whnf);exact(by first|exact jd _|exact gM _|rfl);exact(by first|rfl|assumption|(refine(aj _).trans ?_;assumption)|(simp[*];(first|done|fail)));exact(by first|exact Nat.le_refl _|exact ey|exact lH _|(rw[Kr];decide;assumption;assumption)|decide|(simp[*];(first|done|fail))|(simp;omega));exact(by conv=>lhs;simp only[List.take_zero,List.take_succ_cons,List.drop_zero,List.drop_succ_cons,List.drop_nil,List.nil_append,List.cons_append,List.append_nil,Nat.reduceAdd,Nat.zero_add,Nat.add_zero]))));done)|rfl|assumption|(conv=>lhs;simp[tI,aJ,Value.cells, *])):
 aC P ρ σ Γ (.buildSlice T len parts.toArray) ty (fun v' ag ah=>∃g,v'=.slice (some ⟨g,0,none⟩) len len∧σ=ag∧ah=au g cs e::Γ) fw:=.buildSlice wM hT hk hE hz nR hp hb
theorem aC.qO {T e:TypeId} {x:Operand} {v:Value} {r re:Ty} {l:List Value} (hT:av P T=some r) (hk:r.k=.slice e) (hE:av P e=some re) (hx:ev ρ x=v:=by with_reducible (conv=>lhs;whnf)) (hl:v.cells=l.toArray:=by first|exact jd _|exact gM _|rfl) (Is:l.length=re.size:=by first|rfl|assumption|(refine(aj _).trans ?_;assumption)|(simp[*];(first|done|fail))) (hz:re.zero.length=re.size:=by rfl) (hs:re.size≤1000:=by decide) (Dg:Nat.beq re.size 0=false:=by rfl):
 aC P ρ σ Γ (.buildSlice T 1 #[(0,x)]) ty (fun v' ag ah=>∃g,v'=.slice (some ⟨g,0,none⟩) 1 1∧σ=ag∧ah=au g l e::Γ) fw:=.z7 hT hk hE hx hl Is hz hs Dg
theorem aC.bx {T:TypeId} {x:Operand} {v:Value} {l:List Value} (hx:ev ρ x=v:=by with_reducible (conv=>lhs;whnf)) (hl:v.cells=l.toArray:=by first|exact jd _|exact gM _|rfl):aC P ρ σ Γ (.box T x) ty (fun v' ag ah=>∃g,v'=.pointer (some ⟨g,0,none⟩)∧σ=ag∧ah=au g l T::Γ) fw:=.box hx hl
theorem aC.st {T:TypeId} {x y:Operand} {g o:Nat} {v:Value} {vs:List Value} {r:Ty} {l l':List Value} {T':TypeId} {ah:List HP} (hT:av P T=some r) (hx:ev ρ x=.pointer (some ⟨g,o,none⟩)) (s:b6 Γ (au g l T') ah:=by((repeat (first|with_reducible exact b6.head|apply b6.tail));(first|done|fail))) (hy:ev ρ y=v:=by with_reducible (conv=>lhs;whnf)) (hv:v.cells=vs.toArray:=by first|exact jd _|exact gM _|rfl)
 (hn:vs.length=r.size:=by first|rfl|assumption|(refine(aj _).trans ?_;assumption)|(simp[*];(first|done|fail))) (ey:o+r.size≤l.length:=by first|exact Nat.le_refl _|exact ey|exact lH _|(rw[Kr];decide;assumption;assumption)|decide|(simp[*];(first|done|fail))|(simp;omega)) (h1:dn vs:=by(repeat (first|assumption|exact dP _|exact jc rfl|refine dO rfl ?_|refine xp ?_ ?_));(first|done|fail)) (hh:aJ l o vs=l':=by first|((with_reducible apply eZ);(first|rfl|(simp[*];(first|done|fail))))|assumption|exact fR _|exact n6|exact n6 _|(conv=>lhs;simp only[aJ,List.take_zero,List.take_succ_cons,List.drop_zero,List.drop_succ_cons,List.length_cons,List.length_nil,List.nil_append,List.cons_append,List.append_nil,List.append_eq,Nat.reduceAdd,Nat.zero_add,Nat.add_zero])|rfl):aC P ρ σ Γ (.store T x y) ty (fun v' ag Δ=>v'=undef∧σ=ag∧Δ=au g l' T'::ah) fw:=.store hT hx s hy hv hn ey h1 hh
theorem aC.cE {f:FuncId} {args:List Operand} {jx:Array TypeId} {vs:List Value} {R:Value→PH→List HP→Prop} {bp Δ:List HP} (hc:ae P f vs.toArray σ bp (aE R)) (hv:args.map (ev ρ)=vs) (he:aw Γ (bp++Δ):=by(repeat (first|exact aw.all _|(apply aw.take;focus (first|((repeat (first|with_reducible exact b6.head|apply b6.tail));done)|((repeat (first|exact b6.head|apply b6.tail));done)))|apply aw.kC|apply aw.mc));(first|done|fail)):
 aC P ρ σ Γ (.call {callee:=.value (.func f),args:=args.toArray,argTypes:=jx}) ty (fun v ag ah=>∃b7,R v ag b7∧ah=b7++Δ) fw:=aC.call hc hv he
theorem aC.cV {f:FuncId} {fo:Operand} {first cap:List Value} {args:List Operand} {jx:Array TypeId} {vs:List Value} {R:Value→PH→List HP→Prop} {bp Δ:List HP} (hf:ev ρ fo=.func (.func f) first.toArray cap.toArray)
 (hc:ae P f vs.toArray σ bp (aE R)) (hv:first++args.map (ev ρ)++cap=vs) (he:aw Γ (bp++Δ):=by(repeat (first|exact aw.all _|(apply aw.take;focus (first|((repeat (first|with_reducible exact b6.head|apply b6.tail));done)|((repeat (first|exact b6.head|apply b6.tail));done)))|apply aw.kC|apply aw.mc));(first|done|fail)):
 aC P ρ σ Γ (.call {callee:=.value fo,args:=args.toArray,argTypes:=jx}) ty (fun v ag ah=>∃b7,R v ag b7∧ah=b7++Δ) fw:=aC.NT hf hc hv he
theorem aC.tS {T e:TypeId} {x y:Operand} {r re:Ty} {v:Value} {n c g:Nat} {xs news:List Value} {b7 ah:List HP} {T':TypeId} (hT:av P T=some r) (hk:r.k=.slice e) (hE:av P e=some re) (hz:re.zero.length=re.size)
 (hs:ev ρ x=v) (hy:ev ρ y=.slice (some ⟨g,0,none⟩) 1 c) (hg:b6 Γ (au g news T') b7:=by((repeat (first|with_reducible exact b6.head|apply b6.tail));(first|done|fail))) (s:b6 b7 (bn e re.size v n xs) ah:=by((repeat (first|with_reducible exact b6.head|apply b6.tail));(first|done|fail))) (hl:news.length=re.size:=by first|rfl|assumption|(refine(aj _).trans ?_;assumption)|(simp[*];(first|done|fail))) (h1:dn news:=by(repeat (first|assumption|exact dP _|exact jc rfl|refine dO rfl ?_|refine xp ?_ ?_));(first|done|fail)) (zg:n+1≤maxLen:=by simp only[maxLen];omega) (hb:(n+1)*re.bytes≤140737488355328:=by first|omega|(simp only[];omega)):
 aC P ρ σ Γ (.call {callee:=.builtin .append,args:=#[x,y],argTypes:=#[T,T]}) ty (fun v' ag Δ=>∃p c,v'=.slice p (n+1) c∧σ=ag∧Δ=bn e re.size (.slice p (n+1) c) (n+1) (xs++news)::ah) fw:=.Kl hT hk hE hz hs hy hg s hl h1 zg hb
theorem XA.cl {c:Code} {Δ:List HP} (k:XA P N c ρ σ Δ K) (h:Γ=Δ:=by conv=>lhs;dsimp only[List.cons_append,List.nil_append]):XA P N c ρ σ Γ K:=h▸k
theorem DA.cl {e:Exit} {Δ:List HP} (k:DA K e ρ σ Δ) (h:Γ=Δ:=by conv=>lhs;dsimp only[List.cons_append,List.nil_append]):DA K e ρ σ Γ:=h▸k
section
variable {all:Array Oper} {rest:List Oper} {l:List Oper}
theorem az.cl {Δ:List HP} (k:az P N all l ρ σ Δ K) (h:Γ=Δ:=by conv=>lhs;dsimp only[List.cons_append,List.nil_append]):az P N all l ρ σ Γ K:=h▸k
theorem az.wq {p:Prop} {inst:Decidable p} {d:Option Nat} {op:Op} {pos:String} {af:Array Edge} {j:Nat} {b:Bool} {t:Nat} (hj:(all[j]?).bind (·.dst)=some t) (hb:ρ t=.bool (@decide p inst))
 (k:az P N all (⟨d,op,ty,pos,af,none⟩::rest) ρ σ Γ K) (hp:@decide p inst=b:=by first|exact(rfl:decide _=true)|exact(rfl:decide _=false)|(refine decide_eq_true ?_;assumption)|(refine decide_eq_false ?_;assumption)|(refine decide_eq_true ?_;omega)|(refine decide_eq_false ?_;omega)):az P N all (⟨d,op,ty,pos,af,some (j,b)⟩::rest) ρ σ Γ K:=.Kk hj hb hp k
end
section
variable {ops:Array Oper} {bV:PH} {bp:List HP} {z:List Nat} {i:Nat} {pl:List (Nat×Kd)} {op:Op} {pos:String} {af:Array Edge} {g:Option (Nat×Bool)}
theorem aK.cl {Δ:List HP} (k:aK P N ops bV bp z pl ρ σ Δ K) (h:Γ=Δ:=by conv=>lhs;dsimp only[List.cons_append,List.nil_append]):aK P N ops bV bp z pl ρ σ Γ K:=h▸k
theorem aK.Ta {d:Nat} {v:Value} (hi:ops[i]? =some ⟨some d,op,ty,pos,af,g⟩) (hd:Nat.blt d N=true) (hr:Rd P ρ (Ho bV bp) op ty v) (k:aK P N ops bV bp z pl (cp ρ d v) σ Γ K) (hg:Gd ops ρ g true:=by first|exact Gd.free|exact Gd.EM rfl rfl rfl|(apply Gd.Fp;rfl;rfl;exact(by first|exact(rfl:decide _=true)|exact(rfl:decide _=false)|(refine decide_eq_true ?_;assumption)|(refine decide_eq_false ?_;assumption)|(refine decide_eq_true ?_;omega)|(refine decide_eq_false ?_;omega));rfl)):aK P N ops bV bp z ((i,.rd)::pl) ρ σ Γ K:=.rd hi hd hg hr k
theorem aK.puG {d:Nat} {v:Value} (hi:ops[i]? =some ⟨some d,op,ty,pos,af,g⟩) (hd:Nat.blt d N=true) (hr:Rd P ρ (fun _=>True) op ty v) (k:aK P N ops bV bp z pl (cp ρ d v) σ Γ K) (hg:Gd ops ρ g true:=by first|exact Gd.free|exact Gd.EM rfl rfl rfl|(apply Gd.Fp;rfl;rfl;exact(by first|exact(rfl:decide _=true)|exact(rfl:decide _=false)|(refine decide_eq_true ?_;assumption)|(refine decide_eq_false ?_;assumption)|(refine decide_eq_true ?_;omega)|(refine decide_eq_false ?_;omega));rfl)):aK P N ops bV bp z ((i,.pu)::pl) ρ σ Γ K:=.pu hi hd hg hr k
theorem aK.abN {d:Nat} (hi:ops[i]? =some ⟨some d,op,ty,pos,af,g⟩) (hd:Nat.blt d N=true) (k:aK P N ops bV bp z pl (cp ρ d undef) σ Γ K) (hg:Gd ops ρ g false:=by first|exact Gd.EM rfl rfl rfl|exact Gd.un rfl rfl|(apply Gd.Fp;rfl;rfl;exact(by first|exact(rfl:decide _=true)|exact(rfl:decide _=false)|(refine decide_eq_true ?_;assumption)|(refine decide_eq_false ?_;assumption)|(refine decide_eq_true ?_;omega)|(refine decide_eq_false ?_;omega));rfl)):aK P N ops bV bp z ((i,.rd)::pl) ρ σ Γ K:=.off hi hd hg k
theorem aK.Xw {d:Nat} (hi:ops[i]? =some ⟨some d,op,ty,pos,af,g⟩) (hd:Nat.blt d N=true) (k:aK P N ops bV bp z pl (cp ρ d undef) σ Γ K) (hg:Gd ops ρ g false:=by first|exact Gd.EM rfl rfl rfl|exact Gd.un rfl rfl|(apply Gd.Fp;rfl;rfl;exact(by first|exact(rfl:decide _=true)|exact(rfl:decide _=false)|(refine decide_eq_true ?_;assumption)|(refine decide_eq_false ?_;assumption)|(refine decide_eq_true ?_;omega)|(refine decide_eq_false ?_;omega));rfl)):aK P N ops bV bp z ((i,.pu)::pl) ρ σ Γ K:=.xg hi hd hg k
end
section
variable {all:Array Oper} {rest:List Oper} {l:List Oper} {d:Nat} {dd:Option Nat} {op:Op} {pos:String} {af:Array Edge} {j t:Nat} {b c:Bool} {p:Prop} {inst:Decidable p}
theorem zG (k:az P N all (⟨dd,op,ty,pos,af,none⟩::rest) ρ σ Γ K) (hj:(all[j]?).bind (·.dst)=some t:=by exact rfl) (hb:ρ t=.bool c:=by exact rfl) (hc:c=b:=by first|exact rfl|exact(by first|exact(rfl:decide _=true)|exact(rfl:decide _=false)|(refine decide_eq_true ?_;assumption)|(refine decide_eq_false ?_;assumption)|(refine decide_eq_true ?_;omega)|(refine decide_eq_false ?_;omega))):az P N all (⟨dd,op,ty,pos,af,some (j,b)⟩::rest) ρ σ Γ K:=.wanted hj (hc▸hb) k
def Off (v:Value) (b:Bool):Prop:=v=undef∨∃c,v=.bool c∧c=!b
theorem zH (k:az P N all rest (cp ρ d undef) σ Γ K) (hd:Nat.blt d N=true:=by exact rfl) (hj:(all[j]?).bind (·.dst)=some t:=by exact rfl) (hb:Off (ρ t) b:=by first|exact Or.inr ⟨_,rfl,rfl⟩|exact Or.inl rfl|exact Or.inr ⟨_,rfl,(by first|exact(rfl:decide _=true)|exact(rfl:decide _=false)|(refine decide_eq_true ?_;assumption)|(refine decide_eq_false ?_;assumption)|(refine decide_eq_true ?_;omega)|(refine decide_eq_false ?_;omega))⟩):az P N all (⟨some d,op,ty,pos,af,some (j,b)⟩::rest) ρ σ Γ K:=by
 rcases hb with h|⟨c,h,rfl⟩
 ·exact .pD hd hj h k
 ·exact .rY hd hj h (by cases b<;>rfl) k
end
section
variable {S:Heap→Prop} {op:Op}
theorem zL {ah:List HP} {R:HP} (s:b6 Γ R ah:=by((repeat (first|with_reducible exact b6.head|apply b6.tail));(first|done|fail))):b6 Γ R ah:=s
theorem zM {l:List (Nat×Value)} (h:vp ρ l:=by(repeat (first|exact trivial|refine⟨rfl,?_⟩|refine⟨Eq.trans rfl (congrArg Value.bool abP.symm),?_⟩));(first|done|fail)):vp ρ l:=h
theorem zK {L:List (Nat×Nat)} {cI:Env} (h:eW L ρ cI:=by(repeat (first|exact eW.refl _ _|refine eW.cp ?_ rfl|refine eW.fX ?_ rfl|refine eW.S4 ?_));(first|done|fail)):eW L ρ cI:=h
theorem zP {v:Value} (h:Rd P ρ S op ty v:=by first|exact Rd.pT rfl|exact Rd.pF rfl|exact Rd.pP rfl):Rd P ρ S op ty v:=h
theorem zI {v:Value} (h:Rd P ρ S op ty v:=by first|exact Rd.adi rfl rfl|exact Rd.add rfl rfl):Rd P ρ S op ty v:=h
theorem zJ {v:Value} (h:Rd P ρ S op ty v:=by first|exact Rd.Xf rfl|exact Rd.not rfl):Rd P ρ S op ty v:=h
theorem zC {Δ:List HP} (h:Γ=Δ:=by conv=>lhs;dsimp only[List.cons_append,List.nil_append]):Γ=Δ:=h
theorem zX {ag:PH} (h:σ.sub ag:=by first|exact PH.sub.refl _|assumption|(refine PH.sub.trans ?_ (by assumption);assumption)):σ.sub ag:=h
theorem zD {Δ:List HP} (h:aw Γ Δ:=by(repeat (first|exact aw.all _|(apply aw.take;focus (first|((repeat (first|with_reducible exact b6.head|apply b6.tail));done)|((repeat (first|exact b6.head|apply b6.tail));done)))|apply aw.kC|apply aw.mc));(first|done|fail)):aw Γ Δ:=h
theorem zY {b c:Bool} (h:b=c:=by first|rfl|exact(by first|exact(rfl:decide _=true)|exact(rfl:decide _=false)|(refine decide_eq_true ?_;assumption)|(refine decide_eq_false ?_;assumption)|(refine decide_eq_true ?_;omega)|(refine decide_eq_false ?_;omega))):b=c:=h
end
abbrev zR:=@XA.region
abbrev zN:=@az.nil
abbrev zS:=@XA.seq
abbrev zT:=@DA.bE
abbrev zO:=@az.rd
section
variable {all:Array Oper} {rest:List Oper} {d:Nat} {pos:String} {af:Array Edge} {v:Value}
theorem zA {x:Operand} (hd:Nat.blt d N=true) (k:az P N all rest (cp ρ d v) σ Γ K) (hv:ev ρ x=v:=by with_reducible (conv=>lhs;whnf)):az P N all (⟨some d,.move x,ty,pos,af,none⟩::rest) ρ σ Γ K:=az.rd hd (.move hv) k
theorem zB {T:TypeId} {x:Operand} {r:Ty} {g o:Nat} (hd:Nat.blt d N=true) (hx:ev ρ x=.pointer (some ⟨g,o,none⟩)) (hT:av P T=some r) (hk:r.k.agg=false) (k:az P N all rest (cp ρ d v) σ Γ K) (hc:j3 (Ho σ Γ) g o v:=by first|(exact j3.au (by((repeat (first|with_reducible exact b6.head|apply b6.tail));(first|done|fail))) (by first|rfl|assumption))|(exact j3.wN (by first|assumption))|(exact j3.bn (by((repeat (first|with_reducible exact b6.head|apply b6.tail));(first|done|fail))) (by first|rfl|assumption))):az P N all (⟨some d,.load T x,ty,pos,af,none⟩::rest) ρ σ Γ K:=az.rd hd (Rd.EN hx hT hk hc) k
theorem zV {T:TypeId} {x:Operand} {f g o n m:Nat} {r:Ty} {fs:List (TypeId×Nat)} {ft:TypeId} {r':Ty} (hd:Nat.blt d N=true) (hx:ev ρ x=.pointer (some ⟨g,o,none⟩)) (k:az P N all rest (cp ρ d (.pointer (some ⟨g,m,none⟩))) σ Γ K) (hT:av P T=some r:=by exact ad rfl) (hk:r.k=.struct fs:=by rfl) (hf:fs[f]? =some (ft,n):=by rfl) (Ip:av P ft=some r':=by exact ad rfl) (hz:Nat.beq r'.size 0=false:=by rfl)
 (ho:o+n=m:=by first|(conv=>lhs;simp only[Nat.reduceAdd,Nat.zero_add,Nat.add_zero,Nat.reduceMul,Nat.mul_one,Int.toNat_natCast,Int.reduceToNat,Nat.zero_mul])|rfl):az P N all (⟨some d,.fieldAddr T x f,ty,pos,af,none⟩::rest) ρ σ Γ K:=az.rd hd (Rd.fA hx hT hk hf Ip hz ho) k
end
theorem zE {Δ:List HP} (he:aw Γ Δ:=by(repeat (first|exact aw.nil _|(apply aw.bP;focus (first|((repeat (first|with_reducible exact b6.head|apply b6.tail));done)|((repeat (first|exact b6.head|apply b6.tail));done)))|apply aw.fy|apply aw.pL));(first|done|fail)):aw Γ Δ:=he
theorem stays {bV ag:PH} {ah bp:List HP} {J:Prop} (k:J) (hs:bV.sub ag:=by first|exact PH.sub.refl _|assumption|(refine PH.sub.trans ?_ (by assumption);assumption)) (he:aw ah bp:=by(repeat (first|exact aw.nil _|(apply aw.bP;focus (first|((repeat (first|with_reducible exact b6.head|apply b6.tail));done)|((repeat (first|exact b6.head|apply b6.tail));done)))|apply aw.fy|apply aw.pL));(first|done|fail)):(bV.sub ag∧aw ah bp)∧J:=⟨⟨hs,he⟩,k⟩
end
end X
end Go.Proofs.YtgeoiflbjcehcaaGreatDoor
