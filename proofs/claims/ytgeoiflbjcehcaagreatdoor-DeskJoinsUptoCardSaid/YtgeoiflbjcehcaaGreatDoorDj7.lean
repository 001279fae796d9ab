import Derived.Test.YtgeoiflbjcehcaaGreatDoorDj6
import Derived.LoopN
import Derived.Laws.Pointers
import Derived.Laws.Strings
import Derived.Laws.StructEq
import Derived.Laws.Small
set_option maxHeartbeats 4000000
set_option maxRecDepth 2000
set_option linter.unusedVariables false
set_option linter.unusedSimpArgs false
namespace Go.Proofs.YtgeoiflbjcehcaaGreatDoor
namespace X
open Go
variable {P:Program} {N:Nat} {ρ:Env} {σ:PH} {Γ ah:List HP} {K:KA}
structure jX (P:Program) (N n:Nat) (c:Code) (ρ:Env) (σ:PH) (Γ:List HP) (K:KA):Prop where
 out:∀f h,Holds σ Γ f h→∀(w0:World) (a:Act) (w:World),ec w0 w→w.heap=h→da N a ρ→Code.rounds P c (ll w0 a.defers N (KF f K)) n a w
theorem XA.eO {c:Code} (n:Nat) (hx:jX P N n c ρ σ Γ K):XA P N (.loop c) ρ σ Γ K:=⟨fun f h hh=>⟨fun w0 a w hs hw he=>wp_loop_rounds n (hx.out f h hh w0 a w hs hw he)⟩⟩
theorem jX.succ {n:Nat} {c:Code} (hx:XA P N c ρ σ Γ (mJ (fun ρ σ Γ=>jX P N n c ρ σ Γ K) K)):jX P N (n+1) c ρ σ Γ K:=by
 refine⟨fun f h hh w0 a w hs hw he=>?_⟩;refine wp_mono ((hx.out f h hh).out w0 a w hs hw he) ?_;rintro e a' w' ⟨h1,h2,cI,h3,ag,ah,hk,je⟩
 cases e with
 |normal=>have:=hk.out f w'.heap je w0 a' w' h2 rfl h3;rw[h1] at this;exact this
 |_=>exact⟨h1,h2,cI,h3,ag,ah,hk,je⟩
theorem aG.five {fn:Func} {t1 t2 t3 t4 t5:Tmp} {v1 v2 v3 v4 v5:Value} (hf:fn.results=#[.tmp t1,.tmp t2,.tmp t3,.tmp t4,.tmp t5]) (h1:ρ t1=v1) (h2:ρ t2=v2) (h3:ρ t3=v3) (h4:ρ t4=v4) (h5:ρ t5=v5):aG P fn ρ σ Γ (.tuple #[v1,v2,v3,v4,v5]):=fun _ _ w a _ he=>by
 have k1:=he.get t1;have k2:=he.get t2;have k3:=he.get t3;have k4:=he.get t4;have k5:=he.get t5;simp[results,hf];rw[←h1,←h2,←h3,←h4,←h5];simp at k1 k2 k3 k4 k5;simp[k1,k2,k3,k4,k5]
theorem Rd.XB {S:Heap→Prop} {ty T T':TypeId} {x y:Operand} {kk:IntKind} {a b c:Int} (hx:ev ρ x=.int kk a) (hy:ev ρ y=.int kk b) (hc:kk.wrap (a-b)=c):Rd P ρ S (.binOp .sub T x y T') ty (.int kk c):=hc▸Rd.sub hx hy
def aV (σ:PH) (v:Value) (xs:List Int):Prop:=∃(p:Option Addr) (c:Nat),v=.slice p xs.length c∧xs.length≤c∧c≤maxLen∧(0<xs.length→∃g o,p=some ⟨g,o,none⟩∧cz σ g o (ints xs))
theorem aV.mono {ag:PH} (s:σ.sub ag) {v:Value} {xs:List Int} (h:aV σ v xs):aV ag v xs:=by
 obtain⟨p,c,h1,h2,h3,h4⟩:=h;exact⟨p,c,h1,h2,h3,fun hp=>by obtain⟨g,o,e,r⟩:=h4 hp;exact⟨g,o,e,r.mono s⟩⟩
theorem aV.nil (σ:PH):aV σ (.slice none 0 0) []:=⟨none,0,rfl,Nat.le_refl _,by simp[maxLen],by simp⟩
theorem aV.at {p:Option Addr} {n c:Nat} {xs:List Int} (h:aV σ (.slice p n c) xs) {k:Nat} {x:Int} (hk:xs[k]? =some x):∃g o,p=some ⟨g,o,none⟩∧cz σ g (o+k*1) [i64 x]:=by
 obtain⟨p',c',h1,h2,h3,h4⟩:=h;simp only[Value.slice.injEq] at h1;obtain⟨rfl,rfl,rfl⟩:=h1;have aT:=(List.getElem?_eq_some_iff.1 hk).1;obtain⟨g,o,rfl,hr⟩:=h4 (by omega);refine⟨g,o,rfl,?_⟩;rw[Nat.mul_one];refine hr.sub (j:=k) ?_;obtain⟨h5,h6⟩:=List.getElem?_eq_some_iff.1 hk
 have:(ints xs).drop k=i64 x::(ints xs).drop (k+1):=by
  rw[List.drop_eq_getElem_cons (by simpa using h5)];simp[ints,h6]
 rw[this];rfl
theorem aV.tail {p:Option Addr} {n c:Nat} {x:Int} {xs:List Int} (h:aV σ (.slice p n c) (x::xs)):aV σ (.slice (if c=1 then p else p.map (·.add (1*1))) (n-1) (c-1)) xs:=by
 obtain⟨p',c',h1,h2,h3,h4⟩:=h;simp only[Value.slice.injEq,List.length_cons] at h1 h2 h4;obtain⟨rfl,rfl,rfl⟩:=h1;refine⟨_,_,by rw[Nat.add_sub_cancel],by omega,by omega,fun hp=>?_⟩;obtain⟨g,o,rfl,hr⟩:=h4 (by omega);rw[if_neg (by omega)];exact⟨g,o+1,by simp[addr_add],hr.sub (j:=1) (by simp[ints];rw[List.take_of_length_le (by simp)])⟩
theorem aV.shape {v:Value} {xs:List Int} (h:aV σ v xs):∃p c,v=.slice p xs.length c∧xs.length≤c∧c≤maxLen:=by
 obtain⟨p,c,h1,h2,h3,h4⟩:=h;exact⟨p,c,h1,h2,h3⟩
theorem ux {e n:Nat} {v:Value} {xs:List Int} {m:PH} (h:bn e 1 v n (ints xs) m):aV m v xs:=by
 obtain⟨h1,⟨rfl,rfl⟩|⟨g,cap,rfl,cur,h3,h4,h5,h6,h7⟩⟩:=h
 ·(have:xs=[]:=by(have h1:(ints xs).length=0:=by simpa using h1);(simpa using h1));subst this;exact aV.nil _
 ·(have hn:xs.length=n:=by simpa using h1);subst hn;exact⟨_,_,rfl,h4,h5,fun _=>⟨g,0,rfl,cz.Fj h3 (by simpa using h7)⟩⟩
theorem Rd.pM {S:Heap→Prop} {ty:TypeId} {T:TypeId} {x y:Operand} {r re:Ty} {e len cap:Nat} {a:Option Addr} {kk:IntKind} (hT:av P T=some r) (hk:r.k=.slice e) (hE:av P e=some re) (bQ:re.size=1) (hx:ev ρ x=.slice a len cap) (hy:ev ρ y=.int kk 1) (hl:1≤len):Rd P ρ S (.slice T x (some y) none none) ty (.slice (if cap=1 then a else a.map (·.add (1*1))) (len-1) (cap-1)):=by
 have h:=Rd.j0 (P:=P) (ρ:=ρ) (S:=S) (ty:=ty) (lo:=some y) (hi:=none) (mx:=none) (l:=1) (hh:=len) (m:=cap) hT hk hE hx (fun w=>by
  have hb:=fun c w=>lC (P:=P) (y:=len) (c:=c) (kk:=kk) (i:=1) (by decide) (by omega) w
  simp[Instr.sliceBounds,hy,hb])
 rw[bQ] at h;exact h
theorem aC.nb {T e:TypeId} {x y:Operand} {ty:TypeId} {r re:Ty} {n m c g o:Nat} {p0:Option Addr} {xs news:List Value} (hT:av P T=some r) (hk:r.k=.slice e) (hE:av P e=some re) (hz:re.zero.length=re.size)
 (hs:ev ρ x=.slice p0 n n) (hy:ev ρ y=.slice (some ⟨g,o,none⟩) m c) (hx:∀j u,xs[j]? =some u→∃g0 o0,p0=some ⟨g0,o0,none⟩∧j3 (Ho σ Γ) g0 (o0+j) u) (hp:p0=none→n=0) (Ks:xs.length=n*re.size) (bL:At (Ho σ Γ) g o news)
 (hl:news.length=m*re.size) (h1:dn news) (hm:0<m) (zg:n+m≤maxLen) (hb:(n+m)*re.bytes≤140737488355328):
 aC P ρ σ Γ (.call {callee:=.builtin .append,args:=#[x,y],argTypes:=#[T,T]}) ty (fun v' ag Δ=>∃p c,v'=.slice p (n+m) c∧σ=ag∧Δ=bn e re.size (.slice p (n+m) c) (n+m) (xs++news)::Γ) fw:=
 ⟨fun f h hh=>⟨fun d pos af gd a w next Q' he hw hn O8=>by
  have h4:Holds σ (bn e re.size (.slice none 0 0) 0 []::Γ) f h:=hh.eS (aw.fy (aw.refl _))
  exact(Wr.nb hT hk hE hz (fun j u hu=>by obtain⟨g0,o0,e0,hc⟩:=hx j u hu;exact⟨g0,o0,e0,hc.out h hh.ho⟩) hp Ks hs (bL.out h hh.ho) hy hl h1 hm zg hb).out d pos af gd a w next Q' he hw (fun v' w' sm q=>by
   obtain⟨p,c,rfl⟩:=q.1.shape
   exact hn _ w' sm ⟨σ,_,⟨p,c,rfl,rfl,rfl⟩,h4.app .head (q.1.Tc (fun g _ hg=>.inr hg)) q.2⟩) (fun _ _ _ q=>q.elim)⟩⟩
theorem vw {g:Nat} {l:List Value} {T:TypeId}:∀m,au g l T m→∃_:Unit,cz m g 0 l:=fun m h=>⟨(),cz.Fj h (by simp)⟩
theorem kD {g:Nat} {l:List Value}:∀(_:Unit) (m m':PH),cz m g 0 l→m.sub m'→cz m' g 0 l:=fun _ _ _ h s=>h.mono s
theorem sg {α:Type} {l:List α} {k:Nat} {x:α} (h:l[k]? =some x):l.drop k=x::l.drop (k+1):=by
 obtain⟨h1,h2⟩:=List.getElem?_eq_some_iff.1 h;rw[List.drop_eq_getElem_cons h1,h2]
theorem xt {α:Type} {l:List α} {k:Nat} {x:α} (hk:l[k]? =some x):l.take (k+1)=l.take k++[x]:=by rw[List.take_add_one,hk];rfl
theorem mP (rows:List (List Value)) (r:List Value):(rows++[r]).flatten=rows.flatten++r:=by simp
theorem Rd.si {S:Heap→Prop} {T e:TypeId} {x y:Operand} {ty:TypeId} {r re:Ty} {n c c':Nat} {p q:Option Addr} (hT:av P T=some r) (hk:r.k=.slice e) (hE:av P e=some re) (hx:ev ρ x=.slice p n c) (hy:ev ρ y=.slice q 0 c') (Ad:n≤c):
 Rd P ρ S (.call {callee:=.builtin .append,args:=#[x,y],argTypes:=#[T,T]}) ty (.slice p n c):=by
 (refine .pure fun d pos af gd w=>?_);obtain⟨dd,i,z,e1,e2,-⟩:=aD hT;obtain⟨tO,i',z',rN,qI,jz,kA,-⟩:=aD hE;rw[hk] at e2;(cases dd<;>simp[kindOf] at e2);rw[e2] at e1;(have hl:∀w':World,(Builtin.lenOf (.slice q 0 c')).run P w'=.ok 0 w':=fun w'=>by simp[Builtin.lenOf]);(have hf:(Builtin.firstCells i'.size 0 (.slice q 0 c')).run P w=.ok #[] w:=by cases q<;>simp[Builtin.firstCells,loadCells,loadCellsFrom]);(have h:(Builtin.append_ #[T,T] ty #[.slice p n c,.slice q 0 c']).run P w=.ok (.slice p n c) w:=by cases p<;>simp[Builtin.append_,run_underlying e1,sizeOf,typeInfo,jz,hl,Ad,hf,storeCells]);simp only[execOp,resolve,invoke,builtin,Sem.run_bind,Sem.run_pure,Result.andThen_ok,List.map_toArray,List.map_cons,List.map_nil,hx,hy,h]
theorem dp {e size n c:Nat} {p:Option Addr} {xs:List Value}:∀m,bn e size (.slice p n c) n xs m→∃_:Unit,n≤c∧c≤maxLen∧xs.length=n*size∧(0<n→∃g o,p=some ⟨g,o,none⟩∧cz m g o xs):=by
 rintro m ⟨h1,⟨h2,rfl⟩|⟨g,cap,h2,cur,h3,h4,h5,h6,h7⟩⟩
 ·simp only[Value.slice.injEq] at h2;obtain⟨rfl,-,rfl⟩:=h2;exact⟨(),Nat.le_refl _,by simp[maxLen],h1,fun h=>absurd h (Nat.lt_irrefl _)⟩
 ·simp only[Value.slice.injEq] at h2;obtain⟨rfl,-,rfl⟩:=h2;exact⟨(),h4,h5,h1,fun _=>⟨g,0,rfl,cz.Fj h3 (by rw[h1];simpa using h7)⟩⟩
theorem aU {n c k:Nat} {p:Option Addr} {xs:List Value}:∀(_:Unit) (m m':PH),(n≤c∧c≤maxLen∧xs.length=k∧(0<n→∃g o,p=some ⟨g,o,none⟩∧cz m g o xs))→m.sub m'→(n≤c∧c≤maxLen∧xs.length=k∧(0<n→∃g o,p=some ⟨g,o,none⟩∧cz m' g o xs)):=
 fun _ _ _ ⟨h1,h2,h3,h4⟩ s=>⟨h1,h2,h3,fun h=>by obtain⟨g,o,e,r⟩:=h4 h;exact⟨g,o,e,r.mono s⟩⟩
structure cA {α:Type} (s:Nat) (R:RT α) (σ:PH) (rows:List (List Value)) (xs:List α):Prop where
 len:rows.length=xs.length
 size:∀row∈rows,row.length=s
 row:∀(i:Nat) (row:List Value) (x:α),rows[i]? =some row→xs[i]? =some x→R σ row x
theorem cA.nil {α:Type} (s:Nat) (R:RT α) (σ:PH):cA s R σ [] []:=⟨rfl,by simp,by simp⟩
theorem cA.mono {α:Type} {s:Nat} {R:RT α} {σ ag:PH} {rows:List (List Value)} {xs:List α} (h:cA s R σ rows xs) (hR:∀cs x,R σ cs x→R ag cs x):cA s R ag rows xs:=⟨h.len,h.size,fun i row x a b=>hR _ _ (h.row i row x a b)⟩
theorem cA.snoc {α:Type} {s:Nat} {R:RT α} {σ:PH} {rows:List (List Value)} {xs:List α} (h:cA s R σ rows xs) {row:List Value} {x:α} (hl:row.length=s) (hr:R σ row x):cA s R σ (rows++[row]) (xs++[x]):=by
 refine⟨by simp[h.len],fun r hm=>?_,fun i r y a b=>?_⟩
 ·simp only[List.mem_append,List.mem_singleton] at hm;rcases hm with hm|rfl
  ·exact h.size r hm
  ·exact hl
 ·rcases Nat.lt_or_ge i rows.length with hi|hi
  ·rw[List.getElem?_append_left hi] at a;rw[List.getElem?_append_left (by rw[←h.len];exact hi)] at b;exact h.row i r y a b
  ·rw[List.getElem?_append_right hi] at a;rw[List.getElem?_append_right (by rw[←h.len];exact hi),←h.len] at b
   cases hq:i-rows.length with
   |zero=>rw[hq] at a b;simp at a b;subst a;subst b;exact hr
   |succ q=>rw[hq] at a;simp at a
theorem cA.H4 {α:Type} {s n c k:Nat} {R:RT α} {σ:PH} {rows:List (List Value)} {xs:List α} {p:Option Addr} (h:cA s R σ rows xs) (hn:n=xs.length) (hf:n≤c∧c≤maxLen∧rows.flatten.length=k∧(0<n→∃g o,p=some ⟨g,o,none⟩∧cz σ g o rows.flatten)):bO s R σ (.slice p n c) xs:=by
 subst hn;exact⟨p,c,rows,rfl,hf.1,hf.2.1,h.len,h.size,h.row,hf.2.2.2⟩
end X
end Go.Proofs.YtgeoiflbjcehcaaGreatDoor
namespace Go.Proofs.YtgeoiflbjcehcaaGreatDoor
open Go X
inductive Ex where
 |mk (op v n:Int) (l:List Ex)
inductive St where
 |mk (op v:Int) (e f:Ex) (body cG:List St)
structure Va where
 name:ByteArray
 size:Int
 deriving DecidableEq
structure Pr where
 vars:List Va
 body:List St
namespace Ex
def op:Ex→Int|.mk o _ _ _=>o
def v:Ex→Int|.mk _ v _ _=>v
def n:Ex→Int|.mk _ _ n _=>n
def l:Ex→List Ex|.mk _ _ _ l=>l
theorem ind {P:Ex→Prop} (h:∀op v n l,(∀x∈l,P x)→P (.mk op v n l)):∀x,P x
 |.mk op v n l=>h op v n l (fun x _=>ind h x)
end Ex
namespace St
def op:St→Int|.mk o _ _ _ _ _=>o
def v:St→Int|.mk _ v _ _ _ _=>v
def e:St→Ex|.mk _ _ e _ _ _=>e
def f:St→Ex|.mk _ _ _ f _ _=>f
def body:St→List St|.mk _ _ _ _ b _=>b
def cG:St→List St|.mk _ _ _ _ _ l=>l
theorem ind {P:St→Prop} (h:∀op v e f body cG,(∀x∈body,P x)→(∀x∈cG,P x)→P (.mk op v e f body cG)):∀x,P x
 |.mk op v e f body cG=>h op v e f body cG (fun x _=>ind h x) (fun x _=>ind h x)
end St
def aF (n:Int):Prop:=-9223372036854775808≤n∧n≤9223372036854775807
inductive dc (σ:PH):List Value→Ex→Prop
 |mk {op v n:Int} {l:List Ex} {p:Option Addr} {c:Nat} (rows:List (List Value)) (ho:aF op) (hv:aF v) (hn:aF n) (h1:l.length≤c) (h2:c≤maxLen) (h3:rows.length=l.length) (h4:∀row∈rows,row.length=4)
  (h5:∀(i:Nat) (row:List Value) (x:Ex),rows[i]? =some row→l[i]? =some x→dc σ row x) (h6:0<l.length→∃g o,p=some ⟨g,o,none⟩∧cz σ g o rows.flatten):
  dc σ [i64 op,i64 v,i64 n,.slice p l.length c] (.mk op v n l)
inductive cT (σ:PH):List Value→St→Prop
 |mk {op v:Int} {e f:Ex} {body cG:List St} {ce cf:List Value} {p q:Option Addr} {c d:Nat} (rows sj:List (List Value)) (ho:aF op) (hv:aF v) (he:dc σ ce e) (hf:dc σ cf f)
  (h1:body.length≤c) (h2:c≤maxLen) (h3:rows.length=body.length) (h4:∀row∈rows,row.length=12)
  (h5:∀(i:Nat) (row:List Value) (x:St),rows[i]? =some row→body[i]? =some x→cT σ row x) (h6:0<body.length→∃g o,p=some ⟨g,o,none⟩∧cz σ g o rows.flatten)
  (g1:cG.length≤d) (g2:d≤maxLen) (g3:sj.length=cG.length) (g4:∀row∈sj,row.length=12)
  (g5:∀(i:Nat) (row:List Value) (x:St),sj[i]? =some row→cG[i]? =some x→cT σ row x) (g6:0<cG.length→∃g o,q=some ⟨g,o,none⟩∧cz σ g o sj.flatten):
  cT σ (i64 op::i64 v::(ce++cf++[.slice p body.length c,.slice q cG.length d])) (.mk op v e f body cG)
theorem dc.inv {σ:PH} {cs:List Value} {x:Ex} (h:dc σ cs x):∃p c,cs=[i64 x.op,i64 x.v,i64 x.n,.slice p x.l.length c]∧aF x.op∧aF x.v∧aF x.n∧bO 4 dc σ (.slice p x.l.length c) x.l:=by
 cases h with
 |mk rows ho hv hn h1 h2 h3 h4 h5 h6=>exact⟨_,_,rfl,ho,hv,hn,_,_,rows,rfl,h1,h2,h3,h4,h5,h6⟩
theorem dc.of {σ:PH} {op v n:Int} {l:List Ex} {sl:Value} (ho:aF op) (hv:aF v) (hn:aF n) (h:bO 4 dc σ sl l):dc σ [i64 op,i64 v,i64 n,sl] (.mk op v n l):=by
 obtain⟨p,c,rows,rfl,h1,h2,h3,h4,h5,h6⟩:=h;exact .mk rows ho hv hn h1 h2 h3 h4 h5 h6
theorem dc.len {σ:PH} {cs:List Value} {x:Ex} (h:dc σ cs x):cs.length=4:=by cases h;rfl
theorem cT.inv {σ:PH} {cs:List Value} {x:St} (h:cT σ cs x):∃ce cf p c q d,cs=i64 x.op::i64 x.v::(ce++cf++[.slice p x.body.length c,.slice q x.cG.length d])∧aF x.op∧aF x.v∧dc σ ce x.e∧dc σ cf x.f∧bO 12 cT σ (.slice p x.body.length c) x.body∧bO 12 cT σ (.slice q x.cG.length d) x.cG:=by
 cases h with
 |mk rows sj ho hv he hf h1 h2 h3 h4 h5 h6 g1 g2 g3 g4 g5 g6=>exact⟨_,_,_,_,_,_,rfl,ho,hv,he,hf,⟨_,_,rows,rfl,h1,h2,h3,h4,h5,h6⟩,⟨_,_,sj,rfl,g1,g2,g3,g4,g5,g6⟩⟩
theorem cT.of {σ:PH} {op v:Int} {e f:Ex} {ce cf:List Value} {body cG:List St} {sb se:Value} (ho:aF op) (hv:aF v) (he:dc σ ce e) (hf:dc σ cf f) (hb:bO 12 cT σ sb body) (hl:bO 12 cT σ se cG):
 cT σ (i64 op::i64 v::(ce++cf++[sb,se])) (.mk op v e f body cG):=by
 obtain⟨p,c,rows,rfl,h1,h2,h3,h4,h5,h6⟩:=hb;obtain⟨q,d,sj,rfl,g1,g2,g3,g4,g5,g6⟩:=hl;exact .mk rows sj ho hv he hf h1 h2 h3 h4 h5 h6 g1 g2 g3 g4 g5 g6
theorem cT.len {σ:PH} {cs:List Value} {x:St} (h:cT σ cs x):cs.length=12:=by
 obtain⟨ce,cf,p,c,q,d,rfl,-,-,he,hf,-⟩:=h.inv;simp[he.len,hf.len]
theorem dc.dn {σ:PH} {cs:List Value} {x:Ex} (h:dc σ cs x):X.dn cs:=by
 obtain⟨p,c,rfl,-⟩:=h.inv;exact jc rfl
theorem cT.BP {σ:PH} {cs:List Value} {x:St} (h:cT σ cs x):∃pe de pf df p c q d,cs=[i64 x.op,i64 x.v,i64 x.e.op,i64 x.e.v,i64 x.e.n,.slice pe x.e.l.length de,i64 x.f.op,i64 x.f.v,i64 x.f.n,.slice pf x.f.l.length df,.slice p x.body.length c,.slice q x.cG.length d]∧
 aF x.op∧aF x.v∧dc σ [i64 x.e.op,i64 x.e.v,i64 x.e.n,.slice pe x.e.l.length de] x.e∧dc σ [i64 x.f.op,i64 x.f.v,i64 x.f.n,.slice pf x.f.l.length df] x.f∧bO 12 cT σ (.slice p x.body.length c) x.body∧bO 12 cT σ (.slice q x.cG.length d) x.cG:=by
 obtain⟨ce,cf,p,c,q,d,rfl,h1,h2,h3,h4,h5,h6⟩:=h.inv;obtain⟨pe,de,rfl,-⟩:=h3.inv;obtain⟨pf,df,rfl,-⟩:=h4.inv;exact⟨pe,de,pf,df,p,c,q,d,rfl,h1,h2,h3,h4,h5,h6⟩
theorem cT.dn {σ:PH} {cs:List Value} {x:St} (h:cT σ cs x):X.dn cs:=by
 obtain⟨pe,de,pf,df,p,c,q,d,rfl,-⟩:=h.BP;exact jc rfl
theorem dc.mono {σ ag:PH} (s:σ.sub ag) {cs:List Value} {x:Ex} (h:dc σ cs x):dc ag cs x:=by
 induction h with
 |mk rows ho hv hn h1 h2 h3 h4 h5 h6 ih=>exact .mk rows ho hv hn h1 h2 h3 h4 ih (fun hp=>by obtain⟨g,o,e,r⟩:=h6 hp;exact⟨g,o,e,r.mono s⟩)
theorem cT.mono {σ ag:PH} (s:σ.sub ag) {cs:List Value} {x:St} (h:cT σ cs x):cT ag cs x:=by
 induction h with
 |mk rows sj ho hv he hf h1 h2 h3 h4 h5 h6 g1 g2 g3 g4 g5 g6 ih jh=>
  exact .mk rows sj ho hv (he.mono s) (hf.mono s) h1 h2 h3 h4 ih (fun hp=>by obtain⟨g,o,e,r⟩:=h6 hp;exact⟨g,o,e,r.mono s⟩) g1 g2 g3 g4 jh (fun hp=>by obtain⟨g,o,e,r⟩:=g6 hp;exact⟨g,o,e,r.mono s⟩)
namespace X
structure XC {α:Type} (n:Nat) (P:Program) (t:TypeId) (R:RT α):Prop where
 out:∀{H:Type} {enc:TypeId×Value→H} {w:World} {fuel:Nat} {cs:List Value} {x:DataW H×List MemPlace},fuel≤n→DataW.trod enc P w 0 (fun _=>true) true fuel t cs=some x→∃y,R (ek w.heap) cs y
variable {P:Program} {t e:TypeId} {α:Type}
theorem Dec.n {R:RT α} (h:Dec P t R) (n:Nat):XC n P t R:=⟨fun _ hx=>h.out hx⟩
theorem Ak {r:Ty} (hT:av P t=some r):P.cellsOf t=r.size:=by obtain⟨d,-,-,e3⟩:=ng hT;exact e3
end X
open X
def tU:RT Va:=fun _ cs v=>cs=[.string v.name,i64 v.size]∧aF v.size∧v.name.size≤maxLen
def fY (σ:PH) (cs:List Value) (p:Pr):Prop:=∃vs bs,cs=[vs,bs]∧bO 2 tU σ vs p.vars∧bO 12 cT σ bs p.body
theorem fY.mono {σ ag:PH} (s:σ.sub ag) {cs:List Value} {p:Pr} (h:fY σ cs p):fY ag cs p:=by
 obtain⟨vs,bs,rfl,h1,h2⟩:=h;exact⟨vs,bs,rfl,h1.mono s (fun _ _ h=>h),h2.mono s (fun _ _ h=>h.mono s)⟩
end Go.Proofs.YtgeoiflbjcehcaaGreatDoor
namespace Go.Proofs.YtgeoiflbjcehcaaGreatDoor
namespace X
open Go
variable {P:Program} {ρ:Env} {S:Heap→Prop} {ty:TypeId}
def bc (s:ByteArray) (i:Nat):Nat:=if h:i<s.size then (s[i]'h).toNat else 0
theorem pN (s:ByteArray) (i:Nat):bc s i<256:=by
 unfold bc;split
 ·exact UInt8.toNat_lt _
 ·decide
theorem Rd.dS {T:TypeId} {x y:Operand} {r:Ty} {s:ByteArray} {i:Nat} {kk:IntKind} (hT:av P T=some r) (hk:r.k=.string) (hx:ev ρ x=.string s) (hy:ev ρ y=.int kk i) (hi:i<s.size):Rd P ρ S (.index T x y) ty (.int .u8 (bc s i)):=by
 (refine .pure fun d pos af gd w=>?_);obtain⟨dd,ii,z,e1,e2,-⟩:=aD hT;rw[hk] at e2;(cases dd<;>simp[kindOf] at e2);have h:=run_index_string (P:=P) w T s kk i e1;rw[dif_pos ⟨by omega,by omega⟩] at h;simp only[execOp,hx,hy,Sem.run_bind,h,Result.andThen_ok,Sem.run_pure,bc,hi,dif_pos,Int.toNat_natCast]
theorem Fu (a b:ByteArray):(a.toList==b.toList)=decide (a=b):=by
 rw[ByteArray.toList_eq,ByteArray.toList_eq];obtain⟨⟨x⟩⟩:=a;obtain⟨⟨y⟩⟩:=b;by_cases h:x=y
 ·subst h;simp
 ·simp[h]
theorem Rd.eE {T T':TypeId} {x y:Operand} {a b:ByteArray} (hx:ev ρ x=.string a) (hy:ev ρ y=.string b):Rd P ρ S (.binOp .eql T x y T') ty (.bool (decide (a=b))):=by
 (refine .pure fun d pos af gd w=>?_);simp only[execOp,eqGuard,hx,hy,binOp,Op.stringOp,Sem.run_bind,Fu];simp
theorem Rd.neqs {T T':TypeId} {x y:Operand} {a b:ByteArray} (hx:ev ρ x=.string a) (hy:ev ρ y=.string b):Rd P ρ S (.binOp .neq T x y T') ty (.bool (decide (a≠b))):=by
 (refine .pure fun d pos af gd w=>?_);simp only[execOp,eqGuard,hx,hy,binOp,Op.stringOp,Sem.run_bind,Fu];by_cases h:a=b<;>simp[h]
theorem Rd.max2 {x y:Operand} {a b:Int} {jx:Array TypeId} (hx:ev ρ x=i64 a) (hy:ev ρ y=i64 b):Rd P ρ S (.call {callee:=.builtin .max,args:=#[x,y],argTypes:=jx}) ty (i64 (if b>a then b else a)):=by
 (refine .pure fun d pos af gd w=>?_);simp[execOp,resolve,invoke,builtin,hx,hy,run_max_int2]
theorem Rd.min2 {x y:Operand} {a b:Int} {jx:Array TypeId} (hx:ev ρ x=i64 a) (hy:ev ρ y=i64 b):Rd P ρ S (.call {callee:=.builtin .min,args:=#[x,y],argTypes:=jx}) ty (i64 (if b<a then b else a)):=by
 (refine .pure fun d pos af gd w=>?_);simp[execOp,resolve,invoke,builtin,hx,hy,run_min_int2]
def Wf (v:Va):Value:=.agg [.string v.name,i64 v.size].toArray
end X
namespace X
open Go
section
variable {P:Program} {N:Nat} {ρ:Env} {σ:PH} {Γ:List HP} {K:KA} {all:Array Oper} {rest:List Oper} {o:Oper} {d:Option Nat} {ty T T':TypeId} {pos:String} {af:Array Edge} {g:Nat×Bool} {x y z:Operand} {n:Nat} {b:BinOp} {u:UnOp} {c:Call} {a:Array (Nat×Operand)}
theorem XD (h:az P N all (o::rest) ρ σ Γ K):az P N all (o::rest) ρ σ Γ K:=h
theorem aMv (h:az P N all (⟨d,.move x,ty,pos,af,none⟩::rest) ρ σ Γ K):az P N all (⟨d,.move x,ty,pos,af,none⟩::rest) ρ σ Γ K:=h
theorem aFa (h:az P N all (⟨d,.fieldAddr T x n,ty,pos,af,none⟩::rest) ρ σ Γ K):az P N all (⟨d,.fieldAddr T x n,ty,pos,af,none⟩::rest) ρ σ Γ K:=h
theorem aLd (h:az P N all (⟨d,.load T x,ty,pos,af,none⟩::rest) ρ σ Γ K):az P N all (⟨d,.load T x,ty,pos,af,none⟩::rest) ρ σ Γ K:=h
theorem aIx (h:az P N all (⟨d,.indexAddr T x y,ty,pos,af,none⟩::rest) ρ σ Γ K):az P N all (⟨d,.indexAddr T x y,ty,pos,af,none⟩::rest) ρ σ Γ K:=h
theorem aNc (h:az P N all (⟨d,.nilCheck x,ty,pos,af,none⟩::rest) ρ σ Γ K):az P N all (⟨d,.nilCheck x,ty,pos,af,none⟩::rest) ρ σ Γ K:=h
theorem aAs (h:az P N all (⟨d,.assign x,ty,pos,af,none⟩::rest) ρ σ Γ K):az P N all (⟨d,.assign x,ty,pos,af,none⟩::rest) ρ σ Γ K:=h
theorem aSt (h:az P N all (⟨d,.store T x y,ty,pos,af,none⟩::rest) ρ σ Γ K):az P N all (⟨d,.store T x y,ty,pos,af,none⟩::rest) ρ σ Γ K:=h
theorem aPk (h:az P N all (⟨d,.pick x y z,ty,pos,af,none⟩::rest) ρ σ Γ K):az P N all (⟨d,.pick x y z,ty,pos,af,none⟩::rest) ρ σ Γ K:=h
theorem aBo (h:az P N all (⟨d,.binOp b T x y T',ty,pos,af,none⟩::rest) ρ σ Γ K):az P N all (⟨d,.binOp b T x y T',ty,pos,af,none⟩::rest) ρ σ Γ K:=h
theorem aB1 (h:az P N all (⟨d,.binOp .eql T x y T',ty,pos,af,none⟩::rest) ρ σ Γ K):az P N all (⟨d,.binOp .eql T x y T',ty,pos,af,none⟩::rest) ρ σ Γ K:=h
theorem aB2 (h:az P N all (⟨d,.binOp .neq T x y T',ty,pos,af,none⟩::rest) ρ σ Γ K):az P N all (⟨d,.binOp .neq T x y T',ty,pos,af,none⟩::rest) ρ σ Γ K:=h
theorem aB3 (h:az P N all (⟨d,.binOp .lss T x y T',ty,pos,af,none⟩::rest) ρ σ Γ K):az P N all (⟨d,.binOp .lss T x y T',ty,pos,af,none⟩::rest) ρ σ Γ K:=h
theorem aB4 (h:az P N all (⟨d,.binOp .gtr T x y T',ty,pos,af,none⟩::rest) ρ σ Γ K):az P N all (⟨d,.binOp .gtr T x y T',ty,pos,af,none⟩::rest) ρ σ Γ K:=h
theorem aB5 (h:az P N all (⟨d,.binOp .add T x y T',ty,pos,af,none⟩::rest) ρ σ Γ K):az P N all (⟨d,.binOp .add T x y T',ty,pos,af,none⟩::rest) ρ σ Γ K:=h
theorem aUn (h:az P N all (⟨d,.unOp u T x,ty,pos,af,none⟩::rest) ρ σ Γ K):az P N all (⟨d,.unOp u T x,ty,pos,af,none⟩::rest) ρ σ Γ K:=h
theorem aEx (h:az P N all (⟨d,.extract x n,ty,pos,af,none⟩::rest) ρ σ Γ K):az P N all (⟨d,.extract x n,ty,pos,af,none⟩::rest) ρ σ Γ K:=h
theorem aCv (h:az P N all (⟨d,.convert T T' x,ty,pos,af,none⟩::rest) ρ σ Γ K):az P N all (⟨d,.convert T T' x,ty,pos,af,none⟩::rest) ρ σ Γ K:=h
theorem aBd (h:az P N all (⟨d,.build T a,ty,pos,af,none⟩::rest) ρ σ Γ K):az P N all (⟨d,.build T a,ty,pos,af,none⟩::rest) ρ σ Γ K:=h
theorem aCl (h:az P N all (⟨d,.call c,ty,pos,af,none⟩::rest) ρ σ Γ K):az P N all (⟨d,.call c,ty,pos,af,none⟩::rest) ρ σ Γ K:=h
theorem aGd {op:Op} (h:az P N all (⟨d,op,ty,pos,af,some g⟩::rest) ρ σ Γ K):az P N all (⟨d,op,ty,pos,af,some g⟩::rest) ρ σ Γ K:=h
theorem zst {ah:List HP} {op:Op} (hr:aC P ρ σ Γ op ty (fun v' ag Δ=>v'=undef∧σ=ag∧Δ=ah) fw) (k:az P N all rest (fX ρ d undef) σ ah K) (hd:ei N d=true:=by exact rfl):az P N all (⟨d,op,ty,pos,af,none⟩::rest) ρ σ Γ K:=
 az.fL hd hr (fun _ _ _ ⟨a,b,c⟩=>by subst a;subst b;subst c;exact k)
end
theorem XE {P:Program} {N:Nat} {ρ:Env} {σ:PH} {Γ:List HP} {K:KA} {c:Operand} {y z:Code} (h:XA P N (.cond c y z) ρ σ Γ K):XA P N (.cond c y z) ρ σ Γ K:=h
structure KK (B:Prop):Prop where
 out:B
theorem zq0 {A B:Prop} (k:B) (h:KK B→A:=by
 (intro k
  first
  |(apply aMv;exact zA rfl k.out)
  |(apply aFa;exact zV rfl rfl k.out)
  |(apply aLd;first|exact zB rfl rfl (ad rfl) rfl k.out|exact zO rfl (Rd.Ah rfl) k.out)
  |(apply aNc;exact zO rfl (Rd.nilCheck rfl) k.out)
  |(apply aAs;exact zO rfl Rd.BO k.out)
  |(apply aIx;first|exact zO rfl (Rd.NW rfl rfl) k.out|exact zO rfl (Rd.ixA rfl rfl) k.out)
  |(apply aSt;exact zst (aC.st (ad rfl) rfl) k.out)
  |(apply aBo;first
   |(apply aB1;exact zO rfl (Rd.eql rfl rfl) k.out)
   |(apply aB2;exact zO rfl (Rd.neq rfl rfl) k.out)
   |(apply aB3;exact zO rfl (Rd.lss rfl rfl) k.out)
   |(apply aB4;exact zO rfl (Rd.gtr rfl rfl) k.out)
   |(apply aB5;exact zO rfl zI k.out)
   |exact zO rfl (Rd.leq rfl rfl) k.out
   |exact zO rfl (Rd.geq rfl rfl) k.out
   |exact zO rfl (by first|exact Rd.sbi rfl rfl|exact Rd.sub rfl rfl) k.out)
  |(apply aPk;exact zO rfl zP k.out)
  |(apply aCl;first|exact zO rfl (Rd.wY (ad rfl) rfl rfl) k.out|exact zO rfl (Rd.pG (ad rfl) rfl rfl) k.out)
  |(apply aUn;exact zO rfl zJ k.out)
  |(apply aEx;exact zO rfl (Rd.extract rfl rfl) k.out)
  |(apply aCv;exact zO rfl (Rd.cvI (ad rfl) (ad rfl) rfl rfl) k.out)
  |(apply aBd;exact zO rfl (Rd.bl (fun _ _=>ad) rfl rfl rfl) k.out))):A:=h ⟨k⟩
def Qn:Nat→Nat→Nat→List (Nat×Kd)
 |_,0,_=>[]
 |i,n+1,c=>(i,match c%3 with|0=>.pu|1=>.rd|_=>.wr)::Qn (i+1) n (c/3)
section
variable {P:Program} {N:Nat} {ρ:Env} {σ:PH} {Γ:List HP} {K:KA} {ops:Array Oper} {bV:PH} {bp:List HP} {z:List Nat} {pl:List (Nat×Kd)}
structure j5 (P:Program) (N:Nat) (ops:Array Oper) (bV:PH) (bp:List HP) (z:List Nat) (i:Nat) (kd:Kd) (o:Oper) (pl:List (Nat×Kd)) (ρ:Env) (σ:PH) (Γ:List HP) (K:KA):Prop where
 out:ops[i]? =some o→aK P N ops bV bp z ((i,kd)::pl) ρ σ Γ K
theorem fZ {id:Nat} (n c:Nat) (z:List Nat) (en:aw Γ bp) (hx:aK P N ops σ bp z (Qn 0 n c) ρ σ Γ K) (hm:P.follows .mixedOrders=true:=by kernel_rfl) (hv:(cD ops z (Qn 0 n c) ops.size (Array.replicate ops.size false)&&Region.noSelect ops)=true:=by kernel_rfl):XA P N (.region id ops true) ρ σ Γ K:=XA.draw hm _ _ z _ hv (PH.sub.refl _) en hx
theorem XG {q:Nat×Kd} (h:aK P N ops bV bp z (q::pl) ρ σ Γ K):aK P N ops bV bp z (q::pl) ρ σ Γ K:=h
theorem atB {i:Nat} {kd:Kd} {o:Oper} (h:j5 P N ops bV bp z i kd o pl ρ σ Γ K) (hi:ops[i]? =some o):aK P N ops bV bp z ((i,kd)::pl) ρ σ Γ K:=h.out hi
section
variable {i d:Nat} {op:Op} {ty:TypeId} {pos:String} {af:Array Edge} {g:Option (Nat×Bool)} {v:Value}
theorem tV (hr:Rd P ρ (fun _=>True) op ty v) (k:aK P N ops bV bp z pl (cp ρ d v) σ Γ K) (hd:Nat.blt d N=true:=by exact rfl) (hg:Gd ops ρ g true:=by first|exact Gd.free|exact Gd.EM rfl rfl rfl|(apply Gd.Fp;rfl;rfl;exact(by first|exact(rfl:decide _=true)|exact(rfl:decide _=false)|(refine decide_eq_true ?_;assumption)|(refine decide_eq_false ?_;assumption)|(refine decide_eq_true ?_;omega)|(refine decide_eq_false ?_;omega));rfl)):j5 P N ops bV bp z i .pu ⟨some d,op,ty,pos,af,g⟩ pl ρ σ Γ K:=⟨fun hi=>aK.pu hi hd hg hr k⟩
theorem zpd (hr:Rd P ρ (Ho bV bp) op ty v) (k:aK P N ops bV bp z pl (cp ρ d v) σ Γ K) (hd:Nat.blt d N=true:=by exact rfl) (hg:Gd ops ρ g true:=by first|exact Gd.free|exact Gd.EM rfl rfl rfl|(apply Gd.Fp;rfl;rfl;exact(by first|exact(rfl:decide _=true)|exact(rfl:decide _=false)|(refine decide_eq_true ?_;assumption)|(refine decide_eq_false ?_;assumption)|(refine decide_eq_true ?_;omega)|(refine decide_eq_false ?_;omega));rfl)):j5 P N ops bV bp z i .rd ⟨some d,op,ty,pos,af,g⟩ pl ρ σ Γ K:=⟨fun hi=>aK.rd hi hd hg hr k⟩
theorem zpo (k:aK P N ops bV bp z pl (cp ρ d undef) σ Γ K) (hd:Nat.blt d N=true:=by exact rfl) (hg:Gd ops ρ g false:=by first|exact Gd.EM rfl rfl rfl|exact Gd.un rfl rfl|(apply Gd.Fp;rfl;rfl;exact(by first|exact(rfl:decide _=true)|exact(rfl:decide _=false)|(refine decide_eq_true ?_;assumption)|(refine decide_eq_false ?_;assumption)|(refine decide_eq_true ?_;omega)|(refine decide_eq_false ?_;omega));rfl)):j5 P N ops bV bp z i .pu ⟨some d,op,ty,pos,af,g⟩ pl ρ σ Γ K:=⟨fun hi=>aK.xg hi hd hg k⟩
theorem zpq (k:aK P N ops bV bp z pl (cp ρ d undef) σ Γ K) (hd:Nat.blt d N=true:=by exact rfl) (hg:Gd ops ρ g false:=by first|exact Gd.EM rfl rfl rfl|exact Gd.un rfl rfl|(apply Gd.Fp;rfl;rfl;exact(by first|exact(rfl:decide _=true)|exact(rfl:decide _=false)|(refine decide_eq_true ?_;assumption)|(refine decide_eq_false ?_;assumption)|(refine decide_eq_true ?_;omega)|(refine decide_eq_false ?_;omega));rfl)):j5 P N ops bV bp z i .rd ⟨some d,op,ty,pos,af,g⟩ pl ρ σ Γ K:=⟨fun hi=>aK.off hi hd hg k⟩
end
section
variable {i:Nat} {kd:Kd} {d:Option Nat} {ty T T':TypeId} {pos:String} {af:Array Edge} {g:Option (Nat×Bool)} {x y w:Operand} {n:Nat} {b:BinOp} {u:UnOp} {c:Call} {a:Array (Nat×Operand)}
theorem pMv (h:j5 P N ops bV bp z i kd ⟨d,.move x,ty,pos,af,g⟩ pl ρ σ Γ K):j5 P N ops bV bp z i kd ⟨d,.move x,ty,pos,af,g⟩ pl ρ σ Γ K:=h
theorem pFa (h:j5 P N ops bV bp z i kd ⟨d,.fieldAddr T x n,ty,pos,af,g⟩ pl ρ σ Γ K):j5 P N ops bV bp z i kd ⟨d,.fieldAddr T x n,ty,pos,af,g⟩ pl ρ σ Γ K:=h
theorem pLd (h:j5 P N ops bV bp z i kd ⟨d,.load T x,ty,pos,af,g⟩ pl ρ σ Γ K):j5 P N ops bV bp z i kd ⟨d,.load T x,ty,pos,af,g⟩ pl ρ σ Γ K:=h
theorem pIx (h:j5 P N ops bV bp z i kd ⟨d,.indexAddr T x y,ty,pos,af,g⟩ pl ρ σ Γ K):j5 P N ops bV bp z i kd ⟨d,.indexAddr T x y,ty,pos,af,g⟩ pl ρ σ Γ K:=h
theorem pNc (h:j5 P N ops bV bp z i kd ⟨d,.nilCheck x,ty,pos,af,g⟩ pl ρ σ Γ K):j5 P N ops bV bp z i kd ⟨d,.nilCheck x,ty,pos,af,g⟩ pl ρ σ Γ K:=h
theorem pAs (h:j5 P N ops bV bp z i kd ⟨d,.assign x,ty,pos,af,g⟩ pl ρ σ Γ K):j5 P N ops bV bp z i kd ⟨d,.assign x,ty,pos,af,g⟩ pl ρ σ Γ K:=h
theorem pPk (h:j5 P N ops bV bp z i kd ⟨d,.pick x y w,ty,pos,af,g⟩ pl ρ σ Γ K):j5 P N ops bV bp z i kd ⟨d,.pick x y w,ty,pos,af,g⟩ pl ρ σ Γ K:=h
theorem pBo (h:j5 P N ops bV bp z i kd ⟨d,.binOp b T x y T',ty,pos,af,g⟩ pl ρ σ Γ K):j5 P N ops bV bp z i kd ⟨d,.binOp b T x y T',ty,pos,af,g⟩ pl ρ σ Γ K:=h
theorem pUn (h:j5 P N ops bV bp z i kd ⟨d,.unOp u T x,ty,pos,af,g⟩ pl ρ σ Γ K):j5 P N ops bV bp z i kd ⟨d,.unOp u T x,ty,pos,af,g⟩ pl ρ σ Γ K:=h
theorem pEx (h:j5 P N ops bV bp z i kd ⟨d,.extract x n,ty,pos,af,g⟩ pl ρ σ Γ K):j5 P N ops bV bp z i kd ⟨d,.extract x n,ty,pos,af,g⟩ pl ρ σ Γ K:=h
theorem pCv (h:j5 P N ops bV bp z i kd ⟨d,.convert T T' x,ty,pos,af,g⟩ pl ρ σ Γ K):j5 P N ops bV bp z i kd ⟨d,.convert T T' x,ty,pos,af,g⟩ pl ρ σ Γ K:=h
theorem pBd (h:j5 P N ops bV bp z i kd ⟨d,.build T a,ty,pos,af,g⟩ pl ρ σ Γ K):j5 P N ops bV bp z i kd ⟨d,.build T a,ty,pos,af,g⟩ pl ρ σ Γ K:=h
theorem pCl (h:j5 P N ops bV bp z i kd ⟨d,.call c,ty,pos,af,g⟩ pl ρ σ Γ K):j5 P N ops bV bp z i kd ⟨d,.call c,ty,pos,af,g⟩ pl ρ σ Γ K:=h
theorem pB1 (h:j5 P N ops bV bp z i kd ⟨d,.binOp .eql T x y T',ty,pos,af,g⟩ pl ρ σ Γ K):j5 P N ops bV bp z i kd ⟨d,.binOp .eql T x y T',ty,pos,af,g⟩ pl ρ σ Γ K:=h
theorem pB2 (h:j5 P N ops bV bp z i kd ⟨d,.binOp .neq T x y T',ty,pos,af,g⟩ pl ρ σ Γ K):j5 P N ops bV bp z i kd ⟨d,.binOp .neq T x y T',ty,pos,af,g⟩ pl ρ σ Γ K:=h
theorem pB3 (h:j5 P N ops bV bp z i kd ⟨d,.binOp .lss T x y T',ty,pos,af,g⟩ pl ρ σ Γ K):j5 P N ops bV bp z i kd ⟨d,.binOp .lss T x y T',ty,pos,af,g⟩ pl ρ σ Γ K:=h
theorem pB4 (h:j5 P N ops bV bp z i kd ⟨d,.binOp .gtr T x y T',ty,pos,af,g⟩ pl ρ σ Γ K):j5 P N ops bV bp z i kd ⟨d,.binOp .gtr T x y T',ty,pos,af,g⟩ pl ρ σ Γ K:=h
theorem pB5 (h:j5 P N ops bV bp z i kd ⟨d,.binOp .add T x y T',ty,pos,af,g⟩ pl ρ σ Γ K):j5 P N ops bV bp z i kd ⟨d,.binOp .add T x y T',ty,pos,af,g⟩ pl ρ σ Γ K:=h
end
end
theorem zp0 {A B:Prop} (k:B) (h:KK B→A:=by
 (intro k
  first
  |(apply pMv;exact tV Rd.mv k.out)
  |(apply pFa;exact tV (Rd.fA rfl) k.out)
  |(apply pLd;first|exact zpd (Rd.EN rfl (ad rfl) rfl) k.out|exact zpd (Rd.Ah rfl) k.out)
  |(apply pNc;exact tV (Rd.nilCheck rfl) k.out)
  |(apply pAs;exact tV Rd.BO k.out)
  |(apply pIx;first|exact tV (Rd.NW rfl rfl) k.out|exact tV (Rd.ixA rfl rfl) k.out)
  |(apply pBo;first
   |(apply pB1;exact tV (Rd.eql rfl rfl) k.out)
   |(apply pB2;exact tV (Rd.neq rfl rfl) k.out)
   |(apply pB3;exact tV (Rd.lss rfl rfl) k.out)
   |(apply pB4;exact tV (Rd.gtr rfl rfl) k.out)
   |(apply pB5;exact tV zI k.out)
   |exact tV (Rd.leq rfl rfl) k.out
   |exact tV (Rd.geq rfl rfl) k.out
   |exact tV (by first|exact Rd.sbi rfl rfl|exact Rd.sub rfl rfl) k.out)
  |(apply pPk;exact tV zP k.out)
  |(apply pCl;first|exact tV (Rd.wY (ad rfl) rfl rfl) k.out|exact tV (Rd.pG (ad rfl) rfl rfl) k.out)
  |(apply pUn;exact tV zJ k.out)
  |(apply pEx;exact tV (Rd.extract rfl rfl) k.out)
  |(apply pCv;exact tV (Rd.cvI (ad rfl) (ad rfl) rfl rfl) k.out)
  |(apply pBd;exact tV (Rd.bl (fun _ _=>ad) rfl rfl rfl) k.out)
  |exact zpo k.out
  |exact zpq k.out)):A:=h ⟨k⟩
theorem b3 {A B:Prop} (k:B) (h:KK B→A:=by
 (intro k
  first
  |(apply XD;first|(apply aGd;first|(refine zG ?_;exact zq0 k.out)|exact zH k.out)|exact zq0 k.out)
  |(with_reducible apply DA.bE;exact k.out)
  |(apply XA.seq;exact k.out)
  |(apply XG;refine atB ?_ rfl;exact zp0 k.out)
  |(apply XA.region;exact k.out)
  |(apply az.nil;exact k.out)
  |(apply XA.skip;exact k.out)
  |(apply XA.block;exact k.out)
  |(with_reducible apply DA.rX;exact k.out)
  |(apply XA.exit;exact k.out)
  |(with_reducible apply DA.wV;exact k.out)
  |(with_reducible apply DA.wW;exact k.out)
  |(with_reducible apply DA.Dd;exact rfl;exact k.out)
  |(apply XA.ret;exact k.out)
  |(apply aK.nil;exact k.out)
  |(apply XE;first|exact XA.bG rfl rfl k.out|exact XA.aR rfl rfl k.out)
  |(with_reducible apply DA.vh;exact k.out)
  |(with_reducible apply DA.BF;exact k.out))):A:=h ⟨k⟩
theorem aN {A B:Prop} (k:B) (h:KK B→A:=by(intro k;(iterate 2 (refine b3 ?_));exact k.out)):A:=h ⟨k⟩
theorem bq {A B:Prop} (k:B) (h:KK B→A:=by(intro k;(iterate 3 (refine b3 ?_));exact k.out)):A:=h ⟨k⟩
theorem bM {A B:Prop} (k:B) (h:KK B→A:=by(intro k;(iterate 4 (refine b3 ?_));exact k.out)):A:=h ⟨k⟩
theorem b9 {A B:Prop} (k:B) (h:KK B→A:=by(intro k;(iterate 5 (refine b3 ?_));exact k.out)):A:=h ⟨k⟩
theorem aO {A B:Prop} (k:B) (h:KK B→A:=by(intro k;(iterate 6 (refine b3 ?_));exact k.out)):A:=h ⟨k⟩
theorem bt {A B:Prop} (k:B) (h:KK B→A:=by(intro k;(iterate 7 (refine b3 ?_));exact k.out)):A:=h ⟨k⟩
theorem bC {A B:Prop} (k:B) (h:KK B→A:=by(intro k;(iterate 8 (refine b3 ?_));exact k.out)):A:=h ⟨k⟩
theorem a8 {A B:Prop} (k:B) (h:KK B→A:=by(intro k;(iterate 9 (refine b3 ?_));exact k.out)):A:=h ⟨k⟩
theorem aW {A B:Prop} (k:B) (h:KK B→A:=by(intro k;(iterate 10 (refine b3 ?_));exact k.out)):A:=h ⟨k⟩
theorem cg {A B:Prop} (k:B) (h:KK B→A:=by(intro k;(iterate 11 (refine b3 ?_));exact k.out)):A:=h ⟨k⟩
theorem bH {A B:Prop} (k:B) (h:KK B→A:=by(intro k;(iterate 12 (refine b3 ?_));exact k.out)):A:=h ⟨k⟩
theorem eP {A B:Prop} (k:B) (h:KK B→A:=by(intro k;(iterate 13 (refine b3 ?_));exact k.out)):A:=h ⟨k⟩
theorem dJ {A B:Prop} (k:B) (h:KK B→A:=by(intro k;(iterate 14 (refine b3 ?_));exact k.out)):A:=h ⟨k⟩
theorem cr {A B:Prop} (k:B) (h:KK B→A:=by(intro k;(iterate 15 (refine b3 ?_));exact k.out)):A:=h ⟨k⟩
theorem ic {A B:Prop} (k:B) (h:KK B→A:=by(intro k;(iterate 16 (refine b3 ?_));exact k.out)):A:=h ⟨k⟩
theorem dE {A B:Prop} (k:B) (h:KK B→A:=by(intro k;(iterate 17 (refine b3 ?_));exact k.out)):A:=h ⟨k⟩
theorem tW {A B:Prop} (k:B) (h:KK B→A:=by(intro k;(iterate 18 (refine b3 ?_));exact k.out)):A:=h ⟨k⟩
theorem jM {A B:Prop} (k:B) (h:KK B→A:=by(intro k;(iterate 19 (refine b3 ?_));exact k.out)):A:=h ⟨k⟩
theorem tX {A B:Prop} (k:B) (h:KK B→A:=by(intro k;(iterate 20 (refine b3 ?_));exact k.out)):A:=h ⟨k⟩
theorem XH {A B:Prop} (k:B) (h:KK B→A:=by(intro k;(iterate 21 (refine b3 ?_));exact k.out)):A:=h ⟨k⟩
theorem oa {A B:Prop} (k:B) (h:KK B→A:=by(intro k;(iterate 22 (refine b3 ?_));exact k.out)):A:=h ⟨k⟩
theorem XI {A B:Prop} (k:B) (h:KK B→A:=by(intro k;(iterate 23 (refine b3 ?_));exact k.out)):A:=h ⟨k⟩
theorem Fv {A B:Prop} (k:B) (h:KK B→A:=by(intro k;(iterate 24 (refine b3 ?_));exact k.out)):A:=h ⟨k⟩
theorem Kt {A B:Prop} (k:B) (h:KK B→A:=by(intro k;(iterate 25 (refine b3 ?_));exact k.out)):A:=h ⟨k⟩
theorem Qo {A B:Prop} (k:B) (h:KK B→A:=by(intro k;(iterate 26 (refine b3 ?_));exact k.out)):A:=h ⟨k⟩
theorem Ku {A B:Prop} (k:B) (h:KK B→A:=by(intro k;(iterate 27 (refine b3 ?_));exact k.out)):A:=h ⟨k⟩
theorem nh {A B:Prop} (k:B) (h:KK B→A:=by(intro k;(iterate 28 (refine b3 ?_));exact k.out)):A:=h ⟨k⟩
theorem Qp {A B:Prop} (k:B) (h:KK B→A:=by(intro k;(iterate 32 (refine b3 ?_));exact k.out)):A:=h ⟨k⟩
section
variable {P:Program} {N:Nat} {ρ:Env} {σ:PH} {Γ:List HP} {K:KA} {all:Array Oper} {rest:List Oper} {d:Nat} {ty T:TypeId} {pos:String} {af:Array Edge} {x:Operand} {r:Ty}
theorem cR (k:∀g,az P N all rest (fX ρ (some d) (.pointer (some ⟨g,0,none⟩))) σ (au g r.zero T::Γ) K) (hT:av P T=some r) (hd:ei N (some d)=true:=by exact rfl):az P N all (⟨some d,.alloc T,ty,pos,af,none⟩::rest) ρ σ Γ K:=
 az.fL hd (aC.alloc hT) (fun _ _ _ ⟨g,a,b,c⟩=>by subst a;subst b;subst c;exact k g)
theorem cN {v:Value} {l:List Value} (k:∀g,az P N all rest (fX ρ (some d) (.pointer (some ⟨g,0,none⟩))) σ (au g l T::Γ) K) (hx:ev ρ x=v:=by with_reducible (conv=>lhs;whnf)) (hl:v.cells=l.toArray:=by first|exact jd _|exact gM _|rfl) (hd:ei N (some d)=true:=by exact rfl):az P N all (⟨some d,.box T x,ty,pos,af,none⟩::rest) ρ σ Γ K:=
 az.fL hd (aC.box hx hl) (fun _ _ _ ⟨g,a,b,c⟩=>by subst a;subst b;subst c;exact k g)
theorem cF {L:List (Nat×Nat)} {cI:Env} (h:eW L ρ cI:=by(repeat (first|with_reducible exact eW.refl _ _|refine eW.cp ?_ rfl|refine eW.fX ?_ rfl|refine eW.S4 ?_|refine eW.Sy ?_ rfl));(first|done|fail)):eW L ρ cI:=h
theorem jN {l:List (Nat×Value)} (h:vp ρ l:=by(repeat (first|exact trivial|refine⟨(by with_reducible (conv=>lhs;whnf)),?_⟩));(first|done|fail)):vp ρ l:=h
theorem mQ {c:Operand} {y z:Code} {b:Bool} (k:XA P N y ρ σ Γ K) (hc:ev ρ c=.bool b:=by exact rfl) (hb:b=true:=by first|rfl|exact decide_eq_true (by omega)):XA P N (.cond c y z) ρ σ Γ K:=XA.bG hc hb k
theorem lz {c:Operand} {y z:Code} {b:Bool} (k:XA P N z ρ σ Γ K) (hc:ev ρ c=.bool b:=by exact rfl) (hb:b=false:=by first|rfl|exact decide_eq_false (by omega)):XA P N (.cond c y z) ρ σ Γ K:=XA.aR hc hb k
theorem b8 {fn:Func} {R:Ending→PH→List HP→Prop} {t:Tmp} {v:Value} {ah:List HP} (hf:fn.results=#[.tmp t]) (hv:ρ t=v) (hR:R (.returned v) σ ah) (he:aw Γ ah:=by(repeat (first|exact aw.nil _|(apply aw.bP;focus (first|((repeat (first|with_reducible exact b6.head|apply b6.tail));done)|((repeat (first|exact b6.head|apply b6.tail));done)))|apply aw.fy|apply aw.pL));(first|done|fail)):DA (ao P fn R) .ret ρ σ Γ:=ao.ret (aG.one hf hv) he hR
theorem N0 {fn:Func} {R:Ending→PH→List HP→Prop} {ah:List HP} (hf:fn.results=#[]) (hR:R (.returned (.tuple #[])) σ ah) (he:aw Γ ah:=by(repeat (first|exact aw.nil _|(apply aw.bP;focus (first|((repeat (first|with_reducible exact b6.head|apply b6.tail));done)|((repeat (first|exact b6.head|apply b6.tail));done)))|apply aw.fy|apply aw.pL));(first|done|fail)):DA (ao P fn R) .ret ρ σ Γ:=ao.ret (aG.none hf) he hR
theorem fU {fn:Func} {R:Ending→PH→List HP→Prop} {ah:List HP} (hf:fn.results=#[]) (hR:R (.returned (.tuple #[])) σ ah) (he:aw Γ ah:=by(repeat (first|exact aw.nil _|(apply aw.bP;focus (first|((repeat (first|with_reducible exact b6.head|apply b6.tail));done)|((repeat (first|exact b6.head|apply b6.tail));done)))|apply aw.fy|apply aw.pL));(first|done|fail)):DA (ao P fn R) .normal ρ σ Γ:=ao.normal (aG.none hf) he hR
end
section
variable {P:Program} {σ:PH} {Γ:List HP} {f:FuncId} {fn:Func} {co:Code} {R:Ending→PH→List HP→Prop}
theorem XJ (hf:P.funcs[f]? =some fn) (hx:XA P fn.ntmps co U σ Γ (ao P fn R)) (hb:fn.body=some co:=by exact rfl) (hn:cS fn=true:=by exact rfl) (hN:Nat.ble 0 fn.ntmps=true:=by exact rfl):ae P f #[] σ Γ R:=Km hf hb hn hN hx
theorem dF {a:Value} (hf:P.funcs[f]? =some fn) (hx:XA P fn.ntmps co (cp U 0 a) σ Γ (ao P fn R)) (hb:fn.body=some co:=by exact rfl) (hn:cS fn=true:=by exact rfl) (hN:Nat.ble 1 fn.ntmps=true:=by exact rfl):ae P f #[a] σ Γ R:=Kn hf hb hn hN hx
theorem bS {a b:Value} (hf:P.funcs[f]? =some fn) (hx:XA P fn.ntmps co (cp (cp U 0 a) 1 b) σ Γ (ao P fn R)) (hb:fn.body=some co:=by exact rfl) (hn:cS fn=true:=by exact rfl) (hN:Nat.ble 2 fn.ntmps=true:=by exact rfl):ae P f #[a,b] σ Γ R:=Ko hf hb hn hN hx
theorem ob {a b c:Value} (hf:P.funcs[f]? =some fn) (hx:XA P fn.ntmps co (cp (cp (cp U 0 a) 1 b) 2 c) σ Γ (ao P fn R)) (hb:fn.body=some co:=by exact rfl) (hn:cS fn=true:=by exact rfl) (hN:Nat.ble 3 fn.ntmps=true:=by exact rfl):ae P f #[a,b,c] σ Γ R:=Kp hf hb hn hN hx
theorem zf4 {a b c d:Value} (hf:P.funcs[f]? =some fn) (hx:XA P fn.ntmps co (cp (cp (cp (cp U 0 a) 1 b) 2 c) 3 d) σ Γ (ao P fn R)) (hb:fn.body=some co:=by exact rfl) (hn:cS fn=true:=by exact rfl) (hN:Nat.ble 4 fn.ntmps=true:=by exact rfl):ae P f #[a,b,c,d] σ Γ R:=Kq hf hb hn hN hx
end
end X
end Go.Proofs.YtgeoiflbjcehcaaGreatDoor
namespace Go.Proofs.YtgeoiflbjcehcaaGreatDoor
open Go X
def partsOf (op:Int):Int:=if op=1∨op=2 then 0 else if op=3 then 1 else if 4≤op∧op≤8 then 2 else-1
def dT (op:Int):Bool:=decide (op=1∨op=2∨op=3∨op=5∨op=6)
def j6 (op:Int):Bool:=decide (op=2)
def qQ (op:Int):Bool:=decide (op=1∨op=2∨op=4)
def qR (op:Int):Bool:=decide (op=5∨op=6)
def qS (op:Int):Bool:=decide (op=6)
abbrev JE:=Except Int Int
def JE.fail (e:JE) (b:Bool) (c:Int):JE:=match e with|.ok l=>if b then .error c else .ok l|.error d=>.error d
def JE.one (e:JE) (deep:Int):JE:=match e with|.ok l=>if 12<deep then .error 4 else if l=0 then .error 3 else .ok (l-1)|.error d=>.error d
def JE.named (e:JE) (nv v:Int) (is:Bool):JE:=(e.fail (is&&decide (v<0∨nv≤v)) 1).fail (!is&&decide (v≠0)) 5
def fz (nv deep op v n:Int) (k:Nat) (e:JE):JE:=(((e.one deep).fail (decide (partsOf op<0)) 2).fail (decide ((k:Int)≠partsOf op∨(n≠0∧op≠1))) 5).named nv v (decide (op=2∨op=3))
mutual
def la (nv:Int):Int→Ex→JE→JE
 |deep,.mk op v n l,e=>gF nv (deep+1) l (fz nv deep op v n l.length e)
def gF (nv:Int):Int→List Ex→JE→JE
 |_,[],e=>e
 |deep,x::l,e=>gF nv deep l (la nv deep x e)
end
def od (x:Ex):Bool:=decide (x.op=0∧x.v=0∧x.n=0∧x.l.length=0)
def pO (op:Int) (e f:Ex) (kb ke:Nat):Bool:=(!dT op&&!od e)||(!j6 op&&!od f)||(!qR op&&decide ((0:Int)<(kb:Int)))||(!qS op&&decide ((0:Int)<(ke:Int)))
def fb (nv deep op v:Int) (e f:Ex) (kb ke:Nat) (s:JE):JE:=(((s.one deep).fail (decide (op<1∨7<op)) 2).fail (pO op e f kb ke) 5).named nv v (qQ op)
def oe (nv deep op:Int) (e f:Ex) (s:JE):JE:=
 let s1:=if dT op then la nv deep e s else s
 if j6 op then la nv deep f s1 else s1
mutual
def og (nv:Int):Int→St→JE→JE
 |deep,.mk op v e f body cG,s=>dL nv (deep+1) cG (dL nv (deep+1) body (oe nv (deep+1) op e f (fb nv deep op v e f body.length cG.length s)))
def dL (nv:Int):Int→List St→JE→JE
 |_,[],s=>s
 |deep,x::l,s=>dL nv deep l (og nv deep x s)
end
def eF (s:ByteArray):Bool:=decide ((∀i,i<s.size→97≤bc s i∧bc s i≤122)∧1≤s.size∧s.size≤8)
def sizes (l:List Va):Int:=(l.map (·.size)).sum
def gN (seen:List Va) (n:Int):List Va→Int
 |[]=>0
 |v::l=>if eF v.name=false then 8 else if ∃w∈seen,w.name=v.name then 9 else if v.size<1∨48-n<v.size then 1 else gN (seen++[v]) (n+v.size) l
def JE.code:JE→Int|.ok _=>0|.error c=>c
def checkVars (l:List Va):Int:=if 8<l.length then 3 else gN [] 0 l
def bR (p:Pr):Int:=if checkVars p.vars≠0 then checkVars p.vars else (dL p.vars.length 0 p.body (.ok 150)).code
def cellOf (l:List Va) (v:Int):Int:=sizes (l.take v.toNat)
mutual
def rO:Ex→Nat
 |.mk _ _ _ l=>1+jO l
def jO:List Ex→Nat
 |[]=>0
 |x::l=>rO x+jO l
end
mutual
def zj:St→Nat
 |.mk _ _ e f body cG=>1+rO e+rO f+ez body+ez cG
def ez:List St→Nat
 |[]=>0
 |x::l=>zj x+ez l
end
theorem kE (x:Ex):1≤rO x:=by cases x;simp[rO]
theorem Kv (x:St):3≤zj x:=by
 cases x with
 |mk op v e f b l=>have:=kE e;have:=kE f;simp only[zj];omega
theorem xu:∀l:List Ex,l.length≤jO l
 |[]=>Nat.le_refl _
 |x::l=>by have:=xu l;have:=kE x;simp only[jO,List.length_cons];omega
theorem xx:∀l:List St,l.length*3≤ez l
 |[]=>Nat.le_refl _
 |x::l=>by have:=xx l;have:=Kv x;simp only[ez,List.length_cons];omega
theorem sn:∀(l m:List Ex),jO (l++m)=jO l+jO m
 |[],m=>by simp[jO]
 |x::l,m=>by have:=sn l m;simp only[List.cons_append,jO,this];omega
theorem oh:∀(l m:List St),ez (l++m)=ez l+ez m
 |[],m=>by simp[ez]
 |x::l,m=>by have:=oh l m;simp only[List.cons_append,ez,this];omega
@[simp] theorem jf (c:Int) (b:Bool) (d:Int):JE.fail (.error c) b d=.error c:=rfl
@[simp] theorem Wg (c d:Int):JE.one (.error c) d=.error c:=rfl
@[simp] theorem uy (c nv v:Int) (is:Bool):JE.named (.error c) nv v is=.error c:=rfl
@[simp] theorem nj (e:JE) (d:Int):JE.fail e false d=e:=by cases e<;>rfl
@[simp] theorem Al (nv deep op v n:Int) (k:Nat) (c:Int):fz nv deep op v n k (.error c)=.error c:=rfl
@[simp] theorem Am (nv deep op v:Int) (e f:Ex) (kb ke:Nat) (c:Int):fb nv deep op v e f kb ke (.error c)=.error c:=rfl
theorem pQ (nv c:Int):∀(l:List Ex),(∀x∈l,∀deep,la nv deep x (.error c)=.error c)→∀deep,gF nv deep l (.error c)=.error c
 |[],_,_=>rfl
 |x::l,h,deep=>by rw[gF,h x (by simp)];exact pQ nv c l (fun y hy=>h y (by simp[hy])) deep
@[simp] theorem mf (nv c:Int) (x:Ex):∀deep,la nv deep x (.error c)=.error c:=by
 refine Ex.ind (P:=fun x=>∀deep,la nv deep x (.error c)=.error c) ?_ x;intro op v n l ih deep;rw[la,Al];exact pQ nv c l ih _
@[simp] theorem so (nv c:Int) (l:List Ex) (deep:Int):gF nv deep l (.error c)=.error c:=pQ nv c l (fun x _=>mf nv c x) deep
@[simp] theorem sq (nv deep op:Int) (e f:Ex) (c:Int):oe nv deep op e f (.error c)=.error c:=by simp[oe]
theorem mg (nv c:Int):∀(l:List St),(∀x∈l,∀deep,og nv deep x (.error c)=.error c)→∀deep,dL nv deep l (.error c)=.error c
 |[],_,_=>rfl
 |x::l,h,deep=>by rw[dL,h x (by simp)];exact mg nv c l (fun y hy=>h y (by simp[hy])) deep
@[simp] theorem BQ (nv c:Int) (x:St):∀deep,og nv deep x (.error c)=.error c:=by
 refine St.ind (P:=fun x=>∀deep,og nv deep x (.error c)=.error c) ?_ x;intro op v e f body cG ih jh deep;rw[og,Am,sq,mg nv c body ih,mg nv c cG jh]
@[simp] theorem gf (nv c:Int) (l:List St) (deep:Int):dL nv deep l (.error c)=.error c:=mg nv c l (fun x _=>BQ nv c x) deep
theorem xy (nv deep:Int):∀(l m:List Ex) (s:JE),gF nv deep (l++m) s=gF nv deep m (gF nv deep l s)
 |[],_,_=>rfl
 |x::l,m,s=>by rw[List.cons_append,gF,gF,xy nv deep l m]
theorem xA (nv deep:Int):∀(l m:List St) (s:JE),dL nv deep (l++m) s=dL nv deep m (dL nv deep l s)
 |[],_,_=>rfl
 |x::l,m,s=>by rw[List.cons_append,dL,dL,xA nv deep l m]
theorem Dn (nv deep:Int) (l:List Ex) (k:Nat) (x:Ex) (s:JE) (h:l[k]? =some x):gF nv deep (l.take (k+1)) s=la nv deep x (gF nv deep (l.take k) s):=by
 rw[List.take_add_one,h];simp[xy,gF]
theorem Dp (nv deep:Int) (l:List St) (k:Nat) (x:St) (s:JE) (h:l[k]? =some x):dL nv deep (l.take (k+1)) s=og nv deep x (dL nv deep (l.take k) s):=by
 rw[List.take_add_one,h];simp[xA,dL]
theorem sr (l:List Va) (k:Nat) (x:Va) (h:l[k]? =some x):sizes (l.take (k+1))=sizes (l.take k)+x.size:=by
 rw[List.take_add_one,h];simp[sizes,List.sum_append]
end Go.Proofs.YtgeoiflbjcehcaaGreatDoor
