import Derived.Test.YtgeoiflbjcehcaaGreatDoorDj1
import Derived.OrdersHeld
set_option maxHeartbeats 4000000
set_option maxRecDepth 2000
set_option linter.unusedVariables false
set_option linter.unusedSimpArgs false
namespace Go.Proofs.YtgeoiflbjcehcaaGreatDoor
namespace X
open Go
section
variable {P:Program} {N:Nat} {all:Array Oper} {rest:List Oper} {ρ:Env} {h:Heap} {K:jb}
theorem w8 {c:Code} {Q:Exit→Act→World→Prop} (I:Nat→Act→World→Prop)
 (round:∀n a w,I n a w→c.wp P (Exit.then (fun a' w'=>∃m,m<n∧I m a' w') Q) a w):∀n a w,I n a w→(Code.loop c).wp P Q a w:=by
 intro n a w hI b k cs
 have key:∀n a w,I n a w→∃e a' w',Q e a' w'∧Arrives P (lone (b.at a (.code c::.inLoop c::k)) cs w) b k cs e a' w':=by
  intro n
  induction n using Nat.strongRecOn with
  |_ n ih=>
   intro a w hI;obtain⟨e,Dh,Di,hq,w9⟩:=round n a w hI b (.inLoop c::k) cs
   cases e with
   |normal=>
    obtain⟨m,aT,S2⟩:=hq;obtain⟨Xi,Xj,Xk,S3,Iu⟩:=ih m aT Dh Di S2;exact⟨Xi,Xj,Xk,S3,.of_steps (Steps.trans w9 (.one step_inLoop)) Iu⟩
   |exit id=>exact⟨_,Dh,Di,hq,.pass (x:=.inLoop c) rfl (fun _ _=>.inl (by simp)) w9⟩
   |goto l=>exact⟨_,Dh,Di,hq,.pass (x:=.inLoop c) rfl (fun _ _=>.inl (by simp)) w9⟩
   |ret=>exact⟨_,Dh,Di,hq,.pass (x:=.inLoop c) rfl (fun _ _=>.inl (by simp)) w9⟩
   |panic ch=>exact⟨_,Dh,Di,hq,.pass (x:=.inLoop c) rfl (fun _ _=>.inl (by simp)) w9⟩
   |outgrown=>exact⟨_,Dh,Di,hq,.pass (x:=.inLoop c) rfl (fun _ _=>.inl (by simp)) w9⟩
 obtain⟨e,a',w',hq,w9⟩:=key n a w hI;exact⟨e,a',w',hq,.of_steps (.one step_loop) w9⟩
@[reducible] def Sy (lo hi:Nat) (ρ δ:Env):Env:=fun s=>match Nat.ble lo s with
 |true=>(match Nat.ble s hi with|true=>δ s|false=>ρ s)
 |false=>ρ s
def eb:List (Nat×Nat)→Env→Env→Env
 |[],ρ,_=>ρ
 |(lo,hi)::l,ρ,δ=>Sy lo hi (eb l ρ δ) δ
def tP (L:List (Nat×Nat)) (s:Nat):Bool:=L.all fun p=>!(Nat.ble p.1 s&&Nat.ble s p.2)
def eW (L:List (Nat×Nat)) (ρ cI:Env):Prop:=∀s,tP L s=true→cI s=ρ s
theorem eW.refl (L:List (Nat×Nat)) (ρ:Env):eW L ρ ρ:=fun _ _=>rfl
theorem eW.cp {L:List (Nat×Nat)} {ρ cI:Env} {d:Nat} {v:Value} (hk:eW L ρ cI) (hd:tP L d=false):eW L ρ (cp cI d v):=fun s hs=>by
 (have:s≠d:=fun e=>by subst e;rw[hd] at hs;cases hs);rw[dx _ _ _ _ this];exact hk s hs
theorem eW.fX {L:List (Nat×Nat)} {ρ cI:Env} {d:Nat} {v:Value} (hk:eW L ρ cI) (hd:tP L d=false):eW L ρ (X.fX cI (some d) v):=eW.cp hk hd
theorem eW.S4 {L:List (Nat×Nat)} {ρ cI:Env} {v:Value} (hk:eW L ρ cI):eW L ρ (X.fX cI none v):=hk
theorem E8 {L:List (Nat×Nat)} {lo hi s:Nat} (hL:(L.any fun p=>Nat.ble p.1 lo&&Nat.ble hi p.2)=true) (h1:Nat.ble lo s=true) (h2:Nat.ble s hi=true):tP L s=false:=by
 simp only[List.any_eq_true,Bool.and_eq_true] at hL;obtain⟨p,hp,h3,h4⟩:=hL;have a:=Nat.le_of_ble_eq_true h1;have b:=Nat.le_of_ble_eq_true h2;have c:=Nat.le_of_ble_eq_true h3;have d:=Nat.le_of_ble_eq_true h4;unfold tP;simp only[List.all_eq_false];refine⟨p,hp,?_⟩;have e1:Nat.ble p.1 s=true:=Nat.ble_eq_true_of_le (by omega);have e2:Nat.ble s p.2=true:=Nat.ble_eq_true_of_le (by omega);simp[e1,e2]
theorem eW.Sy {L:List (Nat×Nat)} {ρ cI δ:Env} {lo hi:Nat} (hk:eW L ρ cI) (hd:(L.any fun p=>Nat.ble p.1 lo&&Nat.ble hi p.2)=true):eW L ρ (Sy lo hi cI δ):=fun s hs=>by
 unfold X.Sy
 cases e1:Nat.ble lo s with
 |false=>exact hk s hs
 |true=>
  cases e2:Nat.ble s hi with
  |false=>exact hk s hs
  |true=>rw[E8 hd e1 e2] at hs;cases hs
theorem Aa:∀{L:List (Nat×Nat)} {ρ cI:Env},eW L ρ cI→eb L ρ cI=cI:=by
 intro L
 have gen:∀(L:List (Nat×Nat)) (ρ cI:Env) (s:Nat),eb L ρ cI s=if tP L s=true then ρ s else cI s:=by
  intro L
  induction L with
  |nil=>intro ρ cI s;simp[eb,tP]
  |cons p L ih=>
   intro ρ cI s;obtain⟨lo,hi⟩:=p;simp only[eb,X.Sy]
   cases e1:Nat.ble lo s with
   |false=>simp only[ih,tP,List.all_cons,e1,Bool.false_and,Bool.not_false,Bool.true_and];rfl
   |true=>
    cases e2:Nat.ble s hi with
    |false=>simp only[ih,tP,List.all_cons,e1,e2,Bool.and_false,Bool.not_false,Bool.true_and];rfl
    |true=>simp[tP,e1,e2]
 intro ρ cI hk;funext s;rw[gen];split
 ·rename_i e;exact(hk s e).symm
 ·rfl
def vp (ρ:Env):List (Nat×Value)→Prop
 |[]=>True
 |(d,v)::l=>ρ d=v∧vp ρ l
theorem vp.get {ρ:Env}:∀{l:List (Nat×Value)},vp ρ l→∀p∈l,ρ p.1=p.2
 |[],_,_,hp=>by cases hp
 |(d,v)::l,⟨h1,h2⟩,p,hp=>by
  simp only[List.mem_cons] at hp;rcases hp with rfl|hp
  ·exact h1
  ·exact vp.get h2 p hp
theorem S5 {c:Code} {σ:Type} (L:List (Nat×Nat)) (E:σ→List (Nat×Value)) (I:σ→Heap→Prop) (μ:σ→Nat) (x0:σ) (e0:vp ρ (E x0)) (h0:I x0 h)
 (round:∀x δ h',I x h'→X P N c ((E x).foldl (fun r p=>cp r p.1 p.2) (eb L ρ δ)) h' (Dc (fun cI SX=>eW L ρ cI∧∃x',vp cI (E x')∧I x' SX∧μ x'<μ x) K)):X P N (.loop c) ρ h K:=by
 refine⟨fun w0 a w hs hh he=>?_⟩;refine w8 (fun n a' w'=>a'.defers=a.defers∧ec w0 w'∧∃x cI,μ x=n∧da N a' cI∧eW L ρ cI∧(∀p∈E x,cI p.1=p.2)∧I x w'.heap) ?_ (μ x0) a w ⟨rfl,hs,x0,ρ,rfl,he,.refl _ _,e0.get,hh▸h0⟩;rintro n a' w' ⟨hd,Xl,x,cI,rfl,S6,hk,hE,hI⟩
 have Xm:(E x).foldl (fun r p=>X.cp r p.1 p.2) (eb L ρ cI)=cI:=by
  rw[Aa hk]
  have:∀(l:List (Nat×Value)),(∀p∈l,cI p.1=p.2)→l.foldl (fun r p=>X.cp r p.1 p.2) cI=cI:=by
   intro l
   induction l with
   |nil=>intro _;rfl
   |cons p l ih=>
    intro hl
    have:X.cp cI p.1 p.2=cI:=by
     funext s;by_cases e:s=p.1
     ·rw[e,nW,hl p (by simp)]
     ·rw[dx _ _ _ _ e]
    rw[List.foldl_cons,this];exact ih fun q hq=>hl q (by simp[hq])
  exact this _ hE
 have hr:=round x cI w'.heap hI;rw[Xm] at hr;refine Code.wp_mono ?_ (hr.out w0 a' w' Xl rfl S6);rintro e a'' Xn ⟨q1,q2,S7,q3,q4⟩;rw[hd] at q1
 cases e with
 |normal=>
  obtain⟨k1,x',k2,k3,k4⟩:=q4;exact⟨μ x',k4,q1,q2,x',S7,rfl,q3,k1,k2.get,k3⟩
 |_=>exact⟨q1,q2,S7,q3,q4⟩
def kB (P:Program) (ops:Array Oper) (Q:Exit→Act→World→Prop) (S:World→Prop) (z:List Nat):Nat→Array Bool→Act→World→Prop
 |0,listed,a,w=>Region.ready .any ops listed=[]∧Q .normal a w
 |fuel+1,listed,a,w=>
  (Region.ready .any ops listed=[]→Q .normal a w)∧
  ∀i∈Region.ready .any ops listed,wpOp P ops Q i (fun a' w'=>(z.contains i=true∨(S w→S w'))∧kB P ops Q S z fuel (listed.setIfInBounds i true) a' w') a w
theorem mZ {ops:Array Oper} {Q:Exit→Act→World→Prop} {S:World→Prop} {z:List Nat}:∀(fuel:Nat) (listed:Array Bool) (a:Act) (w:World),kB P ops Q S z fuel listed a w→wpAny P .any ops Q fuel listed a w
 |0,_,_,_,h=>h
 |fuel+1,_,_,_,h=>⟨h.1,fun i hi=>wpOp_mono (fun a' w' h'=>mZ fuel _ a' w' h'.2) (h.2 i hi)⟩
def pH (ops:Array Oper):Nat→Nat→Nat→Bool
 |0,_,_=>false
 |n+1,j,i=>match ops[j]? with
  |some o=>o.after.any fun e=>Region.binds .any e&&(e.on==i||pH ops n e.on i)
  |none=>false
def rZ (ops:Array Oper) (z:List Nat) (i:Nat):Bool:=z.all fun j=>match ops[j]? with
 |some _=>pH ops 5 j i
 |none=>false
def iB (ops:Array Oper) (listed:Array Bool):Prop:=∀j oj,ops[j]? =some oj→listed.getD j false=true→∀e∈oj.after,Region.binds .any e=true→listed.getD e.on false=true
theorem iB.set {ops:Array Oper} {listed:Array Bool} (hc:iB ops listed) {j:Nat} (hj:j∈Region.ready .any ops listed):iB ops (listed.setIfInBounds j true):=by
 intro k ok hk hl e he hb;obtain⟨_,oj,Dj,bF⟩:=mem_ready.1 hj;(have keep:listed.getD e.on false=true→(listed.setIfInBounds j true).getD e.on false=true:=fun h=>getD_set_true h);by_cases L8:j=k
 ·subst L8;rw[hk] at Dj;simp only[Option.some.injEq] at Dj;subst Dj;exact keep (bF e he hb)
 ·rw[getD_set_ne false L8] at hl;exact keep (hc k ok hk hl e he hb)
theorem iB.reach {ops:Array Oper} {listed:Array Bool} (hc:iB ops listed) {i:Nat}:∀(n j:Nat) (oj:Oper),ops[j]? =some oj→(∀e∈oj.after,Region.binds .any e=true→listed.getD e.on false=true)→pH ops n j i=true→listed.getD i false=true
 |0,_,_,_,_,hr=>by simp[pH] at hr
 |n+1,j,oj,hj,bF,hr=>by
  simp only[pH,hj] at hr;obtain⟨k,hk,hb⟩:=Array.any_eq_true.1 hr;simp only[Bool.and_eq_true,Bool.or_eq_true,beq_iff_eq] at hb;have h1:=bF _ (Array.getElem_mem hk) hb.1;rcases hb.2 with h2|h2
  ·rw[←h2];exact h1
  ·cases ho:ops[(oj.after[k]).on]? with
   |none=>cases n<;>simp[pH,ho] at h2
   |some o'=>exact iB.reach hc n _ o' ho (hc _ o' ho h1) h2
theorem nZ {ops:Array Oper} {Q:Exit→Act→World→Prop} {S:World→Prop} {z:List Nat} {i:Nat} {oi:Oper} {v:Value} (hi:ops[i]? =some oi) (E9:∀(j:Nat) (o:Oper) cs b,ops[j]? =some o→o.op≠.select cs b)
 (hQ:∀c a w,Q (.panic c) (a.put oi.dst v) w→Q (.panic c) a w) (hz:rZ ops z i=true):
 ∀(fuel:Nat) (listed:Array Bool) (a:Act) (w:World),
  (∀j oj,ops[j]? =some oj→j≠i→listed.getD j true=false→(∀e∈oj.after,Region.binds .any e=true→e.on≠i)→oi.apart ops oj=true)→
  i∈Region.ready .any ops listed→iB ops listed→YieldsIf P ops S oi v a→S w→
  kB P ops Q S z fuel (listed.setIfInBounds i true) (a.put oi.dst v) w→kB P ops Q S z (fuel+1) listed a w:=by
 intro fuel
 induction fuel with
 |zero=>
  intro listed a w _ hr _ hy hS H;refine⟨fun h=>(by rw[h] at hr;cases hr),fun j hj=>?_⟩;by_cases xc:j=i
  ·subst xc;exact hy.wpOp hi hS ⟨.inr (fun _=>hS),H⟩
  ·have:=ready_mono hj xc;rw[H.1] at this;cases this
 |succ fuel ih=>
  intro listed a w k9 hr V8 hy hS H;refine⟨fun h=>(by rw[h] at hr;cases hr),fun j hj=>?_⟩;by_cases xc:j=i
  ·subst xc;exact hy.wpOp hi hS ⟨.inr (fun _=>hS),H⟩
  ·have h1:=H.2 j (ready_mono hj xc);obtain⟨Fa,oj,Dj,bF⟩:=mem_ready.1 hj
   have r6:∀e∈oj.after,Region.binds .any e=true→e.on≠i:=fun e he hb heq=>by
    have h1:=bF e he hb;have h0:=(mem_ready.1 hr).1;rw[heq] at h1;rcases Nat.lt_or_ge i listed.size with h'|h'
    ·simp[h'] at h0 h1;rw[h0] at h1;cases h1
    ·simp[Array.getElem?_eq_none h'] at h1
   have hjz:¬z.contains j=true:=fun e=>by
    have Fb:=List.all_eq_true.1 hz j (by simpa using e);simp only[Dj] at Fb;have h1:=iB.reach V8 5 j oj Dj (fun e he hb=>bF e he hb) Fb;have h0:=(mem_ready.1 hr).1;rcases Nat.lt_or_ge i listed.size with h'|h'
    ·simp[h'] at h0 h1;rw[h0] at h1;cases h1
    ·simp[Array.getElem?_eq_none h'] at h1
   have h2:=wpOp_putIf Dj (k9 j oj Dj xc Fa r6) (fun cs b=>E9 i oi cs b hi) (fun cs b=>E9 j oj cs b Dj) hQ hy h1
   have Ab:∀k ok,ops[k]? =some ok→k≠i→(listed.setIfInBounds j true).getD k true=false→
    (∀e∈ok.after,Region.binds .any e=true→e.on≠i)→oi.apart ops ok=true:=fun k ok hk Xo S8 xd=>by
    refine k9 k ok hk Xo ?_ xd;by_cases L8:j=k
    ·subst L8;exact Fa
    ·rw[getD_set_ne true L8] at S8;exact S8
   refine wpOp_mono (fun a' w' h3=>?_) h2;obtain⟨Xp,Xq,Xr⟩:=h3;have S9:S w':=Xq.resolve_left hjz hS;refine⟨.inr (fun _=>S9),ih (listed.setIfInBounds j true) a' w' Ab (ready_mono hr (Ne.symm xc)) (V8.set hj) Xp S9 ?_⟩;rw[Array.setIfInBounds_comm _ _ xc];exact Xr
theorem qL {ops:Array Oper} {Q:Exit→Act→World→Prop} {S:World→Prop} {z:List Nat} {i:Nat} {oi:Oper} {v:Value} (hi:ops[i]? =some oi) (E9:∀(j:Nat) (o:Oper) cs b,ops[j]? =some o→o.op≠.select cs b)
 (hQ:∀c a w,Q (.panic c) (a.put oi.dst v) w→Q (.panic c) a w):
 ∀(fuel:Nat) (listed:Array Bool) (a:Act) (w:World),
  (∀j oj,ops[j]? =some oj→j≠i→listed.getD j true=false→(∀e∈oj.after,Region.binds .any e=true→e.on≠i)→oi.apart ops oj=true)→
  i∈Region.ready .any ops listed→iB ops listed→YieldsIf P ops (fun _=>True) oi v a→
  kB P ops Q S z fuel (listed.setIfInBounds i true) (a.put oi.dst v) w→kB P ops Q S z (fuel+1) listed a w:=by
 intro fuel
 induction fuel with
 |zero=>
  intro listed a w _ hr _ hy H;refine⟨fun h=>(by rw[h] at hr;cases hr),fun j hj=>?_⟩;by_cases xc:j=i
  ·subst xc;exact hy.wpOp hi trivial ⟨.inr id,H⟩
  ·have:=ready_mono hj xc;rw[H.1] at this;cases this
 |succ fuel ih=>
  intro listed a w k9 hr V8 hy H;refine⟨fun h=>(by rw[h] at hr;cases hr),fun j hj=>?_⟩;by_cases xc:j=i
  ·subst xc;exact hy.wpOp hi trivial ⟨.inr id,H⟩
  ·have h1:=H.2 j (ready_mono hj xc);obtain⟨Fa,oj,Dj,bF⟩:=mem_ready.1 hj
   have r6:∀e∈oj.after,Region.binds .any e=true→e.on≠i:=fun e he hb heq=>by
    have h1:=bF e he hb;have h0:=(mem_ready.1 hr).1;rw[heq] at h1;rcases Nat.lt_or_ge i listed.size with h'|h'
    ·simp[h'] at h0 h1;rw[h0] at h1;cases h1
    ·simp[Array.getElem?_eq_none h'] at h1
   have h2:=wpOp_putIf Dj (k9 j oj Dj xc Fa r6) (fun cs b=>E9 i oi cs b hi) (fun cs b=>E9 j oj cs b Dj) hQ hy h1
   have Ab:∀k ok,ops[k]? =some ok→k≠i→(listed.setIfInBounds j true).getD k true=false→
    (∀e∈ok.after,Region.binds .any e=true→e.on≠i)→oi.apart ops ok=true:=fun k ok hk Xo S8 xd=>by
    refine k9 k ok hk Xo ?_ xd;by_cases L8:j=k
    ·subst L8;exact Fa
    ·rw[getD_set_ne true L8] at S8;exact S8
   refine wpOp_mono (fun a' w' h3=>?_) h2;obtain⟨Xp,Xq,Xr⟩:=h3;refine⟨Xq,ih (listed.setIfInBounds j true) a' w' Ab (ready_mono hr (Ne.symm xc)) (V8.set hj) Xp ?_⟩;rw[Array.setIfInBounds_comm _ _ xc];exact Xr
inductive Kd where
 |wr|rd|pu
def cD (ops:Array Oper) (z:List Nat):List (Nat×Kd)→Nat→Array Bool→Bool
 |[],_,listed=>(Region.ready .any ops listed).isEmpty
 |_::_,0,_=>false
 |(i,.pu)::pl,fuel+1,listed=>Region.free .any ops listed i&&(Region.ready .any ops listed).contains i&&cD ops z pl fuel (listed.setIfInBounds i true)
 |(i,.rd)::pl,fuel+1,listed=>Region.free .any ops listed i&&(Region.ready .any ops listed).contains i&&rZ ops z i&&cD ops z pl fuel (listed.setIfInBounds i true)
 |(i,.wr)::pl,fuel+1,listed=>(Region.ready .any ops listed==[i])&&cD ops z pl fuel (listed.setIfInBounds i true)
def late (z:List Nat) (pl:List (Nat×Kd)):Bool:=pl.all fun p=>match p.2 with
 |.wr=>z.contains p.1
 |.rd=>false
 |.pu=>true
structure XP (P:Program) (N:Nat) (ops:Array Oper) (S:Heap→Prop) (z:List Nat) (pl:List (Nat×Kd)) (ρ:Env) (h:Heap) (K:jb):Prop where
 out:∀(fuel:Nat) (listed:Array Bool) (w0:World) (a:Act) (w:World),cD ops z pl fuel listed=true→Region.noSelect ops=true→iB ops listed→ec w0 w→w.heap=h→da N a ρ→(late z pl=true∨S h)→kB P ops (ll w0 a.defers N K) (fun w=>S w.heap) z fuel listed a w
theorem XP.nil {ops:Array Oper} {S:Heap→Prop} {z:List Nat} (hk:K .normal ρ h):XP P N ops S z [] ρ h K:=by
 refine⟨fun fuel listed w0 a w hv hs dY nR hh he hS=>?_⟩;simp only[cD,List.isEmpty_iff] at hv;have hq:ll w0 a.defers N K .normal a w:=⟨rfl,nR,ρ,.of he,hh▸hk⟩
 cases fuel with
 |zero=>exact⟨hv,hq⟩
 |succ n=>exact⟨fun _=>hq,by rw[hv];intro i hi;cases hi⟩
theorem BG {ops:Array Oper} {a:Act} (he:da N a ρ) {j t:Nat} (hj:(ops[j]?).bind (·.dst)=some t):(∀b,ρ t=.bool b→yielded ops a.tmps j=some b)∧(ρ t=undef→yielded ops a.tmps j=none):=by
 have:=he.get t;unfold yielded;rw[hj];refine⟨fun b hb=>?_,fun hb=>?_⟩
 ·rw[hb] at this
  cases hq:a.tmps[t]? with
  |none=>simp[hq,undef] at this
  |some u=>simp[hq] at this;subst this;simp[hq]
 ·rw[hb] at this
  cases hq:a.tmps[t]? with
  |none=>simp[hq]
  |some u=>simp[hq] at this;subst this;simp[hq,undef]
inductive Gd (ops:Array Oper) (ρ:Env):Option (Nat×Bool)→Bool→Prop where
 |free:Gd ops ρ none true
 |is {j t:Nat} {b c:Bool} (hj:(ops[j]?).bind (·.dst)=some t) (hb:ρ t=.bool c):Gd ops ρ (some (j,b)) (c==b)
 |un {j t:Nat} {b:Bool} (hj:(ops[j]?).bind (·.dst)=some t) (hb:ρ t=undef):Gd ops ρ (some (j,b)) false
theorem Gd.wanted {ops:Array Oper} {a:Act} (he:da N a ρ) {d:Option Tmp} {op:Op} {ty:TypeId} {pos:String} {af:Array Edge} {g:Option (Nat×Bool)} {r:Bool} (hg:Gd ops ρ g r):Region.wanted ⟨d,op,ty,pos,af,g⟩ (yielded ops a.tmps)=r:=by
 cases hg with
 |free=>rfl
 |is hj hb=>simp[Region.wanted,(BG he hj).1 _ hb]
 |un hj hb=>simp[Region.wanted,(BG he hj).2 hb]
theorem XP.Ta {ops:Array Oper} {S:Heap→Prop} {z:List Nat} {i d:Nat} {pl:List (Nat×Kd)} {op:Op} {ty:TypeId} {pos:String} {af:Array Edge} {g:Option (Nat×Bool)} {v:Value} (hi:ops[i]? =some ⟨some d,op,ty,pos,af,g⟩) (hd:Nat.blt d N=true)
 (hy:∀a,da N a ρ→YieldsIf P ops (fun w=>S w.heap) ⟨some d,op,ty,pos,af,g⟩ v a) (k:XP P N ops S z pl (cp ρ d v) h K):XP P N ops S z ((i,.rd)::pl) ρ h K:=by
 refine⟨fun fuel listed w0 a w hv hs dY nR hh he hS=>?_⟩;have Fc:S h:=hS.resolve_left (by simp[late])
 cases fuel with
 |zero=>simp[cD] at hv
 |succ fuel=>
  simp only[cD,Bool.and_eq_true] at hv;have hk:=k.out fuel _ w0 (a.put (some d) v) w hv.2 hs (dY.set (by simpa using hv.1.1.2)) nR hh (he.put hd v) (.inr Fc);exact nZ hi (Region.noSelect_spec hs) (fun c a' w' hq=>hq) hv.1.2 fuel listed a w (Region.free_spec hi hv.1.1.1) (by simpa using hv.1.1.2) dY (hy a he) (by show S w.heap;rw[hh];exact Fc) hk
theorem XP.rd {ops:Array Oper} {S:Heap→Prop} {z:List Nat} {i d:Nat} {pl:List (Nat×Kd)} {op:Op} {ty:TypeId} {pos:String} {af:Array Edge} {g:Option (Nat×Bool)} {v:Value} (hi:ops[i]? =some ⟨some d,op,ty,pos,af,g⟩) (hd:Nat.blt d N=true) (hg:Gd ops ρ g true) (hr:Rd P ρ S op ty v) (k:XP P N ops S z pl (cp ρ d v) h K):XP P N ops S z ((i,.rd)::pl) ρ h K:=
 XP.Ta hi hd (fun a he=>.inl ⟨hg.wanted he,fun w' Iv=>by rw[he.eval];exact hr.out _ _ _ _ w' Iv⟩) k
theorem XP.pu {ops:Array Oper} {S:Heap→Prop} {z:List Nat} {i d:Nat} {pl:List (Nat×Kd)} {op:Op} {ty:TypeId} {pos:String} {af:Array Edge} {g:Option (Nat×Bool)} {v:Value} (hi:ops[i]? =some ⟨some d,op,ty,pos,af,g⟩) (hd:Nat.blt d N=true)
 (hy:∀a,da N a ρ→YieldsIf P ops (fun _=>True) ⟨some d,op,ty,pos,af,g⟩ v a) (k:XP P N ops S z pl (cp ρ d v) h K):XP P N ops S z ((i,.pu)::pl) ρ h K:=by
 refine⟨fun fuel listed w0 a w hv hs dY nR hh he hS=>?_⟩
 cases fuel with
 |zero=>simp[cD] at hv
 |succ fuel=>
  simp only[cD,Bool.and_eq_true] at hv;have hk:=k.out fuel _ w0 (a.put (some d) v) w hv.2 hs (dY.set (by simpa using hv.1.2)) nR hh (he.put hd v) (hS.imp (fun hl=>by simpa[late] using hl) id);exact qL hi (Region.noSelect_spec hs) (fun c a' w' hq=>hq) fuel listed a w (Region.free_spec hi hv.1.1) (by simpa using hv.1.2) dY (hy a he) hk
theorem XP.puR {ops:Array Oper} {S:Heap→Prop} {z:List Nat} {i d:Nat} {pl:List (Nat×Kd)} {op:Op} {ty:TypeId} {pos:String} {af:Array Edge} {g:Option (Nat×Bool)} {v:Value} (hi:ops[i]? =some ⟨some d,op,ty,pos,af,g⟩) (hd:Nat.blt d N=true) (hg:Gd ops ρ g true) (hr:Rd P ρ (fun _=>True) op ty v) (k:XP P N ops S z pl (cp ρ d v) h K):XP P N ops S z ((i,.pu)::pl) ρ h K:=
 XP.pu hi hd (fun a he=>.inl ⟨hg.wanted he,fun w' _=>by rw[he.eval];exact hr.out _ _ _ _ w' trivial⟩) k
theorem XP.xg {ops:Array Oper} {S:Heap→Prop} {z:List Nat} {i d:Nat} {pl:List (Nat×Kd)} {op:Op} {ty:TypeId} {pos:String} {af:Array Edge} {g:Option (Nat×Bool)} (hi:ops[i]? =some ⟨some d,op,ty,pos,af,g⟩) (hd:Nat.blt d N=true) (hg:Gd ops ρ g false) (k:XP P N ops S z pl (cp ρ d undef) h K):XP P N ops S z ((i,.pu)::pl) ρ h K:=
 XP.pu hi hd (fun a he=>.inr ⟨hg.wanted he,rfl⟩) k
theorem XP.off {ops:Array Oper} {S:Heap→Prop} {z:List Nat} {i d:Nat} {pl:List (Nat×Kd)} {op:Op} {ty:TypeId} {pos:String} {af:Array Edge} {g:Option (Nat×Bool)} (hi:ops[i]? =some ⟨some d,op,ty,pos,af,g⟩) (hd:Nat.blt d N=true) (hg:Gd ops ρ g false) (k:XP P N ops S z pl (cp ρ d undef) h K):XP P N ops S z ((i,.rd)::pl) ρ h K:=
 XP.Ta hi hd (fun a he=>.inr ⟨hg.wanted he,rfl⟩) k
theorem XP.wrG {ops:Array Oper} {S:Heap→Prop} {z:List Nat} {i:Nat} {d:Option Nat} {pl:List (Nat×Kd)} {op:Op} {ty:TypeId} {pos:String} {af:Array Edge} {g:Option (Nat×Bool)} {R:Value→Heap→Prop} {pk:List PanicEntry→Heap→Prop}
 (hi:ops[i]? =some ⟨d,op,ty,pos,af,g⟩) (hd:ei N d=true) (hg:Gd ops ρ g true) (hr:Wr P ρ h op ty R pk) (k:∀v h',R v h'→((z.contains i=true∧late z pl=true)∨S h')∧XP P N ops S z pl (fX ρ d v) h' K) (kp:∀c h',pk c h'→K (.panic c) ρ h'):XP P N ops S z ((i,.wr)::pl) ρ h K:=by
 refine⟨fun fuel listed w0 a w hv hs dY nR hh he hS=>?_⟩
 cases fuel with
 |zero=>simp[cD] at hv
 |succ fuel=>
  simp only[cD,Bool.and_eq_true] at hv;(have pI:Region.ready .any ops listed=[i]:=by simpa using hv.1);refine⟨fun h0=>(by rw[pI] at h0;cases h0),fun j hj=>?_⟩;rw[pI,List.mem_singleton] at hj;subst hj;unfold wpOp;simp only[hi,hg.wanted he,if_true];refine .inl (hr.out d pos af g a w _ _ he.eval hh (fun v w' h2 h3=>?_) (fun c w' h2 h3=>⟨rfl,nR.trans h2,ρ,trivial,kp c _ h3⟩));obtain⟨Fc,hk⟩:=k v _ h3;have:=hk.out fuel _ w0 (a.put d v) w' hv.2 hs (dY.set (by rw[pI];simp)) (nR.trans h2) rfl (he.E5 hd v) (Fc.imp (·.2) id);rw[put_defers] at this;exact⟨Fc.imp (·.1) (fun h _=>h),this⟩
theorem XP.wr {ops:Array Oper} {S:Heap→Prop} {z:List Nat} {i:Nat} {d:Option Nat} {pl:List (Nat×Kd)} {op:Op} {ty:TypeId} {pos:String} {af:Array Edge} {g:Option (Nat×Bool)} {R:Value→Heap→Prop} {pk:List PanicEntry→Heap→Prop}
 (hi:ops[i]? =some ⟨d,op,ty,pos,af,g⟩) (hd:ei N d=true) (hg:Gd ops ρ g true) (hr:Wr P ρ h op ty R pk) (k:∀v h',R v h'→S h'∧XP P N ops S z pl (fX ρ d v) h' K) (kp:∀c h',pk c h'→K (.panic c) ρ h'):XP P N ops S z ((i,.wr)::pl) ρ h K:=
 XP.wrG hi hd hg hr (fun v h' hR=>⟨.inr (k v h' hR).1,(k v h' hR).2⟩) kp
theorem XP.O6 {ops:Array Oper} {S:Heap→Prop} {z:List Nat} {i:Nat} {d:Option Nat} {pl:List (Nat×Kd)} {op:Op} {ty:TypeId} {pos:String} {af:Array Edge} {g:Option (Nat×Bool)}
 (hi:ops[i]? =some ⟨d,op,ty,pos,af,g⟩) (hd:ei N d=true) (hg:Gd ops ρ g false) (k:XP P N ops S z pl (fX ρ d undef) h K):XP P N ops S z ((i,.wr)::pl) ρ h K:=by
 refine⟨fun fuel listed w0 a w hv hs dY nR hh he hS=>?_⟩
 cases fuel with
 |zero=>simp[cD] at hv
 |succ fuel=>
  simp only[cD,Bool.and_eq_true] at hv;(have pI:Region.ready .any ops listed=[i]:=by simpa using hv.1);refine⟨fun h0=>(by rw[pI] at h0;cases h0),fun j hj=>?_⟩;rw[pI,List.mem_singleton] at hj;subst hj;unfold wpOp;simp only[hi,hg.wanted he];have:=k.out fuel _ w0 (a.put d undef) w hv.2 hs (dY.set (by rw[pI];simp)) nR hh (he.E5 hd _) (hS.imp (fun hl=>by simp only[late,List.all_cons,Bool.and_eq_true] at hl⊢;exact hl.2) id);rw[put_defers] at this;exact⟨hS.imp (fun hl=>by simp only[late,List.all_cons,Bool.and_eq_true] at hl;exact hl.1) (fun _ h=>h),this⟩
theorem draw {id:Nat} {ops:Array Oper} (hm:P.follows .mixedOrders=true) (S:Heap→Prop) (z:List Nat) (pl:List (Nat×Kd)) (hv:(cD ops z pl ops.size (Array.replicate ops.size false)&&Region.noSelect ops)=true) (hS:S h) (hx:XP P N ops S z pl ρ h K):X P N (.region id ops true) ρ h K:=by
 refine⟨fun w0 a w hs hh he=>?_⟩;simp only[Bool.and_eq_true] at hv;refine wp_region_any hm (mZ (S:=fun w=>S w.heap) (z:=z) _ _ _ _ ?_);exact hx.out ops.size _ w0 a _ hv.1 hv.2 (fun j oj _ hl=>by simp[Array.getElem?_replicate] at hl;split at hl<;>simp at hl) (hs.trans ⟨rfl,rfl,rfl⟩) hh he (.inr hS)
structure tQ (h:Heap) (e:TypeId) (size:Nat) (v:Value) (n:Nat) (xs:List Value) (F:Nat→Prop):Prop where
 len:xs.length=n*size
 alt:((v=.slice none 0 0∧n=0)∨
  ∃g cap cur,v=.slice (some ⟨g,0,none⟩) n cap∧F g∧wX h g cur e∧n≤cap∧cap≤maxLen∧cap*size≤cur.length∧cur.take (n*size)=xs)
theorem tQ.nil (h:Heap) (e:TypeId) (size:Nat) (F:Nat→Prop):tQ h e size (.slice none 0 0) 0 [] F:=⟨by simp,.inl ⟨rfl,rfl⟩⟩
structure Ac (h h':Heap) (row:Option Nat):Prop where
 size:h.size≤h'.size
 get:∀k,k<h.size→some k≠row→h'[k]? =h[k]?
theorem Wr.append {T e:TypeId} {x y:Operand} {ty:TypeId} {r re:Ty} {v:Value} {n m c g o:Nat} {xs news:List Value} {F:Nat→Prop} (hT:av P T=some r) (hk:r.k=.slice e) (hE:av P e=some re) (hz:re.zero.length=re.size)
 (xh:tQ h e re.size v n xs F) (hs:ev ρ x=v) (bL:Row h g o news) (hy:ev ρ y=.slice (some ⟨g,o,none⟩) m c) (hl:news.length=m*re.size) (h1:dn news) (hm:0<m) (zg:n+m≤maxLen) (hb:(n+m)*re.bytes≤140737488355328):
 Wr P ρ h (.call {callee:=.builtin .append,args:=#[x,y],argTypes:=#[T,T]}) ty (fun v' h'=>tQ h' e re.size v' (n+m) (xs++news) (fun k=>F k∨h.size≤k)∧Ac h h' v.ownBlock∧(v'.ownBlock=v.ownBlock∨∃k,v'.ownBlock=some k∧h.size≤k)) mI:=by
 (refine Wr.run fun d pos af gd w hw=>?_);obtain⟨dd,i,z,e1,e2,-⟩:=aD hT;obtain⟨tO,i',z',rN,qI,jz,kA,z8,vk,zf⟩:=aD hE;rw[hk] at e2;(cases dd<;>simp[kindOf] at e2);rw[e2] at e1;clear e2;(have eA:∀j u,news[j]? =some u→w.cell? ((⟨g,o,none⟩:Addr).add j)=some u:=fun j u hu=>by rw[addr_add];exact(bL.OX hu).cell hw);(have vm:z'.cells.size=re.size:=by rw[←Array.length_toList,zf,hz]);(have O7:n+m≤9223372036854775807:=by simp only[maxLen] at zg;omega);have hlen:(xs++news).length=(n+m)*re.size:=by rw[List.length_append,xh.len,hl,Nat.add_mul]
 have grown:∀(r7:Nat),r7<n+m→∀(row:Option Nat),
  tQ (w.drew.alloc (.cells (xs.toArray++news.toArray++Builtin.zeroCells z'.cells (grownCap w (n+m) r7 e-(n+m))) e)).heap e re.size
   (.slice (some ⟨w.heap.size,0,none⟩) (n+m) (grownCap w (n+m) r7 e)) (n+m) (xs++news) (fun k=>F k∨h.size≤k)∧
  Ac h (w.drew.alloc (.cells (xs.toArray++news.toArray++Builtin.zeroCells z'.cells (grownCap w (n+m) r7 e-(n+m))) e)).heap row:=by
  intro r7 ho row;have Io:=grownCap_ge w (n+m) r7 e;have zh:grownCap w (n+m) r7 e≤maxLen:=grownCap_le_maxLen w (n+m) r7 e zg;refine⟨⟨hlen,.inr ⟨w.heap.size,_,(xs.toArray++news.toArray++Builtin.zeroCells z'.cells (grownCap w (n+m) r7 e-(n+m))).toList,rfl,.inr (by rw[←hw];exact Nat.le_refl _),?_,Io,zh,?_,?_⟩⟩,⟨by rw[←hw];simp[World.alloc],fun k hk _=>by rw[←hw] at hk⊢;exact iK hk⟩⟩
  ·exact⟨by rw[Array.toArray_toList];exact iL rfl⟩
  ·simp only[Array.length_toList,Array.size_append,List.size_toArray,size_zeroCells,vm,xh.len,hl,←Nat.add_mul];apply Nat.mul_le_mul_right;omega
  ·simp only[Array.toList_append,List.append_assoc];rw[←List.append_assoc,←hlen];exact List.take_left
 have mN:∀v' w',(Builtin.append_ #[T,T] ty #[v,.slice (some ⟨g,o,none⟩) m c]).run P w=.ok v' w'→(execOp (ev ρ) ⟨d,.call {callee:=.builtin .append,args:=#[x,y],argTypes:=#[T,T]},ty,pos,af,gd⟩).run P w=.ok (.value v') w':=fun v' w' hr=>by
  simp only[execOp,resolve,invoke,builtin,Sem.run_bind,Sem.run_pure,Result.andThen_ok,List.map_toArray,List.map_cons,List.map_nil,hs,hy,hr]
 (have pJ:news.length=m*i'.size:=by rw[kA];exact hl);rcases xh.alt with ⟨rfl,rfl⟩|⟨gg,cap,cur,rfl,hF,hg,Ad,zh,BH,xi⟩
 ·have hx:xs=[]:=List.eq_nil_of_length_eq_zero (by simpa using xh.len);subst hx;have hr:=run_append_nil (P:=P) w T ty e i' z' e1 jz vk ⟨g,o,none⟩ m c news pJ eA (by omega) (by omega) (by rw[z8];have:=hb;simp only[Nat.zero_add] at this;omega);have Dk:=grown 0 (by omega) (Value.ownBlock (.slice none 0 0));simp only[Nat.zero_add,List.nil_append,Array.empty_append] at Dk⊢;exact⟨_,_,mN _ _ hr,⟨rfl,rfl,rfl⟩,Dk.1,Dk.2,.inr ⟨_,rfl,by rw[←hw];exact Nat.le_refl _⟩⟩
 ·(have Iw:w.heap[gg]? =some (.cells cur.toArray e (0,0)):=by rw[hw];exact hg.get);by_cases n4:n+m≤cap
  ·have ey:n*i'.size+news.length≤cur.toArray.size:=by
    have hq:(n+m)*re.size≤cap*re.size:=Nat.mul_le_mul_right _ n4;rw[hl,kA,←Nat.add_mul];simp;omega
   have hr:=run_append_room (P:=P) w T ty e i' e1 jz gg n cap cur.toArray Iw ⟨g,o,none⟩ m c news pJ eA h1 n4 ey;refine⟨_,_,mN _ _ hr,⟨rfl,rfl,rfl⟩,⟨hlen,.inr ⟨gg,cap,cur.take (n*i'.size)++news++cur.drop (n*i'.size+news.length),rfl,.inl hF,?_,n4,zh,?_,?_⟩⟩,⟨by rw[←hw];simp,fun k _ hk=>?_⟩,.inl rfl⟩
   ·exact⟨setRow_heap w gg cur.toArray _ e _ Iw⟩
   ·simp at ey;simp only[List.length_append,List.length_take,List.length_drop];omega
   ·rw[kA] at*;rw[xi,←hlen];exact List.take_left
   ·rw[←hw];exact setRow_other w gg k _ (fun e=>hk (by simp[Value.ownBlock,e]))
  ·have holds:∀j u,xs[j]? =some u→w.cell? ((⟨gg,0,none⟩:Addr).add j)=some u:=fun j u hu=>by
    rw[addr_add];rw[←xi] at hu
    have hc:cur[j]? =some u:=by
     rw[List.getElem?_take] at hu;split at hu
     ·exact hu
     ·cases hu
    simp[World.cell?,Iw,hc]
   have hr:=run_append_grow (P:=P) w T ty e i' z' e1 jz vk ⟨gg,0,none⟩ n cap xs (by rw[kA];exact xh.len) holds ⟨g,o,none⟩ m c news pJ eA (by omega) (by omega) (growslice_fits (by omega) (by rw[z8];exact hb));have Dk:=grown cap (by omega) (Value.ownBlock (.slice (some ⟨gg,0,none⟩) n cap));exact⟨_,_,mN _ _ hr,⟨rfl,rfl,rfl⟩,Dk.1,Dk.2,.inr ⟨_,rfl,by rw[←hw];exact Nat.le_refl _⟩⟩
theorem Fe (l:List Value):∀(k o:Nat) (acc:Array Value),o+k+l.length≤acc.size→((l.zipIdx k).foldl (fun(a:Array Value) (p:Value×Nat)=>a.setIfInBounds (o+p.2) p.1) acc).toList=acc.toList.take (o+k)++l++acc.toList.drop (o+k+l.length):=by
 induction l with
 |nil=>intro k o acc hk;simp
 |cons c cs ih=>
  intro k o acc hk;simp only[List.length_cons] at hk;simp only[List.zipIdx_cons,List.foldl_cons];rw[ih (k+1) o _ (by simp;omega)];simp only[Array.toList_setIfInBounds,List.length_cons];have:=list_seg_step acc.toList (o+k) c cs (by simp;omega);simpa[Nat.add_assoc,Nat.add_comm 1] using this
def tI (place:Nat→Option (Nat×Nat)):List (Nat×Value)→List Value→Option (List Value)
 |[],z=>some z
 |(i,v)::ps,z=>match place i with
  |some (off,sz)=>if v.cells.size=sz∧off+sz≤z.length then tI place ps (aJ z off v.cells.toList) else none
  |none=>none
theorem n5 (place:Nat→Option (Nat×Nat)):∀(ps:List (Nat×Value)) (z cs:List Value),tI place ps z=some cs→Instr.fill place z.toArray ps=some cs.toArray
 |[],z,cs,hb=>by simp only[tI,Option.some.injEq] at hb;subst hb;rfl
 |(i,v)::ps,z,cs,hb=>by
  simp only[tI] at hb;simp only[Instr.fill]
  cases hp:place i with
  |none=>rw[hp] at hb;cases hb
  |some q=>
   obtain⟨off,sz⟩:=q;rw[hp] at hb;simp only at hb⊢;split at hb
   ·rename_i hc;rw[if_neg (by simp;omega)]
    have e:Array.foldl (fun(cs:Array Value) (p:Value×Nat)=>cs.setIfInBounds (off+p.2) p.1) z.toArray v.cells.zipIdx=(aJ z off v.cells.toList).toArray:=by
     apply Array.ext';rw[←Array.foldl_toList];have:=Fe v.cells.toList 0 off z.toArray (by simp;omega);simp only[Nat.add_zero,Array.toList_zipIdx] at this⊢;rw[this];rfl
    have ih:=n5 place ps _ cs hb;rw[←e] at ih;exact ih
   ·cases hb
def places (tb:Nat→Option Ty) (fs:List (TypeId×Nat)):Option (List (Nat×Nat)):=fs.mapM fun p=>(tb p.1).map fun r=>(p.2,r.size)
theorem run_places {tb:Nat→Option Ty} (wM:∀T r,tb T=some r→av P T=some r) (w:World):∀(fs:List Field) (pl:List (Nat×Nat)),places tb (fs.map fun f=>(f.type,f.offset))=some pl→
 ((fs.mapM fun f=>do pure (f.offset,←sizeOf f.type):Sem (List (Nat×Nat)))).run P w=.ok pl w:=by
 intro fs
 induction fs with
 |nil=>intro pl hp;simp[places] at hp;subst hp;rfl
 |cons f fs ih=>
  intro pl hp;simp only[places,List.map_cons,List.mapM_cons,Option.bind_eq_bind,Option.pure_def,Option.bind_eq_some_iff,Option.some.injEq,Option.map_eq_some_iff] at hp;obtain⟨q,⟨r,hr,rfl⟩,pl',tR,rfl⟩:=hp;obtain⟨dd,i,z,e1,e2,e3,e4,-⟩:=aD (wM _ _ hr);have hi:=ih pl' tR;(have gD:(sizeOf f.type).run P w=.ok r.size w:=by simp[sizeOf,typeInfo,e3,e4]);simp only[List.mapM_cons,Sem.run_bind,gD,Result.andThen_ok,Sem.run_pure,hi]
section
variable {S:Heap→Prop} {ty:TypeId}
theorem Rd.build {T:TypeId} {tb:Nat→Option Ty} {parts:List (Nat×Operand)} {ps:List (Nat×Value)} {r:Ty} {fs:List (TypeId×Nat)} {pl:List (Nat×Nat)} {cs:List Value} (wM:∀T r,tb T=some r→av P T=some r) (hT:tb T=some r) (hk:r.k=.struct fs) (tR:places tb fs=some pl)
 (hp:(parts.map fun p=>(p.1,ev ρ p.2))=ps) (hb:tI (pl[·]?) ps r.zero=some cs):Rd P ρ S (.build T parts.toArray) ty (.agg cs.toArray):=by
 (refine .pure fun d pos af gd w=>?_);obtain⟨dd,i,z,e1,e2,e3,e4,e5,e6,e7⟩:=aD (wM _ _ hT);rw[hk] at e2;(cases dd<;>simp[kindOf] at e2);rename_i fields;subst e2;(have hz:z.cells=r.zero.toArray:=by rw[←e7]);have hf:=n5 _ ps r.zero cs hb;have O8:Array.map (fun(i,x)=>(i,ev ρ x)) parts.toArray=ps.toArray:=by rw[←hp];simp
 have hm:((fields.mapM fun f=>do Pure.pure (f.offset,←sizeOf f.type):Sem (Array (Nat×Nat)))).run P w=.ok pl.toArray w:=by
  have:=run_places wM w fields.toList pl tR;rw[Array.mapM_eq_mapM_toList,Sem.run_map,this];rfl
 simp only[execOp,Instr.build,Sem.run_bind,zeroValue,typeInfo];simp only[Sem.run_bind,run_program,Result.andThen_ok,e3,Sem.run_pure,e6,run_underlying e1,O8,hz];simp only[Sem.run_bind,hm,Result.andThen_ok];(have Xs:(fun x:Nat=>pl.toArray[x]?)=(fun x:Nat=>pl[x]?):=by funext x;simp);simp[Xs,hf]
theorem Rd.vq {T:TypeId} {tb:Nat→Option Ty} {parts:List (Nat×Operand)} {ps:List (Nat×Value)} {r re:Ty} {n e:Nat} {cs:List Value} (wM:∀T r,tb T=some r→av P T=some r) (hT:tb T=some r) (hk:r.k=.array n e) (hE:tb e=some re)
 (hp:(parts.map fun p=>(p.1,ev ρ p.2))=ps) (hb:tI (fun i=>some (i*re.size,re.size)) ps r.zero=some cs):Rd P ρ S (.build T parts.toArray) ty (.agg cs.toArray):=by
 (refine .pure fun d pos af gd w=>?_);obtain⟨dd,i,z,e1,e2,e3,e4,e5,e6,e7⟩:=aD (wM _ _ hT);obtain⟨tO,i',z',rN,qI,jz,kA,-⟩:=aD (wM _ _ hE);rw[hk] at e2;(cases dd<;>simp[kindOf] at e2);have he:=e2.2;(have hz:z.cells=r.zero.toArray:=by rw[←e7]);have hf:=n5 _ ps r.zero cs hb;(have O8:Array.map (fun(i,x)=>(i,ev ρ x)) parts.toArray=ps.toArray:=by rw[←hp];simp);(have gD:∀E,E=e→(sizeOf E).run P w=.ok re.size w:=by rintro _ rfl;simp[sizeOf,typeInfo,jz,kA]);simp only[execOp,Instr.build,Sem.run_bind,zeroValue,typeInfo];simp only[Sem.run_bind,run_program,Result.andThen_ok,e3,Sem.run_pure,e6,run_underlying e1,O8,hz];rw[gD _ he];simp[hf]
theorem Wr.buildSlice {T e len n:Nat} {tb:Nat→Option Ty} {parts:List (Nat×Operand)} {ps:List (Nat×Value)} {r re:Ty} {cs:List Value} (wM:∀T r,tb T=some r→av P T=some r) (hT:tb T=some r) (hk:r.k=.slice e) (hE:tb e=some re) (hn:h.size=n) (hz:re.zero.length=re.size)
 (nR:Nat.ble (len*re.size) 16777216=true) (hp:(parts.map fun p=>(p.1,ev ρ p.2))=ps) (hb:tI (fun i=>some (i*re.size,re.size)) ps ((List.range (len*re.size)).map fun k=>re.zero.getD (k%re.size) undef)=some cs):
 Wr P ρ h (.buildSlice T len parts.toArray) ty (fun v' h'=>v'=.slice (some ⟨n,0,none⟩) len len∧h'=h.push (.cells cs.toArray e (0,0))) mI:=by
 subst hn;(refine Wr.run fun d pos af gd w hw=>?_);obtain⟨dd,i,z,e1,e2,-⟩:=aD (wM _ _ hT);obtain⟨tO,i',z',rN,qI,jz,kA,z8,vk,zf⟩:=aD (wM _ _ hE);have abH:=Nat.le_of_ble_eq_true nR;rw[hk] at e2;(cases dd<;>simp[kindOf] at e2);rw[e2] at e1;clear e2;(have vm:z'.cells.size=re.size:=by rw[←Array.length_toList,zf,hz]);(have O8:Array.map (fun(i,x)=>(i,ev ρ x)) parts.toArray=ps.toArray:=by rw[←hp];simp);have hf:=n5 _ ps _ cs hb
 have hzero:∀zz:Array Value,(zz=z'.cells∨len*re.size=0)→(Array.range (len*re.size)).map (fun k=>zz[k%zz.size]!)=((List.range (len*re.size)).map fun k=>re.zero.getD (k%re.size) undef).toArray:=by
  intro zz hzz;apply Array.ext';rcases hzz with rfl|h0
  ·simp only[Array.toList_map,Array.toList_range,vm];apply List.map_congr_left;intro k hk
   have aT:k%re.size<re.size:=Nat.mod_lt _ (by
    rcases Nat.eq_zero_or_pos re.size with h0|h0
    ·rw[h0,Nat.mul_zero] at hk;simp at hk
    ·exact h0)
   rw[←zf];(have Ff:k%re.size<z'.cells.size:=by rw[vm];exact aT);simp[getElem!_pos,Ff,List.getD_eq_getElem?_getD]
  ·rw[h0];simp
 refine⟨_,w.alloc (.cells cs.toArray e (0,0)),?_,⟨rfl,rfl,rfl⟩,rfl,by rw[←hw];rfl⟩;simp only[execOp,Instr.buildSlice,Sem.run_bind,run_underlying e1,Result.andThen_ok,O8,sizeOf,typeInfo,run_program,jz,kA,Sem.run_pure,zeroValue,vk];rw[if_neg (by omega)];by_cases h0:len*re.size=0
 ·have Tb:=hf;rw[←hzero #[] (.inr h0)] at Tb;rw[if_pos h0];simp only[Sem.run_bind,Sem.run_pure,Result.andThen_ok];rw[Tb];simp[newRow,hw]
 ·have Tb:=hf;rw[←hzero z'.cells (.inl rfl)] at Tb;rw[if_neg h0];simp only[Sem.run_bind,Sem.run_pure,Result.andThen_ok,run_program,jz,vk];rw[Tb];simp[newRow,hw]
theorem Rd.xj {T:TypeId} {x:Operand} {r re:Ty} {n e g o:Nat} (hT:av P T=some r) (hk:r.k=.array n e) (hE:av P e=some re) (hx:ev ρ x=.pointer (some ⟨g,o,none⟩)):Rd P ρ S (.slice T x none none none) ty (.slice (some ⟨g,o,none⟩) n n):=by
 (refine .pure fun d pos af gd w=>?_);obtain⟨dd,i,z,e1,e2,-⟩:=aD hT;obtain⟨tO,i',z',rN,qI,jz,kA,-⟩:=aD hE;rw[hk] at e2;(cases dd<;>simp[kindOf] at e2);obtain⟨rfl,rfl⟩:=e2;simp[execOp,Instr.sliceAt,run_underlying e1,hx,Instr.sureAddr,Instr.sliceBounds,sizeOf,typeInfo,jz,addr_add]
theorem Rd.j0 {T:TypeId} {x:Operand} {lo hi mx:Option Operand} {r re:Ty} {e len cap l hh m:Nat} {a:Option Addr} (hT:av P T=some r) (hk:r.k=.slice e) (hE:av P e=some re) (hx:ev ρ x=.slice a len cap)
 (hb:∀w,(Instr.sliceBounds true len cap (lo.map (ev ρ)) (hi.map (ev ρ)) (mx.map (ev ρ))).run P w=.ok (l,hh,m) w):Rd P ρ S (.slice T x lo hi mx) ty (.slice (if m=l then a else a.map (·.add (l*re.size))) (hh-l) (m-l)):=by
 (refine .pure fun d pos af gd w=>?_);obtain⟨dd,i,z,e1,e2,-⟩:=aD hT;obtain⟨tO,i',z',rN,qI,jz,kA,-⟩:=aD hE;rw[hk] at e2;(cases dd<;>simp[kindOf] at e2);rw[e2] at e1;(have hs:(sizeOf e).run P w=.ok re.size w:=by simp[sizeOf,typeInfo,jz,kA]);simp only[execOp,Instr.sliceAt,Sem.run_bind,run_underlying e1,Result.andThen_ok,hx,Instr.slice,hb w,hs,Sem.run_pure]
theorem lC {y:Nat} {c:BoundsCode} {kk:IntKind} {i:Int} (h0:0≤i) (h1:i≤y) (w:World):(Instr.sliceBound (.int kk i) y c).run P w=.ok i.toNat w:=by
 simp[Instr.sliceBound,asIntOf,h0,h1]
theorem Rd.sliceFrom {T:TypeId} {x y:Operand} {r re:Ty} {e len cap g o:Nat} {i:Int} {kk:IntKind} (hT:av P T=some r) (hk:r.k=.slice e) (hE:av P e=some re) (hx:ev ρ x=.slice (some ⟨g,o,none⟩) len cap) (hy:ev ρ y=.int kk i) (hi:0≤i∧i≤len) (hc:i.toNat<cap):Rd P ρ S (.slice T x (some y) none none) ty (.slice (some ⟨g,o+i.toNat*re.size,none⟩) (len-i.toNat) (cap-i.toNat)):=by
 have h:=Rd.j0 (P:=P) (ρ:=ρ) (S:=S) (ty:=ty) (lo:=some y) (hi:=none) (mx:=none) (l:=i.toNat) (hh:=len) (m:=cap) hT hk hE hx (fun w=>by simp[Instr.sliceBounds,hy,lC hi.1 hi.2]);rw[if_neg (by omega)] at h;simpa[addr_add] using h
theorem Rd.sliceTo {T:TypeId} {x y:Operand} {r re:Ty} {e len cap:Nat} {a:Option Addr} {i:Int} {kk:IntKind} (hT:av P T=some r) (hk:r.k=.slice e) (hE:av P e=some re) (hx:ev ρ x=.slice a len cap) (hy:ev ρ y=.int kk i) (hi:0≤i∧i≤cap):Rd P ρ S (.slice T x none (some y) none) ty (.slice a i.toNat cap):=by
 have h:=Rd.j0 (P:=P) (ρ:=ρ) (S:=S) (ty:=ty) (lo:=none) (hi:=some y) (mx:=none) (l:=0) (hh:=i.toNat) (m:=cap) hT hk hE hx (fun w=>by simp[Instr.sliceBounds,hy,lC hi.1 hi.2]);(have e1:(if cap=0 then a else a.map fun x=>x.add (0*re.size))=a:=by split<;>simp[Addr.add]);rw[e1] at h;simpa using h
theorem rA {T:TypeId} {r:Ty} {e:TypeId} {a:Option Addr} {n c:Nat} (hT:av P T=some r) (hk:r.k=.slice e) (w:World):(Op.equal T (.slice a n c) (.slice none 0 0)).run P w=.ok a.isNone w:=by
 obtain⟨dd,i,z,e1,e2,-⟩:=aD hT;rw[hk] at e2;(cases dd<;>simp[kindOf] at e2);show (Op.equalIn (9999+1) T _ _).run P w=_;rw[Op.equalIn];simp only[Sem.run_bind,run_underlying e1,Result.andThen_ok];cases a<;>rfl
theorem Rd.pK {T T':TypeId} {x:Operand} {r:Ty} {e:TypeId} {a:Option Addr} {n c:Nat} (hT:av P T=some r) (hk:r.k=.slice e) (hx:ev ρ x=.slice a n c):Rd P ρ S (.binOp .eql T x (.const (.slice none 0 0)) T') ty (.bool a.isNone):=by
 (refine .pure fun d pos af gd w=>?_);have h1:=rA (P:=P) (T:=T) (a:=a) (n:=n) (c:=c) hT hk w;simp only[execOp,eqGuard,hx,ev,binOp,Sem.run_bind];simp[h1]
end
end
end X
namespace X
open Go
structure St (A:Nat→Prop) (h:Heap) (t:Nat→Nat) (h':Heap) (t':Nat→Nat):Prop where
 size:h.size≤h'.size
 tag:∀k,k<h.size→t' k=t k
 get:∀k,k<h.size→¬A (t k)→h'[k]? =h[k]?
theorem St.trans {A:Nat→Prop} {a b c:Heap} {t t' t'':Nat→Nat} (x:St A a t b t') (y:St A b t' c t''):St A a t c t'':=
 ⟨Nat.le_trans x.size y.size,fun k hk=>(y.tag k (Nat.lt_of_lt_of_le hk x.size)).trans (x.tag k hk),fun k hk hn=>(y.get k (Nat.lt_of_lt_of_le hk x.size) (by rw[x.tag k hk];exact hn)).trans (x.get k hk hn)⟩
theorem EL.st {A:Nat→Prop} {a b:Heap} {t t':Nat→Nat} (x:St A a t b t') {g o:Nat} {v:Value} (hA:¬A (t g)) (hc:EL a g o v):EL b g o v:=by
 have hl:=hc.lt;obtain⟨l,T,fr,h1,h2⟩:=hc;exact⟨l,T,fr,(x.get g hl hA).trans h1,h2⟩
theorem Row.st {A:Nat→Prop} {a b:Heap} {t t':Nat→Nat} (x:St A a t b t') {g o:Nat} {vs:List Value} (hA:¬A (t g)) (hc:Row a g o vs):Row b g o vs:=by
 have hl:=hc.lt;obtain⟨l,T,fr,h1,h2⟩:=hc;exact⟨l,T,fr,(x.get g hl hA).trans h1,h2⟩
theorem wX.st {A:Nat→Prop} {a b:Heap} {t t':Nat→Nat} (x:St A a t b t') {g:Nat} {l:List Value} {T:TypeId} (hA:¬A (t g)) (hc:wX a g l T):wX b g l T:=⟨(x.get g hc.lt hA).trans hc.get⟩
theorem tQ.st {A:Nat→Prop} {a b:Heap} {t t':Nat→Nat} (x:St A a t b t') {e:TypeId} {size:Nat} {v:Value} {n:Nat} {xs:List Value} {F F':Nat→Prop} (hA:∀g,F g→¬A (t g)) (hF:∀g,g<a.size→F g→F' g) (hc:tQ a e size v n xs F):tQ b e size v n xs F':=by
 obtain⟨h1,h2|⟨g,cap,cur,r1,r2,r3,r4⟩⟩:=hc
 ·exact⟨h1,.inl h2⟩
 ·exact⟨h1,.inr ⟨g,cap,cur,r1,hF g r3.lt r2,r3.st x (hA g r2),r4⟩⟩
theorem tQ.Tc {a:Heap} {e:TypeId} {size:Nat} {v:Value} {n:Nat} {xs:List Value} {F F':Nat→Prop} (hF:∀g,g<a.size→F g→F' g) (hc:tQ a e size v n xs F):tQ a e size v n xs F':=by
 obtain⟨h1,h2|⟨g,cap,cur,r1,r2,r3,r4⟩⟩:=hc
 ·exact⟨h1,.inl h2⟩
 ·exact⟨h1,.inr ⟨g,cap,cur,r1,hF g r3.lt r2,r3,r4⟩⟩
theorem tQ.shape {a:Heap} {e:TypeId} {size:Nat} {v:Value} {n:Nat} {xs:List Value} {F:Nat→Prop} (hc:tQ a e size v n xs F):∃p c,v=.slice p n c:=by
 obtain⟨h1,⟨h2,h3⟩|⟨g,cap,cur,r1,r2⟩⟩:=hc
 ·exact⟨none,0,by rw[h2,h3]⟩
 ·exact⟨_,_,r1⟩
theorem Ac.trans {a b c:Heap} {row:Option Nat} (x:Ac a b row) (y:Ac b c row):Ac a c row:=⟨Nat.le_trans x.size y.size,fun k hk hn=>(y.get k (Nat.lt_of_lt_of_le hk x.size) hn).trans (x.get k hk hn)⟩
theorem Ac.set {a b:Heap} {g:Nat} (x:Ac a b (some g)) (l:List Value) (T:TypeId):Ac a (jL b g l T) (some g):=⟨by rw[De];exact x.size,fun k hk hn=>by rw[qH (fun e=>hn (by rw[e]))];exact x.get k hk hn⟩
theorem Ac.st {a b:Heap} {g i:Nat} {t:Nat→Nat} (x:Ac a b (some g)) (ht:t g=i):St (· =i) a t b t:=⟨x.size,fun _ _=>rfl,fun k hk hn=>x.get k hk fun e=>hn (by simp at e;subst e;exact ht)⟩
def t0:Nat→Nat:=fun _=>0
theorem Row.sub {h:Heap} {g o:Nat} {vs us:List Value} (hr:Row h g o vs) {j:Nat} (hu:(vs.drop j).take us.length=us):Row h g (o+j) us:=by
 obtain⟨l,T,fr,h1,h2⟩:=hr;refine⟨l,T,fr,h1,?_⟩
 have:us.length≤vs.length-j:=by
  have:=congrArg List.length hu;simp at this;omega
 rw[←h2] at hu;rw[List.drop_take,List.take_take,List.drop_drop] at hu
 rwa [Nat.min_eq_left this] at hu
theorem lD {α:Type} (f:α→List Value) (s:Nat):∀(l:List α),(∀x∈l,(f x).length=s)→∀(k:Nat) (x:α),l[k]? =some x→((l.flatMap f).drop (k*s)).take (f x).length=f x
 |[],_,k,x,hk=>by simp at hk
 |a::l,hl,0,x,hk=>by
  simp at hk;subst hk;simp
 |a::l,hl,k+1,x,hk=>by
  have ih:=lD f s l (fun y hy=>hl y (by simp[hy])) k x (by simpa using hk);have ha:=hl a (by simp);simp only[List.flatMap_cons];rw[Nat.succ_mul,Nat.add_comm,←ha,←List.drop_drop,List.drop_left];rw[ha];exact ih
theorem lE {α:Type} (f:α→List Value) (s:Nat):∀(l:List α),(∀x∈l,(f x).length=s)→(l.flatMap f).length=l.length*s
 |[],_=>by simp
 |a::l,hl=>by simp[lE f s l (fun y hy=>hl y (by simp[hy])),hl a (by simp),Nat.succ_mul];omega
abbrev ints (l:List Int):List Value:=l.map (Value.int .i64)
def wv (l:List Int):Value:=.agg (ints l).toArray
theorem jd (l:List Int):(wv l).cells=(ints l).toArray:=rfl
theorem gM (l:List Value):(Value.agg l.toArray).cells=l.toArray:=rfl
theorem dP (l:List Int):dn (ints l):=by intro v hv;simp at hv;obtain⟨n,_,rfl⟩:=hv;rfl
abbrev ptr (b:Nat):Value:=.pointer (some ⟨b,0,none⟩)
abbrev i64 (n:Int):Value:=.int .i64 n
end X
end Go.Proofs.YtgeoiflbjcehcaaGreatDoor
